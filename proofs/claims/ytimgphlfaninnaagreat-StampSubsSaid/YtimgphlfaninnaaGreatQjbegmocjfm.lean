import Derived.Test.YtimgphlfaninnaaGreatQoobaoafdnj
import Derived.Test.YtimgphlfaninnaaGreatQghjfngbobd
import Derived.Test.YtimgphlfaninnaaGreatQjjckkmidhd
namespace Go.Proofs.YtimgphlfaninnaaGreat.P
open Go.RowKit Go.Proofs.YtimgphlfaninnaaGreatW.PrintWords Go.Proofs.YtimgphlfaninnaaGreatW.PrintLast Go.Proofs.YtimgphlfaninnaaGreatW.PrintMore
 attribute [local go_sem] jQ jP zB zC jE jD jO jN
set_option linter.unusedVariables false
set_option linter.unusedSimpArgs false
def kY.l0 : Nat → List Int → List Int → List Int → List Int → Int → Option (List Int × List Int)
 | 0, _, _, _, _, _ => none
 | k + 1, x0, x1, x6, x7, x8 => if x8 ≥ 0 then ((bI.f k x7 x7).bind fun t457 => (if 0 < (t457.length : Int) then (if 0 ≤ (wrap64 (Int.tdiv x8 32)) then (if (wrap64 (Int.tdiv x8 32)) < (x0.length : Int) then (if 0 ≤ (IntKind.u64.wrap (Int.tmod x8 32)) then ((some (t457.set (0 : Int).toNat (Go.bits .or .u64 (rd t457 0) (Go.bits .and .u64 (shr .u64 (rd x0 (wrap64 (Int.tdiv x8 32))) (IntKind.u64.wrap (Int.tmod x8 32))) 1)) : List Int)).bind fun y462 => ((bG.f k y462 x1).bind fun t463 => (if t463 ≥ 0 then ((bD.f k y462 x1).bind fun t464 => (if (wrap64 (Int.tdiv x8 32)) < (x6.length : Int) then (kY.l0 k x0 x1 (x6.set ((wrap64 (Int.tdiv x8 32)) : Int).toNat (Go.bits .or .u64 (rd x6 (wrap64 (Int.tdiv x8 32))) (shl .u64 1 (IntKind.u64.wrap (Int.tmod x8 32))))) t464 (wrap64 (x8 - 1))) else (none))) else (kY.l0 k x0 x1 x6 y462 (wrap64 (x8 - 1)))))) else (none)) else (none)) else (none)) else (none))) else (some (x6, x7))
def kY.f (k : Nat) (l0 : List Int) (l1 : List Int) : Option (List Int × List Int) := if 6 ≤ 35184372088832 then (kY.l0 k l0 l1 (List.replicate 6 0) (List.replicate 6 0) 191) else (none)
def kY.T7 : Bool × List (List Nat × List Nat) := (true, [([], []), ([], []), ([1], [1]), ([2], [2]), ([], []), ([], []), ([5], [5]), ([4, 6], [4, 6]), ([7], [7]), ([], []), ([9], [9]), ([10], [10]), ([8, 11], [8, 11]), ([12], [12]), ([3, 13], [3, 13]), ([0, 0, 1, 2, 3, 4, 5, 6, 7, 8, 9, 10, 11, 12, 13, 14], [0]), ([15, 14, 0, 1, 2, 3, 4, 5, 6, 7, 8, 9, 10, 11, 12, 13, 14], [14, 15])])
def kY.B7 : List Nat := [0, 0, 2, 6, 0, 0, 32, 112, 240, 0, 512, 1536, 4080, 8176, 16382, 32767, 65535]
theorem kY.tab7 : rtab .any (opsOf Tryz.f146 7) = kY.T7 := by kernel_rfl
theorem kY.bits7 : waitsOk kY.T7.2 kY.B7 = true := by kernel_rfl
set_option maxHeartbeats 8000000 in
set_option maxRecDepth 100000 in
theorem kY.calls (k : Nat) (A0 : Option Addr) (c0 : Nat) (l0 : List Int) (A1 : Option Addr) (c1 : Nat) (l1 : List Int) (r1 : List Int) (r2 : List Int) (w : World) (hr0 : Kd.C (Kd.int .u64) w A0 l0.length l0) (hc0 : l0.length ≤ c0) (hr1 : Kd.C (Kd.int .u64) w A1 l1.length l1) (hc1 : l1.length ≤ c1) (h : kY.f k l0 l1 = some (r1, r2)) :
 Calls Tryz.prog 146 #[.slice A0 l0.length c0, .slice A1 l1.length c1] w fun e w' => ∃ v0_ v1_ : Value, e = .returned (.tuple #[v0_, v1_]) ∧ Kd.R (Kd.int .u64) 155 w' w.heap.size (fun k_ => some k_ ≠ (v1_ : Value).ownBlock) v0_ r1 ∧ Kd.R (Kd.int .u64) 155 w' w.heap.size (fun k_ => some k_ ≠ (v0_ : Value).ownBlock) v1_ r2 ∧ Below w.heap.size w w' := by
 have HR0 := Aside0.mk hr0
 have HC0 := Aside0.mk hc0
 clear hr0 hc0
 have HR1 := Aside0.mk hr1
 have HC1 := Aside0.mk hc1
 clear hr1 hc1
 have HB := Aside0.mk (Below.refl w.heap.size w)
 have H : (if 6 ≤ 35184372088832 then (kY.l0 k l0 l1 (List.replicate 6 0) (List.replicate 6 0) 191) else (none)) = some (r1, r2) := h
 clear h
 by_cases c3 : 6 ≤ 35184372088832
 · rw [if_pos c3] at H
   have c3b0 := eq_true c3
   have c3b1 : decide (6 ≤ 35184372088832) = true := decide_eq_true c3
   clear c3
   obtain ⟨y451, hy451⟩ : ∃ y_ : List Int, y_ = (List.replicate 6 0) := ⟨_, rfl⟩
   replace H : (kY.l0 k l0 l1 y451 (List.replicate 6 0) 191) = some (r1, r2) := by first | (rw [hy451]; with_reducible exact H) | (have H2_ := (Option.bind_some _ _).symm.trans H; rw [hy451]; with_reducible exact H2_) | (have H2_ := (Option.bind_some _ _).symm.trans H; with_reducible exact H2_) | with_reducible exact H | (rw [hy451]; exact H) | exact H
   have Ny451 := Aside0.mk hy451
   clear hy451
   obtain ⟨y454, hy454⟩ : ∃ y_ : List Int, y_ = (List.replicate 6 0) := ⟨_, rfl⟩
   replace H : (kY.l0 k l0 l1 y451 y454 191) = some (r1, r2) := by first | (rw [hy454]; with_reducible exact H) | (have H2_ := (Option.bind_some _ _).symm.trans H; rw [hy454]; with_reducible exact H2_) | (have H2_ := (Option.bind_some _ _).symm.trans H; with_reducible exact H2_) | with_reducible exact H | (rw [hy454]; exact H) | exact H
   have Ny454 := Aside0.mk hy454
   clear hy454
   have H' := Aside0.mk H
   clear H
   go_enter Tryz.func146, Tryz.ntmps146
   go_wp2_with (first | ((with_reducible refine gate_dst (N := 9) rfl ?_); refine Kd.R_make (Kd.int .u64) _ 155 rfl (N := 9) rfl 133 _ _ rfl 6 rfl rfl Tryz.underlying133 (.int .u64 0) 8 info155 rfl (by decide) (by omega) 0 (ok := fun _ => True) (okp := fun _ => True) rfl (fun _ hk => hk) trivial (by omega) (by omega) (Below.refl _ _) (Nat.le_refl _) ?_; intro v452 w4 ho5 hb hg_ hnew_; clear hg_ hnew_; (first | rw [← Ny451.out] at ho5 | (simp only [Int.reduceToNat] at ho5; rw [← Ny451.out] at ho5)); have n0_ := Aside0.mk (Kd.R_lower ho5 (zF (by repeat (first | (with_reducible first | exact HB.out | apply kO | apply kF | apply kQ) | exact HB.out)))); have n1_ := Aside0.mk (jZ (by repeat (first | (with_reducible first | exact HB.out | apply kO | apply kF | apply kQ) | exact HB.out)) hb); clear HB; have HO453 := n0_; have HB := n1_; clear n0_ n1_; clear hb ho5) | ((with_reducible refine gate_dst (N := 10) rfl ?_); refine Kd.R_make (Kd.int .u64) _ 155 rfl (N := 10) rfl 133 _ _ rfl 6 rfl rfl Tryz.underlying133 (.int .u64 0) 8 info155 rfl (by decide) (by omega) 0 (ok := fun _ => True) (okp := fun _ => True) rfl (fun _ hk => hk) trivial (by omega) (by omega) (Below.refl _ _) (Nat.le_refl _) ?_; intro v455 w6 ho7 hb hg_ hnew_; clear hg_ hnew_; (first | rw [← Ny454.out] at ho7 | (simp only [Int.reduceToNat] at ho7; rw [← Ny454.out] at ho7)); have n0_ := Aside0.mk (Kd.R_elder' (by (with_reducible repeat (first | apply Kd.R_alloc | apply Kd.R_drewN | apply Kd.R_drew)); exact HO453.out) (Kd.R_base ho7) hb); have n1_ := Aside0.mk (Kd.R_lower (Kd.R_new' ho7 (Kd.R_lt (by (with_reducible repeat (first | apply Kd.R_alloc | apply Kd.R_drewN | apply Kd.R_drew)); exact HO453.out))) (zF (by repeat (first | (with_reducible first | exact HB.out | apply kO | apply kF | apply kQ) | exact HB.out)))); have n2_ := Aside0.mk (jZ (by repeat (first | (with_reducible first | exact HB.out | apply kO | apply kF | apply kQ) | exact HB.out)) hb); clear HO453; clear HB; have HO453 := n0_; have HO456 := n1_; have HB := n2_; clear n0_ n1_ n2_; clear hb ho7))
   go_loopg [7, 8] k (fun kq v7 v8 w' => ∃ (x6_1 : List Int) (x7_1 : List Int) (x8_1 : Int), v8 = .int .i64 x8_1 ∧ Aside0 (kY.l0 kq l0 l1 x6_1 x7_1 x8_1 = some (r1, r2)) ∧ Aside0 (kq ≤ k) ∧ Aside0 (Kd.R (Kd.int .u64) 155 w' w.heap.size (fun k_ => some k_ ≠ (v7 : Value).ownBlock) v452 x6_1) ∧ Aside0 (Kd.R (Kd.int .u64) 155 w' w.heap.size (fun k_ => some k_ ≠ (v452 : Value).ownBlock) v7 x7_1) ∧ Aside0 (Below w.heap.size w w'))
   case atStart => exact ⟨(y451), (y454), (191), (by first | rfl | (simp; done) | (simp [*]; done)), H', ⟨Nat.le_refl _⟩, ⟨by (with_reducible repeat (first | apply Kd.R_alloc | apply Kd.R_drewN | apply Kd.R_drew)); exact Kd.R_mono HO453.out (fun _ hk => hk.2)⟩, ⟨by (with_reducible repeat (first | apply Kd.R_alloc | apply Kd.R_drewN | apply Kd.R_drew)); exact Kd.R_mono HO456.out (fun _ hk => hk.2)⟩, ⟨by repeat (first | (with_reducible first | exact HB.out | apply kO | apply kF | apply kQ) | exact HB.out)⟩⟩
   case round =>
    clear H'
    try clear c1
    try clear p2
    try clear c3
    try clear c3b0
    try clear c3b1
    obtain ⟨x6_1, x7_1, x8_1, rfl, HA, HK1, HO_6, HO_7, HB⟩ := hrel
    cases gk with
    | zero => exact absurd HA.out (by simp [kY.l0])
    | succ k1 =>
     have H := HA.out
     clear HA
     simp only [kY.l0] at H
     by_cases c8 : x8_1 ≥ 0
     · rw [if_pos c8] at H
       have c8b0 : decide (0 ≤ x8_1) = true := decide_eq_true c8
       clear c8
       replace H := Option.bind_eq_some_iff.mp H
       obtain ⟨t457, A90, H⟩ := H
       replace H : (if 0 < (t457.length : Int) then (if 0 ≤ (wrap64 (Int.tdiv x8_1 32)) then (if (wrap64 (Int.tdiv x8_1 32)) < (l0.length : Int) then (if 0 ≤ (IntKind.u64.wrap (Int.tmod x8_1 32)) then ((some (t457.set (0 : Int).toNat (Go.bits .or .u64 (rd t457 0) (Go.bits .and .u64 (shr .u64 (rd l0 (wrap64 (Int.tdiv x8_1 32))) (IntKind.u64.wrap (Int.tmod x8_1 32))) 1)) : List Int)).bind fun y462 => ((bG.f k1 y462 l1).bind fun t463 => (if t463 ≥ 0 then ((bD.f k1 y462 l1).bind fun t464 => (if (wrap64 (Int.tdiv x8_1 32)) < (x6_1.length : Int) then (kY.l0 k1 l0 l1 (x6_1.set ((wrap64 (Int.tdiv x8_1 32)) : Int).toNat (Go.bits .or .u64 (rd x6_1 (wrap64 (Int.tdiv x8_1 32))) (shl .u64 1 (IntKind.u64.wrap (Int.tmod x8_1 32))))) t464 (wrap64 (x8_1 - 1))) else (none))) else (kY.l0 k1 l0 l1 x6_1 y462 (wrap64 (x8_1 - 1)))))) else (none)) else (none)) else (none)) else (none)) = some (r1, r2) := H
       have A9 := Aside0.mk A90
       clear A90
       by_cases c10 : 0 < (t457.length : Int)
       · rw [if_pos c10] at H
         have c10b0 : decide (0 < (t457.length : Int)) = true := decide_eq_true c10
         have c10b1 : decide (0 < t457.length) = true := decide_eq_true (by omega)
         clear c10
         obtain ⟨ji11, hji11⟩ : ∃ j_ : Int, (wrap64 (Int.tdiv x8_1 32)) = j_ := ⟨_, rfl⟩
         replace H : (if 0 ≤ (ji11) then (if (ji11) < (l0.length : Int) then (if 0 ≤ (IntKind.u64.wrap (Int.tmod x8_1 32)) then ((some (t457.set (0 : Int).toNat (Go.bits .or .u64 (rd t457 0) (Go.bits .and .u64 (shr .u64 (rd l0 (ji11)) (IntKind.u64.wrap (Int.tmod x8_1 32))) 1)) : List Int)).bind fun y462 => ((bG.f k1 y462 l1).bind fun t463 => (if t463 ≥ 0 then ((bD.f k1 y462 l1).bind fun t464 => (if (ji11) < (x6_1.length : Int) then (kY.l0 k1 l0 l1 (x6_1.set ((ji11) : Int).toNat (Go.bits .or .u64 (rd x6_1 (ji11)) (shl .u64 1 (IntKind.u64.wrap (Int.tmod x8_1 32))))) t464 (wrap64 (x8_1 - 1))) else (none))) else (kY.l0 k1 l0 l1 x6_1 y462 (wrap64 (x8_1 - 1)))))) else (none)) else (none)) else (none)) = some (r1, r2) := by first | (rw [hji11] at H; exact H) | (simp only [hji11] at H ⊢; exact H)
         (try rw [hji11] at A9)
         have hji11w : (IntKind.i64.wrap (Int.tdiv x8_1 32)) = ji11 := (qJ _).trans hji11
         by_cases c12 : 0 ≤ (ji11)
         · rw [if_pos c12] at H
           have c12b0 : decide (0 ≤ (ji11)) = true := decide_eq_true c12
           clear c12
           by_cases c13 : (ji11) < (l0.length : Int)
           · rw [if_pos c13] at H
             have c13b0 : decide ((ji11) < (l0.length : Int)) = true := decide_eq_true c13
             clear c13
             obtain ⟨ji14, hji14⟩ : ∃ j_ : Int, (IntKind.u64.wrap (Int.tmod x8_1 32)) = j_ := ⟨_, rfl⟩
             replace H : (if 0 ≤ (ji14) then ((some (t457.set (0 : Int).toNat (Go.bits .or .u64 (rd t457 0) (Go.bits .and .u64 (shr .u64 (rd l0 (ji11)) (ji14)) 1)) : List Int)).bind fun y462 => ((bG.f k1 y462 l1).bind fun t463 => (if t463 ≥ 0 then ((bD.f k1 y462 l1).bind fun t464 => (if (ji11) < (x6_1.length : Int) then (kY.l0 k1 l0 l1 (x6_1.set ((ji11) : Int).toNat (Go.bits .or .u64 (rd x6_1 (ji11)) (shl .u64 1 (ji14)))) t464 (wrap64 (x8_1 - 1))) else (none))) else (kY.l0 k1 l0 l1 x6_1 y462 (wrap64 (x8_1 - 1)))))) else (none)) = some (r1, r2) := by first | (rw [hji14] at H; exact H) | (simp only [hji14] at H ⊢; exact H)
             (try rw [hji14] at A9)
             by_cases c15 : 0 ≤ (ji14)
             · rw [if_pos c15] at H
               have c15b0 := eq_true c15
               have c15b1 : decide (0 ≤ (ji14)) = true := decide_eq_true c15
               clear c15
               obtain ⟨ji16, hji16⟩ : ∃ j_ : Int, (shr .u64 (rd l0 (ji11)) (ji14)) = j_ := ⟨_, rfl⟩
               replace H : ((some (t457.set (0 : Int).toNat (Go.bits .or .u64 (rd t457 0) (Go.bits .and .u64 (ji16) 1)) : List Int)).bind fun y462 => ((bG.f k1 y462 l1).bind fun t463 => (if t463 ≥ 0 then ((bD.f k1 y462 l1).bind fun t464 => (if (ji11) < (x6_1.length : Int) then (kY.l0 k1 l0 l1 (x6_1.set ((ji11) : Int).toNat (Go.bits .or .u64 (rd x6_1 (ji11)) (shl .u64 1 (ji14)))) t464 (wrap64 (x8_1 - 1))) else (none))) else (kY.l0 k1 l0 l1 x6_1 y462 (wrap64 (x8_1 - 1)))))) = some (r1, r2) := by first | (rw [hji16] at H; exact H) | (simp only [hji16] at H ⊢; exact H)
               (try rw [hji16] at A9)
               have hji16_ : ((rd l0 (ji11)) / 2 ^ min (ji14).toNat 64) = ji16 := hji16
               have hji16z : (ji14) ≤ 64 → ((rd l0 (ji11)) / 2 ^ (ji14).toNat) = ji16 := shr_small hji16
               obtain ⟨y462, hy462⟩ : ∃ y_ : List Int, y_ = (t457.set (0 : Int).toNat (Go.bits .or .u64 (rd t457 0) (Go.bits .and .u64 (ji16) 1))) := ⟨_, rfl⟩
               replace H : ((bG.f k1 y462 l1).bind fun t463 => (if t463 ≥ 0 then ((bD.f k1 y462 l1).bind fun t464 => (if (ji11) < (x6_1.length : Int) then (kY.l0 k1 l0 l1 (x6_1.set ((ji11) : Int).toNat (Go.bits .or .u64 (rd x6_1 (ji11)) (shl .u64 1 (ji14)))) t464 (wrap64 (x8_1 - 1))) else (none))) else (kY.l0 k1 l0 l1 x6_1 y462 (wrap64 (x8_1 - 1))))) = some (r1, r2) := by first | (rw [hy462]; with_reducible exact H) | (have H2_ := (Option.bind_some _ _).symm.trans H; rw [hy462]; with_reducible exact H2_) | (have H2_ := (Option.bind_some _ _).symm.trans H; with_reducible exact H2_) | with_reducible exact H | (rw [hy462]; exact H) | exact H
               have Ny462 := Aside0.mk hy462
               clear hy462
               replace H := Option.bind_eq_some_iff.mp H
               obtain ⟨t463, A180, H⟩ := H
               replace H : (if t463 ≥ 0 then ((bD.f k1 y462 l1).bind fun t464 => (if (ji11) < (x6_1.length : Int) then (kY.l0 k1 l0 l1 (x6_1.set ((ji11) : Int).toNat (Go.bits .or .u64 (rd x6_1 (ji11)) (shl .u64 1 (ji14)))) t464 (wrap64 (x8_1 - 1))) else (none))) else (kY.l0 k1 l0 l1 x6_1 y462 (wrap64 (x8_1 - 1)))) = some (r1, r2) := H
               have A18 := Aside0.mk A180
               clear A180
               by_cases c19 : t463 ≥ 0
               · rw [if_pos c19] at H
                 have c19b0 : decide (0 ≤ t463) = true := decide_eq_true c19
                 clear c19
                 replace H := Option.bind_eq_some_iff.mp H
                 obtain ⟨t464, A200, H⟩ := H
                 replace H : (if (ji11) < (x6_1.length : Int) then (kY.l0 k1 l0 l1 (x6_1.set ((ji11) : Int).toNat (Go.bits .or .u64 (rd x6_1 (ji11)) (shl .u64 1 (ji14)))) t464 (wrap64 (x8_1 - 1))) else (none)) = some (r1, r2) := H
                 have A20 := Aside0.mk A200
                 clear A200
                 by_cases c21 : (ji11) < (x6_1.length : Int)
                 · rw [if_pos c21] at H
                   have c21b0 : decide ((ji11) < (x6_1.length : Int)) = true := decide_eq_true c21
                   clear c21
                   have c22b0 := eq_true (of_decide_eq_true (by first | (with_reducible assumption) | assumption) : 0 ≤ (ji14))
                   obtain ⟨ji23, hji23⟩ : ∃ j_ : Int, (shl .u64 1 (ji14)) = j_ := ⟨_, rfl⟩
                   replace H : (kY.l0 k1 l0 l1 (x6_1.set ((ji11) : Int).toNat (Go.bits .or .u64 (rd x6_1 (ji11)) (ji23))) t464 (wrap64 (x8_1 - 1))) = some (r1, r2) := by first | (rw [hji23] at H; exact H) | (simp only [hji23] at H ⊢; exact H)
                   (try rw [hji23] at A9)
                   (try rw [hji23] at A18)
                   (try rw [hji23] at A20)
                   have hji23_ : (IntKind.u64.wrap (1 * 2 ^ min (ji14).toNat 64)) = ji23 := hji23
                   have hji23z : (ji14) ≤ 64 → (IntKind.u64.wrap (1 * 2 ^ (ji14).toNat)) = ji23 := shl_small hji23
                   have hji23u : (IntKind.u64.wrap (2 ^ min (ji14).toNat 64)) = ji23 := by have h_ := hji23_; rw [Int.one_mul] at h_; exact h_
                   have hji23v : (ji14) ≤ 64 → (IntKind.u64.wrap (2 ^ (ji14).toNat)) = ji23 := fun hle_ => by have h_ := hji23z hle_; rw [Int.one_mul] at h_; exact h_
                   obtain ⟨y468, hy468⟩ : ∃ y_ : List Int, y_ = (x6_1.set ((ji11) : Int).toNat (Go.bits .or .u64 (rd x6_1 (ji11)) (ji23))) := ⟨_, rfl⟩
                   replace H : (kY.l0 k1 l0 l1 y468 t464 (wrap64 (x8_1 - 1))) = some (r1, r2) := by first | (rw [hy468]; with_reducible exact H) | (have H2_ := (Option.bind_some _ _).symm.trans H; rw [hy468]; with_reducible exact H2_) | (have H2_ := (Option.bind_some _ _).symm.trans H; with_reducible exact H2_) | with_reducible exact H | (rw [hy468]; exact H) | exact H
                   have Ny468 := Aside0.mk hy468
                   clear hy468
                   have H' := Aside0.mk H
                   clear H
                   obtain ⟨Ao25, co25, eo25⟩ := Kd.R_slice HO_7.out
                   subst eo25
                   try go_wp2_with (first | ((with_reducible refine kW (f := 133) rfl ?_); refine jI (some 17) rfl rfl Tryz.func133 (by kernel_rfl) rfl #[.slice Ao25 x7_1.length co25, .slice Ao25 x7_1.length co25] rfl (by (try simp only [List.map_toArray, List.map_cons, List.map_nil]); first | done | rfl | (simp only [List.length_drop, List.length_take]; rfl)) ?_; (with_reducible refine (bI.calls k1 _ _ x7_1 _ _ x7_1 t457 _ ?side1 ?side2 ?side3 ?side4 A9.out).mono ?_); (case side1 => repeat (first | exact (Kd.R_reads' HO_7.out).2.2 | (with_reducible refine Kd.C_alloc ?_ _) | (with_reducible refine Kd.C_drewN ?_ _) | (with_reducible refine Kd.C_drew ?_))); (case side2 => exact (Kd.R_reads' HO_7.out).2.1); (case side3 => repeat (first | exact (Kd.R_reads' HO_7.out).2.2 | (with_reducible refine Kd.C_alloc ?_ _) | (with_reducible refine Kd.C_drewN ?_ _) | (with_reducible refine Kd.C_drew ?_))); (case side4 => exact (Kd.R_reads' HO_7.out).2.1); rintro e w26 ⟨v458, rfl, ho0, hb⟩; refine ⟨_, rfl, ?_⟩; have n0_ := Aside0.mk (Kd.R_elder' (by (with_reducible repeat (first | apply Kd.R_alloc | apply Kd.R_drewN | apply Kd.R_drew)); exact HO_6.out) (Kd.R_base ho0) hb); have n1_ := Aside0.mk (Kd.R_elder' (by (with_reducible repeat (first | apply Kd.R_alloc | apply Kd.R_drewN | apply Kd.R_drew)); exact HO_7.out) (Kd.R_base ho0) hb); have n2_ := Aside0.mk (Kd.R_lower (Kd.R_new' (Kd.R_new' ho0 (Kd.R_lt (by (with_reducible repeat (first | apply Kd.R_alloc | apply Kd.R_drewN | apply Kd.R_drew)); exact HO_6.out))) (Kd.R_lt (by (with_reducible repeat (first | apply Kd.R_alloc | apply Kd.R_drewN | apply Kd.R_drew)); exact HO_7.out))) (zF (by repeat (first | (with_reducible first | exact HB.out | apply kO | apply kF | apply kQ) | exact HB.out)))); have n3_ := Aside0.mk (jZ (by repeat (first | (with_reducible first | exact HB.out | apply kO | apply kF | apply kQ) | exact HB.out)) hb); clear HO_6; clear HO_7; clear HB; have HO_6 := n0_; have HO_7 := n1_; have HO459 := n2_; have HB := n3_; clear n0_ n1_ n2_ n3_; (try clear hb); (try clear hb2); (try clear hk); (try clear hi); (try clear ho0)))
                   have n0_ := Aside0.mk (Kd.R_drew HO_6.out)
                   have n1_ := Aside0.mk (Kd.R_drew HO_7.out)
                   have n2_ := Aside0.mk (Kd.R_drew HO459.out)
                   have n3_ := Aside0.mk (kQ HB.out)
                   clear HO_6
                   clear HO_7
                   clear HO459
                   clear HB
                   have HO_6 := n0_
                   have HO_7 := n1_
                   have HO459 := n2_
                   have HB := n3_
                   clear n0_ n1_ n2_ n3_
                   obtain ⟨Ao28, co28, eo28⟩ := Kd.R_slice HO459.out
                   (first | subst eo28 | (injection eo28 with f1_ f2_ f3_; have f4_ := f1_.symm; have f5_ := f3_.symm; clear f1_ f2_ f3_; subst f4_; subst f5_))
                   have p460 : 0 ≤ (0 : Int) := (by omega)
                   have q460 : 0 < (t457.length : Int) := of_decide_eq_true (by first | (with_reducible assumption) | assumption)
                   obtain ⟨ad460, e460, hx460_0⟩ := Kd.at_int (Kd.R_reads' HO459.out).2.2 0 p460 q460
                   cases e460
                   have qi460 : (0 < t457.length) = True := eq_true (by omega)
                   (try rw [show ((0 : Int)).toNat = 0 from rfl] at hx460_0)
                   (try rw [Addr.add_zero'] at hx460_0)
                   replace p460 := eq_true p460
                   replace q460 := eq_true q460
                   have p461 : 0 ≤ ((ji11) : Int) := of_decide_eq_true (by first | (with_reducible assumption) | assumption)
                   have q461 : (ji11) < (l0.length : Int) := of_decide_eq_true (by first | (with_reducible assumption) | assumption)
                   obtain ⟨ad461, e461, hx461_0⟩ := Kd.at_int HR0.out (ji11) p461 q461
                   have hw461_0 := hx461_0
                   cases e461
                   replace hx461_0 := (HB.out.cell (World.block_lt_of_cell? w _ hx461_0)).trans hx461_0
                   replace p461 := eq_true p461
                   replace q461 := eq_true q461
                   have p17 : 0 ≤ (0 : Int) := (by omega)
                   have q17 : (0 : Int) < ((t457.length : Int) : Int) := of_decide_eq_true (by first | (with_reducible assumption) | assumption)
                   have qi17 : (0 < t457.length) = True := eq_true (by omega)
                   obtain ⟨go17, co17, eo17, gb17, gl17, cl17, HG17⟩ := Kd.R_form HO459.out (by omega)
                   (first | cases eo17 | (injection eo17 with ea_ en_ ec_; (first | subst ea_ | (injection ea_ with ea_; subst ea_)); subst ec_; clear en_))
                   have GB17 := Aside0.mk gb17
                   have GG17 := Aside0.mk HG17
                   clear gb17 gl17 HG17
                   (first | simp only [add_plain] at hx460_0 | skip)
                   obtain ⟨hx17_0, hf17_0⟩ := Kd.R_celln 0 HO459.out (0 : Int) p17 q17
                   (try rw [show ((0 : Int)).toNat = 0 from rfl] at hx17_0)
                   (try simp only [Nat.reduceMul, Nat.zero_mul, Nat.zero_add, Nat.reduceAdd] at hx17_0)
                   (try rw [show ((0 : Int)).toNat = 0 from rfl] at hf17_0)
                   (try simp only [Nat.reduceMul, Nat.zero_mul, Nat.zero_add, Nat.reduceAdd] at hf17_0)
                   replace p17 := eq_true p17
                   replace q17 := eq_true q17
                   have HP29 := Kd.R_putn HO459.out (0 : Int) (Go.bits .or .u64 (rd t457 0) (Go.bits .and .u64 (ji16) 1))
                   rw [← Ny462.out] at HP29
                   have HQ29 := Aside0.mk HP29
                   clear HP29
                   refine start_ (n := 17) (S := fun w' => w'.cell? ⟨go17, 0, none⟩ = some (.int .u64 (rd t457 0)) ∧ w'.cell? (ad461.add ((ji11)).toNat) = some (.int .u64 (rd l0 (ji11)))) (ds := [16]) #[false, false, false, false, false, false, false, false, false, false, false, false, false, false, false, false, false] (by kernel_rfl) rfl rfl ⟨hx460_0, ((HB.out.cell (World.block_lt_of_cell? w _ hw461_0)).trans hw461_0)⟩ (fun hHeld => ?_); refine with_tabW kY.tab7 kY.bits7 (fun HT_ HW_ => ?_)
                   generalize w26.drew = w27 at HO_6 HO_7 HO459 HB GG17 HQ29 hf17_0 hx17_0 hx460_0 hx461_0 hHeld ⊢
                   refine pure_ (i := 0) (N := some 18) (v := ?_) (a' := ?_) #[true, false, false, false, false, false, false, false, false, false, false, false, false, false, false, false, false] rfl rfl (vC HT_.out (by kernel_rfl)) (fun _ _ _ h => h) (Or.inl ⟨by rfl, ?_⟩) ?_ ?_
                   rotate_left
                   · intro w'
                     go_simp
                     with_reducible rfl
                   rotate_left
                   · simp only [Act.put, List.setIfInBounds_toArray, List.set_cons_zero, List.set_cons_succ, qJ, qL]
                     rfl
                   refine pure_ (i := 1) (N := some 19) (v := ?_) (a' := ?_) #[true, true, false, false, false, false, false, false, false, false, false, false, false, false, false, false, false] rfl rfl (vC HT_.out (by kernel_rfl)) (fun _ _ _ h => h) (Or.inl ⟨by rfl, ?_⟩) ?_ ?_
                   rotate_left
                   · intro w'
                     go_simp
                     with_reducible rfl
                   rotate_left
                   · simp only [Act.put, List.setIfInBounds_toArray, List.set_cons_zero, List.set_cons_succ, qJ, qL]
                     rfl
                   refine pure_ (i := 2) (N := some 20) (v := ?_) (a' := ?_) #[true, true, true, false, false, false, false, false, false, false, false, false, false, false, false, false, false] rfl rfl (vC HT_.out (by kernel_rfl)) (fun _ _ _ h => h) (Or.inl ⟨by rfl, ?_⟩) ?_ ?_
                   rotate_left
                   · intro w'
                     go_simp
                     with_reducible rfl
                   rotate_left
                   · simp only [Act.put, List.setIfInBounds_toArray, List.set_cons_zero, List.set_cons_succ, qJ, qL]
                     rfl
                   refine pure_ (i := 4) (N := some 22) (v := ?_) (a' := ?_) #[true, true, true, false, true, false, false, false, false, false, false, false, false, false, false, false, false] rfl rfl (vC HT_.out (by kernel_rfl)) (fun _ _ _ h => h) (Or.inl ⟨by rfl, ?_⟩) ?_ ?_
                   rotate_left
                   · intro w'
                     go_simp
                     with_reducible rfl
                   rotate_left
                   · simp only [Act.put, List.setIfInBounds_toArray, List.set_cons_zero, List.set_cons_succ, qJ, qL]
                     rfl
                   refine pure_ (i := 5) (N := some 23) (v := ?_) (a' := ?_) #[true, true, true, false, true, true, false, false, false, false, false, false, false, false, false, false, false] rfl rfl (vC HT_.out (by kernel_rfl)) (fun _ _ _ h => h) (Or.inl ⟨by rfl, ?_⟩) ?_ ?_
                   rotate_left
                   · intro w'
                     go_simp
                     with_reducible rfl
                   rotate_left
                   · simp only [Act.put, List.setIfInBounds_toArray, List.set_cons_zero, List.set_cons_succ, qJ, qL]
                     rfl
                   refine pure_ (i := 6) (N := some 24) (v := ?_) (a' := ?_) #[true, true, true, false, true, true, true, false, false, false, false, false, false, false, false, false, false] rfl rfl (vC HT_.out (by kernel_rfl)) (fun _ _ _ h => h) (Or.inl ⟨by rfl, ?_⟩) ?_ ?_
                   rotate_left
                   · intro w'
                     go_simp
                     with_reducible rfl
                   rotate_left
                   · simp only [Act.put, List.setIfInBounds_toArray, List.set_cons_zero, List.set_cons_succ, qJ, qL]
                     rfl
                   refine pure_ (i := 7) (N := some 25) (v := ?_) (a' := ?_) #[true, true, true, false, true, true, true, true, false, false, false, false, false, false, false, false, false] rfl rfl (vC HT_.out (by kernel_rfl)) (fun _ _ _ h => h) (Or.inl ⟨by rfl, ?_⟩) ?_ ?_
                   rotate_left
                   · intro w'
                     go_simp
                     with_reducible rfl
                   rotate_left
                   · simp only [Act.put, List.setIfInBounds_toArray, List.set_cons_zero, List.set_cons_succ, qJ, qL]
                     rfl
                   refine pure_ (i := 9) (N := some 27) (v := ?_) (a' := ?_) #[true, true, true, false, true, true, true, true, false, true, false, false, false, false, false, false, false] rfl rfl (vC HT_.out (by kernel_rfl)) (fun _ _ _ h => h) (Or.inl ⟨by rfl, ?_⟩) ?_ ?_
                   rotate_left
                   · intro w'
                     go_simp
                     with_reducible rfl
                   rotate_left
                   · simp only [Act.put, List.setIfInBounds_toArray, List.set_cons_zero, List.set_cons_succ, qJ, qL]
                     rfl
                   refine pure_ (i := 10) (N := some 28) (v := ?_) (a' := ?_) #[true, true, true, false, true, true, true, true, false, true, true, false, false, false, false, false, false] rfl rfl (vC HT_.out (by kernel_rfl)) (fun _ _ _ h => h) (Or.inl ⟨by rfl, ?_⟩) ?_ ?_
                   rotate_left
                   · intro w'
                     go_simp
                     with_reducible rfl
                   rotate_left
                   · simp only [Act.put, List.setIfInBounds_toArray, List.set_cons_zero, List.set_cons_succ, qJ, qL]
                     rfl
                   refine pure_ (i := 11) (N := some 29) (v := ?_) (a' := ?_) #[true, true, true, false, true, true, true, true, false, true, true, true, false, false, false, false, false] rfl rfl (vC HT_.out (by kernel_rfl)) (fun _ _ _ h => h) (Or.inl ⟨by rfl, ?_⟩) ?_ ?_
                   rotate_left
                   · intro w'
                     go_simp
                     with_reducible rfl
                   rotate_left
                   · simp only [Act.put, List.setIfInBounds_toArray, List.set_cons_zero, List.set_cons_succ, qJ, qL]
                     rfl
                   refine take_ (i := 3) (N := some 21) (v := ?_) (a' := ?_) #[true, true, true, true, true, true, true, true, false, true, true, true, false, false, false, false, false] rfl rfl (take_ofW HT_.out HW_.out (by kernel_rfl)) (fun _ _ _ h => h) (Or.inl ⟨by rfl, ?_⟩) hHeld ?_ ?_
                   rotate_left
                   · rintro w' ⟨s0, s1⟩
                     go_simp
                     with_reducible rfl
                   rotate_left
                   · simp only [Act.put, List.setIfInBounds_toArray, List.set_cons_zero, List.set_cons_succ, qJ, qL]
                     rfl
                   refine take_ (i := 8) (N := some 26) (v := ?_) (a' := ?_) #[true, true, true, true, true, true, true, true, true, true, true, true, false, false, false, false, false] rfl rfl (take_ofW HT_.out HW_.out (by kernel_rfl)) (fun _ _ _ h => h) (Or.inl ⟨by rfl, ?_⟩) hHeld ?_ ?_
                   rotate_left
                   · rintro w' ⟨s0, s1⟩
                     go_simp
                     with_reducible rfl
                   rotate_left
                   · simp only [Act.put, List.setIfInBounds_toArray, List.set_cons_zero, List.set_cons_succ, qJ, qL]
                     rfl
                   refine pure_ (i := 12) (N := some 30) (v := ?_) (a' := ?_) #[true, true, true, true, true, true, true, true, true, true, true, true, true, false, false, false, false] rfl rfl (vC HT_.out (by kernel_rfl)) (fun _ _ _ h => h) (Or.inl ⟨by rfl, ?_⟩) ?_ ?_
                   rotate_left
                   · intro w'
                     go_simp
                     with_reducible rfl
                   rotate_left
                   · simp only [Act.put, List.setIfInBounds_toArray, List.set_cons_zero, List.set_cons_succ, qJ, qL]
                     rfl
                   refine pure_ (i := 13) (N := some 31) (v := ?_) (a' := ?_) #[true, true, true, true, true, true, true, true, true, true, true, true, true, true, false, false, false] rfl rfl (vC HT_.out (by kernel_rfl)) (fun _ _ _ h => h) (Or.inl ⟨by rfl, ?_⟩) ?_ ?_
                   rotate_left
                   · intro w'
                     go_simp
                     with_reducible rfl
                   rotate_left
                   · simp only [Act.put, List.setIfInBounds_toArray, List.set_cons_zero, List.set_cons_succ, qJ, qL]
                     rfl
                   refine pure_ (i := 14) (N := some 32) (v := ?_) (a' := ?_) #[true, true, true, true, true, true, true, true, true, true, true, true, true, true, true, false, false] rfl rfl (vC HT_.out (by kernel_rfl)) (fun _ _ _ h => h) (Or.inl ⟨by rfl, ?_⟩) ?_ ?_
                   rotate_left
                   · intro w'
                     go_simp
                     with_reducible rfl
                   rotate_left
                   · simp only [Act.put, List.setIfInBounds_toArray, List.set_cons_zero, List.set_cons_succ, qJ, qL]
                     rfl
                   refine pure_ (i := 15) (N := some 33) (v := ?_) (a' := ?_) #[true, true, true, true, true, true, true, true, true, true, true, true, true, true, true, true, false] rfl rfl (vC HT_.out (by kernel_rfl)) (fun _ _ _ h => h) (Or.inl ⟨by rfl, ?_⟩) ?_ ?_
                   rotate_left
                   · intro w'
                     go_simp
                     with_reducible rfl
                   rotate_left
                   · simp only [Act.put, List.setIfInBounds_toArray, List.set_cons_zero, List.set_cons_succ, qJ, qL]
                     rfl
                   refine last_ (i := 16) (N := none) #[true, true, true, true, true, true, true, true, true, true, true, true, true, true, true, true, true] rfl rfl (one_of HT_.out (by kernel_rfl)) (by decide) (fun K hK => ?_)
                   refine skip_ (w1 := ?_) (by rfl) rfl ?_ ?_
                   rotate_left
                   · go_simp
                     rfl
                   refine hK.out _ _ ?_
                   clear hK K
                   refine done_ (done_of HT_.out (by kernel_rfl)) ?_
                   try go_wp2_with (first | ((with_reducible refine kW (f := 134) rfl ?_); refine jI (some 36) rfl rfl Tryz.func134 (by kernel_rfl) rfl #[.slice (some ⟨go17, 0, none⟩) y462.length co28, .slice A1 l1.length c1] rfl (by (try simp only [List.map_toArray, List.map_cons, List.map_nil]); first | done | (rw [show y462.length = t457.length from (Kd.R_reads' HQ29.out).1.symm] <;> rfl) | rfl | (simp only [List.length_drop, List.length_take]; rfl)) ?_; (with_reducible refine (bG.calls k1 _ _ y462 _ _ l1 t463 _ ?side1 ?side2 ?side3 ?side4 A18.out).mono ?_); (case side1 => refine (Kd.R_reads' (e := 155) (base := w.heap.size) (ok := fun k_ => ((True ∧ some k_ ≠ (v452 : Value).ownBlock) ∧ some k_ ≠ (.slice Ao25 x7_1.length co25 : Value).ownBlock)) (n := t457.length) (c := co28) ?_).2.2; exact (by (with_reducible repeat (first | apply Kd.R_alloc | apply Kd.R_drewN | apply Kd.R_drew)); exact HQ29.out)); (case side2 => rw [show y462.length = t457.length from (Kd.R_reads' HQ29.out).1.symm]; exact (Kd.R_reads' HO459.out).2.1); (case side3 => exact Kd.C_below HR1.out (by repeat (first | (with_reducible first | exact HB.out | apply kO | apply kF | apply kQ | refine bA ?_ GB17.out) | exact HB.out))); (case side4 => exact HC1.out); rintro e w' ⟨rfl, ⟨nd, rfl⟩⟩; refine ⟨_, rfl, ?_⟩) | ((with_reducible refine kW (f := 135) rfl ?_); refine jI (some 40) rfl rfl Tryz.func135 (by kernel_rfl) rfl #[.slice (some ⟨go17, 0, none⟩) y462.length co28, .slice A1 l1.length c1] rfl (by (try simp only [List.map_toArray, List.map_cons, List.map_nil]); first | done | (rw [show y462.length = t457.length from (Kd.R_reads' HQ29.out).1.symm] <;> rfl) | rfl | (simp only [List.length_drop, List.length_take]; rfl)) ?_; (with_reducible refine (bD.calls k1 _ _ y462 _ _ l1 t464 _ ?side1 ?side2 ?side3 ?side4 A20.out).mono ?_); (case side1 => refine (Kd.R_reads' (e := 155) (base := w.heap.size) (ok := fun k_ => ((True ∧ some k_ ≠ (v452 : Value).ownBlock) ∧ some k_ ≠ (.slice Ao25 x7_1.length co25 : Value).ownBlock)) (n := t457.length) (c := co28) ?_).2.2; exact (by (with_reducible repeat (first | apply Kd.R_alloc | apply Kd.R_drewN | apply Kd.R_drew)); exact HQ29.out)); (case side2 => rw [show y462.length = t457.length from (Kd.R_reads' HQ29.out).1.symm]; exact (Kd.R_reads' HO459.out).2.1); (case side3 => exact Kd.C_below HR1.out (by repeat (first | (with_reducible first | exact HB.out | apply kO | apply kF | apply kQ | refine bA ?_ GB17.out) | exact HB.out))); (case side4 => exact HC1.out); rintro e w30 ⟨v465, rfl, ho0, hb⟩; refine ⟨_, rfl, ?_⟩; have n0_ := Aside0.mk (Kd.R_elder' (by (with_reducible repeat (first | apply Kd.R_alloc | apply Kd.R_drewN | apply Kd.R_drew)); exact (Kd.R_mono (Kd.R_far (p := ⟨go17, 0, none⟩) (Kd.R_mono HO_6.out (fun k_ hk => (⟨hk, fun e_ => hk.2 (by rw [e_]; rfl)⟩ : _ ∧ k_ ≠ go17))) (fun _ hk => hk.2) (.int .u64 (Go.bits .or .u64 (rd t457 0) (Go.bits .and .u64 (ji16) 1)))) (fun _ h_ => h_.1))) (Kd.R_base ho0) hb); have n1_ := Aside0.mk (Kd.R_elder' (by (with_reducible repeat (first | apply Kd.R_alloc | apply Kd.R_drewN | apply Kd.R_drew)); exact (Kd.R_mono (Kd.R_far (p := ⟨go17, 0, none⟩) (Kd.R_mono HO_7.out (fun k_ hk => (⟨hk, fun e_ => hk.2 (by rw [e_]; rfl)⟩ : _ ∧ k_ ≠ go17))) (fun _ hk => hk.2) (.int .u64 (Go.bits .or .u64 (rd t457 0) (Go.bits .and .u64 (ji16) 1)))) (fun _ h_ => h_.1))) (Kd.R_base ho0) hb); have n2_ := Aside0.mk (Kd.R_elder' (by (with_reducible repeat (first | apply Kd.R_alloc | apply Kd.R_drewN | apply Kd.R_drew)); exact HQ29.out) (Kd.R_base ho0) hb); have n3_ := Aside0.mk (Kd.R_lower (Kd.R_new' (Kd.R_new' (Kd.R_new' ho0 (Kd.R_lt (by (with_reducible repeat (first | apply Kd.R_alloc | apply Kd.R_drewN | apply Kd.R_drew)); exact (Kd.R_mono (Kd.R_far (p := ⟨go17, 0, none⟩) (Kd.R_mono HO_6.out (fun k_ hk => (⟨hk, fun e_ => hk.2 (by rw [e_]; rfl)⟩ : _ ∧ k_ ≠ go17))) (fun _ hk => hk.2) (.int .u64 (Go.bits .or .u64 (rd t457 0) (Go.bits .and .u64 (ji16) 1)))) (fun _ h_ => h_.1))))) (Kd.R_lt (by (with_reducible repeat (first | apply Kd.R_alloc | apply Kd.R_drewN | apply Kd.R_drew)); exact (Kd.R_mono (Kd.R_far (p := ⟨go17, 0, none⟩) (Kd.R_mono HO_7.out (fun k_ hk => (⟨hk, fun e_ => hk.2 (by rw [e_]; rfl)⟩ : _ ∧ k_ ≠ go17))) (fun _ hk => hk.2) (.int .u64 (Go.bits .or .u64 (rd t457 0) (Go.bits .and .u64 (ji16) 1)))) (fun _ h_ => h_.1))))) (Kd.R_lt (by (with_reducible repeat (first | apply Kd.R_alloc | apply Kd.R_drewN | apply Kd.R_drew)); exact HQ29.out))) (zF (by repeat (first | (with_reducible first | exact HB.out | apply kO | apply kF | apply kQ | refine bA ?_ GB17.out) | exact HB.out)))); have n4_ := Aside0.mk (jZ (by repeat (first | (with_reducible first | exact HB.out | apply kO | apply kF | apply kQ | refine bA ?_ GB17.out) | exact HB.out)) hb); clear HO_6; clear HO_7; clear HO459; clear HB; have HO_6 := n0_; have HO_7 := n1_; have HO459 := n2_; have HO466 := n3_; have HB := n4_; clear n0_ n1_ n2_ n3_ n4_; (try clear hb); (try clear hb2); (try clear hk); (try clear hi); (try clear ho0); obtain ⟨Ao31, co31, eo31⟩ := Kd.R_slice HO_6.out; subst eo31; have p467 : 0 ≤ ((ji11) : Int) := of_decide_eq_true (by first | (with_reducible assumption) | assumption); have q467 : (ji11) < (x6_1.length : Int) := of_decide_eq_true (by first | (with_reducible assumption) | assumption); obtain ⟨ad467, e467, hx467_0⟩ := Kd.at_int (Kd.R_reads' HO_6.out).2.2 (ji11) p467 q467; cases e467; replace p467 := eq_true p467; replace q467 := eq_true q467; have p24 : 0 ≤ ((ji11) : Int) := of_decide_eq_true (by first | (with_reducible assumption) | assumption); have q24 : ((ji11) : Int) < ((x6_1.length : Int) : Int) := of_decide_eq_true (by first | (with_reducible assumption) | assumption); obtain ⟨go24, co24, eo24, gb24, gl24, cl24, HG24⟩ := Kd.R_form HO_6.out (by omega); (first | cases eo24 | (injection eo24 with ea_ en_ ec_; (first | subst ea_ | (injection ea_ with ea_; subst ea_)); subst ec_; clear en_)); have GB24 := Aside0.mk gb24; have GG24 := Aside0.mk HG24; clear gb24 gl24 HG24; (first | simp only [add_plain] at hx467_0 | skip); obtain ⟨hx24_0, hf24_0⟩ := Kd.R_celln 0 HO_6.out ((ji11) : Int) p24 q24; replace p24 := eq_true p24; replace q24 := eq_true q24; have n_ := Aside0.mk (Kd.R_mono (ok' := (fun k_ => some k_ ≠ (.slice Ao25 x7_1.length co25 : Value).ownBlock ∧ some k_ ≠ (.slice (some ⟨go17, 0, none⟩) t457.length co28 : Value).ownBlock ∧ some k_ ≠ (v465 : Value).ownBlock)) HO_6.out (fun k_ hk => ⟨hk.1.1, ⟨hk.1.2, hk.2⟩⟩)); clear HO_6; have HO_6 := n_; clear n_; obtain ⟨hy32_, hz32_⟩ := Kd.R_celln 0 HO_6.out ((ji11) : Int) (of_decide_eq_true (by first | (with_reducible assumption) | assumption)) (of_decide_eq_true (by first | (with_reducible assumption) | assumption)); have HP32 := Kd.R_putg HO_6.out ((ji11) : Int) (Go.bits .or .u64 (rd x6_1 (ji11)) (ji23))) | ((with_reducible refine gate_store (t := 155) (p := 54) rfl ?_); refine store_event (t := 155) (p := 54) (v := ?vo_w33) (w1 := (w30.setCell ⟨go24, ((ji11) : Int).toNat, none⟩ (.int .u64 (Go.bits .or .u64 (rd x6_1 (ji11)) (ji23))))) ?hg ?ho ?hn ?hr ?_; (case ho => rfl); (case hg => rfl); (case hn => rfl); (case hr => first | (go_simp; done) | (go_simp; rfl)); intro w33 hw; have hg : w30.grownBy w33 (some go24) := (by rw [hw]; exact HP32.2); have hp_ : Kd.R (Kd.int .u64) 155 w33 w.heap.size (fun k_ => some k_ ≠ (.slice Ao25 x7_1.length co25 : Value).ownBlock ∧ some k_ ≠ (.slice (some ⟨go17, 0, none⟩) t457.length co28 : Value).ownBlock ∧ some k_ ≠ (v465 : Value).ownBlock) (.slice (some ⟨go24, 0, none⟩) x6_1.length co31) y468 := (by rw [hw, Ny468.out]; exact HP32.1); clear HP32; have n0_ := Aside0.mk (hp_); have n1_ := Aside0.mk (Kd.R_after (v := (.slice (some ⟨go24, 0, none⟩) x6_1.length co31)) (v1 := (.slice (some ⟨go24, 0, none⟩) x6_1.length co31)) (ok := (fun k_ => some k_ ≠ (.slice (some ⟨go17, 0, none⟩) t457.length co28 : Value).ownBlock ∧ some k_ ≠ (v465 : Value).ownBlock)) (by (with_reducible repeat (first | apply Kd.R_alloc | apply Kd.R_drewN | apply Kd.R_drew)); exact Kd.R_mono HO_7.out (fun _ hk => ⟨⟨hk.1.2, hk.2⟩, hk.1.1⟩)) hg (.inl rfl)); have n2_ := Aside0.mk (Kd.R_after (v := (.slice (some ⟨go24, 0, none⟩) x6_1.length co31)) (v1 := (.slice (some ⟨go24, 0, none⟩) x6_1.length co31)) (ok := (fun k_ => some k_ ≠ (.slice Ao25 x7_1.length co25 : Value).ownBlock ∧ some k_ ≠ (v465 : Value).ownBlock)) (by (with_reducible repeat (first | apply Kd.R_alloc | apply Kd.R_drewN | apply Kd.R_drew)); exact Kd.R_mono HO459.out (fun _ hk => ⟨⟨hk.1.2, hk.2⟩, hk.1.1.2⟩)) hg (.inl rfl)); have n3_ := Aside0.mk (Kd.R_after (v := (.slice (some ⟨go24, 0, none⟩) x6_1.length co31)) (v1 := (.slice (some ⟨go24, 0, none⟩) x6_1.length co31)) (ok := (fun k_ => some k_ ≠ (.slice Ao25 x7_1.length co25 : Value).ownBlock ∧ some k_ ≠ (.slice (some ⟨go17, 0, none⟩) t457.length co28 : Value).ownBlock)) (by (with_reducible repeat (first | apply Kd.R_alloc | apply Kd.R_drewN | apply Kd.R_drew)); exact Kd.R_mono HO466.out (fun _ hk => ⟨⟨hk.1.2, hk.2⟩, hk.1.1.2⟩)) hg (.inl rfl)); have n4_ := Aside0.mk ((by rw [hw]; exact bA (HB.out) GB24.out : Below w.heap.size w w33)); clear HO_6; clear HO_7; clear HO459; clear HO466; clear HB; have HO_6 := n0_; have HO_7 := n1_; have HO459 := n2_; have HO466 := n3_; have HB := n4_; clear n0_ n1_ n2_ n3_ n4_; clear hg hw hp_))
                   go_roundg k1
                   case measure => have := HK1.out; omega
                   case rel => exact ⟨(y468), (t464), (wrap64 (x8_1 - 1)), (by first | rfl | (simp; done) | (simp [*]; done)), H', ⟨by have := HK1.out; omega⟩, ⟨by (with_reducible repeat (first | apply Kd.R_alloc | apply Kd.R_drewN | apply Kd.R_drew)); exact Kd.R_mono HO_6.out (fun _ hk => hk.2.2)⟩, ⟨by (with_reducible repeat (first | apply Kd.R_alloc | apply Kd.R_drewN | apply Kd.R_drew)); exact Kd.R_mono HO466.out (fun _ hk => hk.2)⟩, ⟨by repeat (first | (with_reducible first | exact HB.out | apply kO | apply kF | apply kQ) | exact HB.out)⟩⟩
                 · rw [if_neg c21] at H
                   exact absurd H (by simp)
               · rw [if_neg c19] at H
                 have c19b0 : decide (0 ≤ t463) = false := decide_eq_false c19
                 clear c19
                 have H' := Aside0.mk H
                 clear H
                 obtain ⟨Ao34, co34, eo34⟩ := Kd.R_slice HO_7.out
                 subst eo34
                 try go_wp2_with (first | ((with_reducible refine kW (f := 133) rfl ?_); refine jI (some 17) rfl rfl Tryz.func133 (by kernel_rfl) rfl #[.slice Ao34 x7_1.length co34, .slice Ao34 x7_1.length co34] rfl (by (try simp only [List.map_toArray, List.map_cons, List.map_nil]); first | done | rfl | (simp only [List.length_drop, List.length_take]; rfl)) ?_; (with_reducible refine (bI.calls k1 _ _ x7_1 _ _ x7_1 t457 _ ?side1 ?side2 ?side3 ?side4 A9.out).mono ?_); (case side1 => repeat (first | exact (Kd.R_reads' HO_7.out).2.2 | (with_reducible refine Kd.C_alloc ?_ _) | (with_reducible refine Kd.C_drewN ?_ _) | (with_reducible refine Kd.C_drew ?_))); (case side2 => exact (Kd.R_reads' HO_7.out).2.1); (case side3 => repeat (first | exact (Kd.R_reads' HO_7.out).2.2 | (with_reducible refine Kd.C_alloc ?_ _) | (with_reducible refine Kd.C_drewN ?_ _) | (with_reducible refine Kd.C_drew ?_))); (case side4 => exact (Kd.R_reads' HO_7.out).2.1); rintro e w35 ⟨v458, rfl, ho0, hb⟩; refine ⟨_, rfl, ?_⟩; have n0_ := Aside0.mk (Kd.R_elder' (by (with_reducible repeat (first | apply Kd.R_alloc | apply Kd.R_drewN | apply Kd.R_drew)); exact HO_6.out) (Kd.R_base ho0) hb); have n1_ := Aside0.mk (Kd.R_elder' (by (with_reducible repeat (first | apply Kd.R_alloc | apply Kd.R_drewN | apply Kd.R_drew)); exact HO_7.out) (Kd.R_base ho0) hb); have n2_ := Aside0.mk (Kd.R_lower (Kd.R_new' (Kd.R_new' ho0 (Kd.R_lt (by (with_reducible repeat (first | apply Kd.R_alloc | apply Kd.R_drewN | apply Kd.R_drew)); exact HO_6.out))) (Kd.R_lt (by (with_reducible repeat (first | apply Kd.R_alloc | apply Kd.R_drewN | apply Kd.R_drew)); exact HO_7.out))) (zF (by repeat (first | (with_reducible first | exact HB.out | apply kO | apply kF | apply kQ) | exact HB.out)))); have n3_ := Aside0.mk (jZ (by repeat (first | (with_reducible first | exact HB.out | apply kO | apply kF | apply kQ) | exact HB.out)) hb); clear HO_6; clear HO_7; clear HB; have HO_6 := n0_; have HO_7 := n1_; have HO459 := n2_; have HB := n3_; clear n0_ n1_ n2_ n3_; (try clear hb); (try clear hb2); (try clear hk); (try clear hi); (try clear ho0)))
                 have n0_ := Aside0.mk (Kd.R_drew HO_6.out)
                 have n1_ := Aside0.mk (Kd.R_drew HO_7.out)
                 have n2_ := Aside0.mk (Kd.R_drew HO459.out)
                 have n3_ := Aside0.mk (kQ HB.out)
                 clear HO_6
                 clear HO_7
                 clear HO459
                 clear HB
                 have HO_6 := n0_
                 have HO_7 := n1_
                 have HO459 := n2_
                 have HB := n3_
                 clear n0_ n1_ n2_ n3_
                 obtain ⟨Ao37, co37, eo37⟩ := Kd.R_slice HO459.out
                 (first | subst eo37 | (injection eo37 with f1_ f2_ f3_; have f4_ := f1_.symm; have f5_ := f3_.symm; clear f1_ f2_ f3_; subst f4_; subst f5_))
                 have p460 : 0 ≤ (0 : Int) := (by omega)
                 have q460 : 0 < (t457.length : Int) := of_decide_eq_true (by first | (with_reducible assumption) | assumption)
                 obtain ⟨ad460, e460, hx460_0⟩ := Kd.at_int (Kd.R_reads' HO459.out).2.2 0 p460 q460
                 cases e460
                 have qi460 : (0 < t457.length) = True := eq_true (by omega)
                 (try rw [show ((0 : Int)).toNat = 0 from rfl] at hx460_0)
                 (try rw [Addr.add_zero'] at hx460_0)
                 replace p460 := eq_true p460
                 replace q460 := eq_true q460
                 have p461 : 0 ≤ ((ji11) : Int) := of_decide_eq_true (by first | (with_reducible assumption) | assumption)
                 have q461 : (ji11) < (l0.length : Int) := of_decide_eq_true (by first | (with_reducible assumption) | assumption)
                 obtain ⟨ad461, e461, hx461_0⟩ := Kd.at_int HR0.out (ji11) p461 q461
                 have hw461_0 := hx461_0
                 cases e461
                 replace hx461_0 := (HB.out.cell (World.block_lt_of_cell? w _ hx461_0)).trans hx461_0
                 replace p461 := eq_true p461
                 replace q461 := eq_true q461
                 have p17 : 0 ≤ (0 : Int) := (by omega)
                 have q17 : (0 : Int) < ((t457.length : Int) : Int) := of_decide_eq_true (by first | (with_reducible assumption) | assumption)
                 have qi17 : (0 < t457.length) = True := eq_true (by omega)
                 obtain ⟨go17, co17, eo17, gb17, gl17, cl17, HG17⟩ := Kd.R_form HO459.out (by omega)
                 (first | cases eo17 | (injection eo17 with ea_ en_ ec_; (first | subst ea_ | (injection ea_ with ea_; subst ea_)); subst ec_; clear en_))
                 have GB17 := Aside0.mk gb17
                 have GG17 := Aside0.mk HG17
                 clear gb17 gl17 HG17
                 (first | simp only [add_plain] at hx460_0 | skip)
                 obtain ⟨hx17_0, hf17_0⟩ := Kd.R_celln 0 HO459.out (0 : Int) p17 q17
                 (try rw [show ((0 : Int)).toNat = 0 from rfl] at hx17_0)
                 (try simp only [Nat.reduceMul, Nat.zero_mul, Nat.zero_add, Nat.reduceAdd] at hx17_0)
                 (try rw [show ((0 : Int)).toNat = 0 from rfl] at hf17_0)
                 (try simp only [Nat.reduceMul, Nat.zero_mul, Nat.zero_add, Nat.reduceAdd] at hf17_0)
                 replace p17 := eq_true p17
                 replace q17 := eq_true q17
                 have HP38 := Kd.R_putn HO459.out (0 : Int) (Go.bits .or .u64 (rd t457 0) (Go.bits .and .u64 (ji16) 1))
                 rw [← Ny462.out] at HP38
                 have HQ38 := Aside0.mk HP38
                 clear HP38
                 refine start_ (n := 17) (S := fun w' => w'.cell? ⟨go17, 0, none⟩ = some (.int .u64 (rd t457 0)) ∧ w'.cell? (ad461.add ((ji11)).toNat) = some (.int .u64 (rd l0 (ji11)))) (ds := [16]) #[false, false, false, false, false, false, false, false, false, false, false, false, false, false, false, false, false] (by kernel_rfl) rfl rfl ⟨hx460_0, ((HB.out.cell (World.block_lt_of_cell? w _ hw461_0)).trans hw461_0)⟩ (fun hHeld => ?_); refine with_tabW kY.tab7 kY.bits7 (fun HT_ HW_ => ?_)
                 generalize w35.drew = w36 at HO_6 HO_7 HO459 HB GG17 HQ38 hf17_0 hx17_0 hx460_0 hx461_0 hHeld ⊢
                 refine pure_ (i := 0) (N := some 18) (v := ?_) (a' := ?_) #[true, false, false, false, false, false, false, false, false, false, false, false, false, false, false, false, false] rfl rfl (vC HT_.out (by kernel_rfl)) (fun _ _ _ h => h) (Or.inl ⟨by rfl, ?_⟩) ?_ ?_
                 rotate_left
                 · intro w'
                   go_simp
                   with_reducible rfl
                 rotate_left
                 · simp only [Act.put, List.setIfInBounds_toArray, List.set_cons_zero, List.set_cons_succ, qJ, qL]
                   rfl
                 refine pure_ (i := 1) (N := some 19) (v := ?_) (a' := ?_) #[true, true, false, false, false, false, false, false, false, false, false, false, false, false, false, false, false] rfl rfl (vC HT_.out (by kernel_rfl)) (fun _ _ _ h => h) (Or.inl ⟨by rfl, ?_⟩) ?_ ?_
                 rotate_left
                 · intro w'
                   go_simp
                   with_reducible rfl
                 rotate_left
                 · simp only [Act.put, List.setIfInBounds_toArray, List.set_cons_zero, List.set_cons_succ, qJ, qL]
                   rfl
                 refine pure_ (i := 2) (N := some 20) (v := ?_) (a' := ?_) #[true, true, true, false, false, false, false, false, false, false, false, false, false, false, false, false, false] rfl rfl (vC HT_.out (by kernel_rfl)) (fun _ _ _ h => h) (Or.inl ⟨by rfl, ?_⟩) ?_ ?_
                 rotate_left
                 · intro w'
                   go_simp
                   with_reducible rfl
                 rotate_left
                 · simp only [Act.put, List.setIfInBounds_toArray, List.set_cons_zero, List.set_cons_succ, qJ, qL]
                   rfl
                 refine pure_ (i := 4) (N := some 22) (v := ?_) (a' := ?_) #[true, true, true, false, true, false, false, false, false, false, false, false, false, false, false, false, false] rfl rfl (vC HT_.out (by kernel_rfl)) (fun _ _ _ h => h) (Or.inl ⟨by rfl, ?_⟩) ?_ ?_
                 rotate_left
                 · intro w'
                   go_simp
                   with_reducible rfl
                 rotate_left
                 · simp only [Act.put, List.setIfInBounds_toArray, List.set_cons_zero, List.set_cons_succ, qJ, qL]
                   rfl
                 refine pure_ (i := 5) (N := some 23) (v := ?_) (a' := ?_) #[true, true, true, false, true, true, false, false, false, false, false, false, false, false, false, false, false] rfl rfl (vC HT_.out (by kernel_rfl)) (fun _ _ _ h => h) (Or.inl ⟨by rfl, ?_⟩) ?_ ?_
                 rotate_left
                 · intro w'
                   go_simp
                   with_reducible rfl
                 rotate_left
                 · simp only [Act.put, List.setIfInBounds_toArray, List.set_cons_zero, List.set_cons_succ, qJ, qL]
                   rfl
                 refine pure_ (i := 6) (N := some 24) (v := ?_) (a' := ?_) #[true, true, true, false, true, true, true, false, false, false, false, false, false, false, false, false, false] rfl rfl (vC HT_.out (by kernel_rfl)) (fun _ _ _ h => h) (Or.inl ⟨by rfl, ?_⟩) ?_ ?_
                 rotate_left
                 · intro w'
                   go_simp
                   with_reducible rfl
                 rotate_left
                 · simp only [Act.put, List.setIfInBounds_toArray, List.set_cons_zero, List.set_cons_succ, qJ, qL]
                   rfl
                 refine pure_ (i := 7) (N := some 25) (v := ?_) (a' := ?_) #[true, true, true, false, true, true, true, true, false, false, false, false, false, false, false, false, false] rfl rfl (vC HT_.out (by kernel_rfl)) (fun _ _ _ h => h) (Or.inl ⟨by rfl, ?_⟩) ?_ ?_
                 rotate_left
                 · intro w'
                   go_simp
                   with_reducible rfl
                 rotate_left
                 · simp only [Act.put, List.setIfInBounds_toArray, List.set_cons_zero, List.set_cons_succ, qJ, qL]
                   rfl
                 refine pure_ (i := 9) (N := some 27) (v := ?_) (a' := ?_) #[true, true, true, false, true, true, true, true, false, true, false, false, false, false, false, false, false] rfl rfl (vC HT_.out (by kernel_rfl)) (fun _ _ _ h => h) (Or.inl ⟨by rfl, ?_⟩) ?_ ?_
                 rotate_left
                 · intro w'
                   go_simp
                   with_reducible rfl
                 rotate_left
                 · simp only [Act.put, List.setIfInBounds_toArray, List.set_cons_zero, List.set_cons_succ, qJ, qL]
                   rfl
                 refine pure_ (i := 10) (N := some 28) (v := ?_) (a' := ?_) #[true, true, true, false, true, true, true, true, false, true, true, false, false, false, false, false, false] rfl rfl (vC HT_.out (by kernel_rfl)) (fun _ _ _ h => h) (Or.inl ⟨by rfl, ?_⟩) ?_ ?_
                 rotate_left
                 · intro w'
                   go_simp
                   with_reducible rfl
                 rotate_left
                 · simp only [Act.put, List.setIfInBounds_toArray, List.set_cons_zero, List.set_cons_succ, qJ, qL]
                   rfl
                 refine pure_ (i := 11) (N := some 29) (v := ?_) (a' := ?_) #[true, true, true, false, true, true, true, true, false, true, true, true, false, false, false, false, false] rfl rfl (vC HT_.out (by kernel_rfl)) (fun _ _ _ h => h) (Or.inl ⟨by rfl, ?_⟩) ?_ ?_
                 rotate_left
                 · intro w'
                   go_simp
                   with_reducible rfl
                 rotate_left
                 · simp only [Act.put, List.setIfInBounds_toArray, List.set_cons_zero, List.set_cons_succ, qJ, qL]
                   rfl
                 refine take_ (i := 3) (N := some 21) (v := ?_) (a' := ?_) #[true, true, true, true, true, true, true, true, false, true, true, true, false, false, false, false, false] rfl rfl (take_ofW HT_.out HW_.out (by kernel_rfl)) (fun _ _ _ h => h) (Or.inl ⟨by rfl, ?_⟩) hHeld ?_ ?_
                 rotate_left
                 · rintro w' ⟨s0, s1⟩
                   go_simp
                   with_reducible rfl
                 rotate_left
                 · simp only [Act.put, List.setIfInBounds_toArray, List.set_cons_zero, List.set_cons_succ, qJ, qL]
                   rfl
                 refine take_ (i := 8) (N := some 26) (v := ?_) (a' := ?_) #[true, true, true, true, true, true, true, true, true, true, true, true, false, false, false, false, false] rfl rfl (take_ofW HT_.out HW_.out (by kernel_rfl)) (fun _ _ _ h => h) (Or.inl ⟨by rfl, ?_⟩) hHeld ?_ ?_
                 rotate_left
                 · rintro w' ⟨s0, s1⟩
                   go_simp
                   with_reducible rfl
                 rotate_left
                 · simp only [Act.put, List.setIfInBounds_toArray, List.set_cons_zero, List.set_cons_succ, qJ, qL]
                   rfl
                 refine pure_ (i := 12) (N := some 30) (v := ?_) (a' := ?_) #[true, true, true, true, true, true, true, true, true, true, true, true, true, false, false, false, false] rfl rfl (vC HT_.out (by kernel_rfl)) (fun _ _ _ h => h) (Or.inl ⟨by rfl, ?_⟩) ?_ ?_
                 rotate_left
                 · intro w'
                   go_simp
                   with_reducible rfl
                 rotate_left
                 · simp only [Act.put, List.setIfInBounds_toArray, List.set_cons_zero, List.set_cons_succ, qJ, qL]
                   rfl
                 refine pure_ (i := 13) (N := some 31) (v := ?_) (a' := ?_) #[true, true, true, true, true, true, true, true, true, true, true, true, true, true, false, false, false] rfl rfl (vC HT_.out (by kernel_rfl)) (fun _ _ _ h => h) (Or.inl ⟨by rfl, ?_⟩) ?_ ?_
                 rotate_left
                 · intro w'
                   go_simp
                   with_reducible rfl
                 rotate_left
                 · simp only [Act.put, List.setIfInBounds_toArray, List.set_cons_zero, List.set_cons_succ, qJ, qL]
                   rfl
                 refine pure_ (i := 14) (N := some 32) (v := ?_) (a' := ?_) #[true, true, true, true, true, true, true, true, true, true, true, true, true, true, true, false, false] rfl rfl (vC HT_.out (by kernel_rfl)) (fun _ _ _ h => h) (Or.inl ⟨by rfl, ?_⟩) ?_ ?_
                 rotate_left
                 · intro w'
                   go_simp
                   with_reducible rfl
                 rotate_left
                 · simp only [Act.put, List.setIfInBounds_toArray, List.set_cons_zero, List.set_cons_succ, qJ, qL]
                   rfl
                 refine pure_ (i := 15) (N := some 33) (v := ?_) (a' := ?_) #[true, true, true, true, true, true, true, true, true, true, true, true, true, true, true, true, false] rfl rfl (vC HT_.out (by kernel_rfl)) (fun _ _ _ h => h) (Or.inl ⟨by rfl, ?_⟩) ?_ ?_
                 rotate_left
                 · intro w'
                   go_simp
                   with_reducible rfl
                 rotate_left
                 · simp only [Act.put, List.setIfInBounds_toArray, List.set_cons_zero, List.set_cons_succ, qJ, qL]
                   rfl
                 refine last_ (i := 16) (N := none) #[true, true, true, true, true, true, true, true, true, true, true, true, true, true, true, true, true] rfl rfl (one_of HT_.out (by kernel_rfl)) (by decide) (fun K hK => ?_)
                 refine skip_ (w1 := ?_) (by rfl) rfl ?_ ?_
                 rotate_left
                 · go_simp
                   rfl
                 refine hK.out _ _ ?_
                 clear hK K
                 refine done_ (done_of HT_.out (by kernel_rfl)) ?_
                 try go_wp2_with (first | ((with_reducible refine kW (f := 134) rfl ?_); refine jI (some 36) rfl rfl Tryz.func134 (by kernel_rfl) rfl #[.slice (some ⟨go17, 0, none⟩) y462.length co37, .slice A1 l1.length c1] rfl (by (try simp only [List.map_toArray, List.map_cons, List.map_nil]); first | done | (rw [show y462.length = t457.length from (Kd.R_reads' HQ38.out).1.symm] <;> rfl) | rfl | (simp only [List.length_drop, List.length_take]; rfl)) ?_; (with_reducible refine (bG.calls k1 _ _ y462 _ _ l1 t463 _ ?side1 ?side2 ?side3 ?side4 A18.out).mono ?_); (case side1 => refine (Kd.R_reads' (e := 155) (base := w.heap.size) (ok := fun k_ => ((True ∧ some k_ ≠ (v452 : Value).ownBlock) ∧ some k_ ≠ (.slice Ao34 x7_1.length co34 : Value).ownBlock)) (n := t457.length) (c := co37) ?_).2.2; exact (by (with_reducible repeat (first | apply Kd.R_alloc | apply Kd.R_drewN | apply Kd.R_drew)); exact HQ38.out)); (case side2 => rw [show y462.length = t457.length from (Kd.R_reads' HQ38.out).1.symm]; exact (Kd.R_reads' HO459.out).2.1); (case side3 => exact Kd.C_below HR1.out (by repeat (first | (with_reducible first | exact HB.out | apply kO | apply kF | apply kQ | refine bA ?_ GB17.out) | exact HB.out))); (case side4 => exact HC1.out); rintro e w' ⟨rfl, ⟨nd, rfl⟩⟩; refine ⟨_, rfl, ?_⟩))
                 go_roundg k1
                 case measure => have := HK1.out; omega
                 case rel => exact ⟨(x6_1), (y462), (wrap64 (x8_1 - 1)), (by first | rfl | (simp; done) | (simp [*]; done)), H', ⟨by have := HK1.out; omega⟩, ⟨by (with_reducible repeat (first | apply Kd.R_alloc | apply Kd.R_drewN | apply Kd.R_drew)); exact Kd.R_mono (Kd.R_far (p := ⟨go17, 0, none⟩) (Kd.R_mono HO_6.out (fun k_ hk => (⟨hk, fun e_ => hk.2 (by rw [e_]; rfl)⟩ : _ ∧ k_ ≠ go17))) (fun _ hk => hk.2) (.int .u64 (Go.bits .or .u64 (rd t457 0) (Go.bits .and .u64 (ji16) 1)))) (fun _ hk => hk.1.2)⟩, ⟨by (with_reducible repeat (first | apply Kd.R_alloc | apply Kd.R_drewN | apply Kd.R_drew)); exact Kd.R_mono HQ38.out (fun _ hk => hk.1.2)⟩, ⟨by repeat (first | (with_reducible first | exact HB.out | apply kO | apply kF | apply kQ | refine bA ?_ GB17.out) | exact HB.out)⟩⟩
             · rw [if_neg c15] at H
               exact absurd H (by simp)
           · rw [if_neg c13] at H
             exact absurd H (by simp)
         · rw [if_neg c12] at H
           exact absurd H (by simp)
       · rw [if_neg c10] at H
         exact absurd H (by simp)
     · rw [if_neg c8] at H
       have c8b0 : decide (0 ≤ x8_1) = false := decide_eq_false c8
       clear c8
       simp only [Option.some.injEq, Prod.mk.injEq] at H
       obtain ⟨rfl, rfl⟩ := H
       go_wp2
       go_ret2
       exact ⟨_, _, by first | rfl | (simp [zR, zS] <;> rfl) | (simp [*, zR, zS] <;> rfl), by (with_reducible repeat (first | apply Kd.R_alloc | apply Kd.R_drewN | apply Kd.R_drew)); exact HO_6.out, by (with_reducible repeat (first | apply Kd.R_alloc | apply Kd.R_drewN | apply Kd.R_drew)); exact HO_7.out, by repeat (first | (with_reducible first | exact HB.out | apply kO | apply kF | apply kQ) | exact HB.out)⟩
 · rw [if_neg c3] at H
   exact absurd H (by simp)
end Go.Proofs.YtimgphlfaninnaaGreat.P
namespace Go.Proofs.YtimgphlfaninnaaGreat.Civ
set_option linter.unusedVariables false
set_option linter.unusedSimpArgs false
open Go.RowKit Go.Proofs.YtimgphlfaninnaaGreatW.PrintWords Go.Proofs.YtimgphlfaninnaaGreatW.PrintLast Go.Proofs.YtimgphlfaninnaaGreatW.PrintMore Go.Proofs.YtimgphlfaninnaaGreat.P
theorem pow_pos' (s : Nat) : (0 : Int) < 2 ^ s := by exact_mod_cast Nat.two_pow_pos s
theorem pow_split (s : Nat) (h : s < 32) : (4294967296 : Int) = 2 ^ s * (2 * 2 ^ (31 - s)) := by
 have e : (4294967296 : Int) = 2 ^ 32 := rfl
 rw [e, ← Int.pow_succ', ← Int.pow_add]
 congr 1; omega
theorem part_bit (x : Int) (s : Nat) (h : s < 32) : x % 4294967296 / 2 ^ s % 2 = x / 2 ^ s % 2 := by
 have hp := pow_pos' s
 have e : x = x % 4294967296 + 2 ^ s * (2 * 2 ^ (31 - s) * (x / 4294967296)) := by
  rw [← Int.mul_assoc, ← pow_split s h]; omega
 have e2 : x / 2 ^ s = x % 4294967296 / 2 ^ s + 2 * 2 ^ (31 - s) * (x / 4294967296) := by
  conv => lhs; rw [e]
  exact Int.add_mul_ediv_left _ _ (Int.ne_of_gt hp)
 rw [e2, Int.mul_assoc]; omega
theorem low_div (a : Int) (L : Int) (hL : 0 < L) (s : Nat) : a / L / 2 ^ s = a / (L * 2 ^ s) := Int.ediv_ediv_of_nonneg (by omega)
theorem rd_bit (a : Int) (n : Nat) (h : n < 192) : ∃ u, rd (dig a) ((n : Int) / 32) = u ∧ (0 ≤ u ∧ u < 4294967296) ∧ u / 2 ^ (n % 32) % 2 = a / 2 ^ n % 2 := by
 have hs : n % 32 < 32 := Nat.mod_lt _ (by omega)
 have hn : n = 32 * (n / 32) + n % 32 := by omega
 have hq : n / 32 = 0 ∨ n / 32 = 1 ∨ n / 32 = 2 ∨ n / 32 = 3 ∨ n / 32 = 4 ∨ n / 32 = 5 := by omega
 have hi : (n : Int) / 32 = ((n / 32 : Nat) : Int) := by omega
 rw [hi]
 generalize n % 32 = s at *
 generalize n / 32 = q at *
 subst hn
 rw [Int.pow_add]
 rcases hq with e | e | e | e | e | e <;> subst e
 · exact ⟨a % 4294967296, rfl, part_bd _, by rw [part_bit _ _ hs]; simp⟩
 · exact ⟨a / 4294967296 % 4294967296, rfl, part_bd _, by rw [part_bit _ _ hs, low_div _ _ (by omega)]; rfl⟩
 · exact ⟨a / 4294967296 / 4294967296 % 4294967296, rfl, part_bd _, by rw [part_bit _ _ hs, show a / 4294967296 / 4294967296 = a / 18446744073709551616 by omega, low_div _ _ (by omega)]; rfl⟩
 · exact ⟨a / 4294967296 / 4294967296 / 4294967296 % 4294967296, rfl, part_bd _, by rw [part_bit _ _ hs, show a / 4294967296 / 4294967296 / 4294967296 = a / 79228162514264337593543950336 by omega, low_div _ _ (by omega)]; rfl⟩
 · exact ⟨a / 4294967296 / 4294967296 / 4294967296 / 4294967296 % 4294967296, rfl, part_bd _, by rw [part_bit _ _ hs, show a / 4294967296 / 4294967296 / 4294967296 / 4294967296 = a / 340282366920938463463374607431768211456 by omega, low_div _ _ (by omega)]; rfl⟩
 · exact ⟨a / 4294967296 / 4294967296 / 4294967296 / 4294967296 / 4294967296 % 4294967296, rfl, part_bd _, by rw [part_bit _ _ hs, show a / 4294967296 / 4294967296 / 4294967296 / 4294967296 / 4294967296 = a / 1461501637330902918203684832716283019655932542976 by omega, low_div _ _ (by omega)]; rfl⟩
theorem set_bit (N : Int) (n : Nat) (h : n < 192) (h0 : 0 ≤ N) (h1 : N < 6277101735386680763835789423207666416102355444464034512896) (hm : N % 2 ^ (n + 1) = 0) :
 ∃ u, rd (dig N) ((n : Int) / 32) = u ∧ (0 ≤ u ∧ u < 4294967296) ∧ u % 2 ^ (n % 32 + 1) = 0 ∧ (dig N).set ((n : Int) / 32).toNat (u + 2 ^ (n % 32)) = dig (N + 2 ^ n) := by
 have hs : n % 32 < 32 := Nat.mod_lt _ (by omega)
 have hn : n = 32 * (n / 32) + n % 32 := by omega
 have hq : n / 32 = 0 ∨ n / 32 = 1 ∨ n / 32 = 2 ∨ n / 32 = 3 ∨ n / 32 = 4 ∨ n / 32 = 5 := by omega
 have hi : (n : Int) / 32 = ((n / 32 : Nat) : Int) := by omega
 rw [hi]
 generalize n % 32 = s at *
 generalize n / 32 = q at *
 subst hn
 have hp := pow_pos' s
 have hP := pow_split s hs
 have hsucc : (2 : Int) ^ (s + 1) = 2 * 2 ^ s := Int.pow_succ' _ _
 have hs1 : (4294967296 : Int) = 2 ^ (s + 1) * 2 ^ (31 - s) := by rw [hsucc, Int.mul_comm 2, Int.mul_assoc]; exact hP
 obtain ⟨w, hw⟩ : ∃ w, N = 2 ^ (32 * q + s + 1) * w := ⟨_, (Int.mul_ediv_cancel' (Int.dvd_of_emod_eq_zero hm)).symm⟩
 obtain ⟨a0, a1, a2, a3, a4, a5, ea, ⟨A0, A1, A2, A3, A4, A5⟩, va⟩ := dig_form h0 h1
 have up : ∀ u : Int, 0 ≤ u → u < 4294967296 → u % 2 ^ (s + 1) = 0 → u + 2 ^ s < 4294967296 := by
  intro u u0 u1 um
  obtain ⟨v, hv⟩ : ∃ v, u = 2 ^ (s + 1) * v := ⟨_, (Int.mul_ediv_cancel' (Int.dvd_of_emod_eq_zero um)).symm⟩
  have hlt : v < 2 ^ (31 - s) := by
   rcases Int.lt_or_le v (2 ^ (31 - s)) with g | g
   · exact g
   · have := Int.mul_le_mul_of_nonneg_left g (show (0 : Int) ≤ 2 ^ (s + 1) by omega)
     omega
  have := Int.mul_le_mul_of_nonneg_left (show v + 1 ≤ 2 ^ (31 - s) by omega) (show (0 : Int) ≤ 2 ^ (s + 1) by omega)
  rw [Int.mul_add] at this
  omega
 have modz : ∀ (u rest z : Int), u + 4294967296 * rest = 2 ^ (s + 1) * z → u % 2 ^ (s + 1) = 0 := by
  intro u rest z e
  have : u = 2 ^ (s + 1) * (z - 2 ^ (31 - s) * rest) := by rw [Int.mul_sub, ← Int.mul_assoc, ← hs1]; omega
  rw [this]; exact Int.mul_emod_right _ _
 rcases hq with e | e | e | e | e | e <;> subst e
 · have hpw : (2 : Int) ^ (32 * 0 + s + 1) = 1 * 2 ^ (s + 1) := by rw [Nat.add_assoc, Int.pow_add]; rfl
   have hpw2 : (2 : Int) ^ (32 * 0 + s) = 1 * 2 ^ s := by rw [Int.pow_add]; rfl
   have hN : a0 + 4294967296 * (a1 + 4294967296 * (a2 + 4294967296 * (a3 + 4294967296 * (a4 + 4294967296 * (a5))))) = 2 ^ (s + 1) * w := by
    rw [hpw, Int.mul_assoc] at hw
    generalize 2 ^ (s + 1) * w = W at *
    omega
   have hz := modz _ _ _ hN
   refine ⟨a0, by rw [ea]; rfl, A0, hz, ?_⟩
   rw [ea, hpw2]
   show [a0 + 2 ^ s, a1, a2, a3, a4, a5] = _
   exact (dig_of (a := N + 1 * 2 ^ s) ⟨⟨by omega, up a0 A0.1 A0.2 hz⟩, A1, A2, A3, A4, A5⟩ (by rw [va]; omega)).symm
 · have hpw : (2 : Int) ^ (32 * 1 + s + 1) = 4294967296 * 2 ^ (s + 1) := by rw [Nat.add_assoc, Int.pow_add]; rfl
   have hpw2 : (2 : Int) ^ (32 * 1 + s) = 4294967296 * 2 ^ s := by rw [Int.pow_add]; rfl
   have hN : a1 + 4294967296 * (a2 + 4294967296 * (a3 + 4294967296 * (a4 + 4294967296 * (a5)))) = 2 ^ (s + 1) * w := by
    rw [hpw, Int.mul_assoc] at hw
    generalize 2 ^ (s + 1) * w = W at *
    omega
   have hz := modz _ _ _ hN
   refine ⟨a1, by rw [ea]; rfl, A1, hz, ?_⟩
   rw [ea, hpw2]
   show [a0, a1 + 2 ^ s, a2, a3, a4, a5] = _
   exact (dig_of (a := N + 4294967296 * 2 ^ s) ⟨A0, ⟨by omega, up a1 A1.1 A1.2 hz⟩, A2, A3, A4, A5⟩ (by rw [va]; omega)).symm
 · have hpw : (2 : Int) ^ (32 * 2 + s + 1) = 18446744073709551616 * 2 ^ (s + 1) := by rw [Nat.add_assoc, Int.pow_add]; rfl
   have hpw2 : (2 : Int) ^ (32 * 2 + s) = 18446744073709551616 * 2 ^ s := by rw [Int.pow_add]; rfl
   have hN : a2 + 4294967296 * (a3 + 4294967296 * (a4 + 4294967296 * (a5))) = 2 ^ (s + 1) * w := by
    rw [hpw, Int.mul_assoc] at hw
    generalize 2 ^ (s + 1) * w = W at *
    omega
   have hz := modz _ _ _ hN
   refine ⟨a2, by rw [ea]; rfl, A2, hz, ?_⟩
   rw [ea, hpw2]
   show [a0, a1, a2 + 2 ^ s, a3, a4, a5] = _
   exact (dig_of (a := N + 18446744073709551616 * 2 ^ s) ⟨A0, A1, ⟨by omega, up a2 A2.1 A2.2 hz⟩, A3, A4, A5⟩ (by rw [va]; omega)).symm
 · have hpw : (2 : Int) ^ (32 * 3 + s + 1) = 79228162514264337593543950336 * 2 ^ (s + 1) := by rw [Nat.add_assoc, Int.pow_add]; rfl
   have hpw2 : (2 : Int) ^ (32 * 3 + s) = 79228162514264337593543950336 * 2 ^ s := by rw [Int.pow_add]; rfl
   have hN : a3 + 4294967296 * (a4 + 4294967296 * (a5)) = 2 ^ (s + 1) * w := by
    rw [hpw, Int.mul_assoc] at hw
    generalize 2 ^ (s + 1) * w = W at *
    omega
   have hz := modz _ _ _ hN
   refine ⟨a3, by rw [ea]; rfl, A3, hz, ?_⟩
   rw [ea, hpw2]
   show [a0, a1, a2, a3 + 2 ^ s, a4, a5] = _
   exact (dig_of (a := N + 79228162514264337593543950336 * 2 ^ s) ⟨A0, A1, A2, ⟨by omega, up a3 A3.1 A3.2 hz⟩, A4, A5⟩ (by rw [va]; omega)).symm
 · have hpw : (2 : Int) ^ (32 * 4 + s + 1) = 340282366920938463463374607431768211456 * 2 ^ (s + 1) := by rw [Nat.add_assoc, Int.pow_add]; rfl
   have hpw2 : (2 : Int) ^ (32 * 4 + s) = 340282366920938463463374607431768211456 * 2 ^ s := by rw [Int.pow_add]; rfl
   have hN : a4 + 4294967296 * (a5) = 2 ^ (s + 1) * w := by
    rw [hpw, Int.mul_assoc] at hw
    generalize 2 ^ (s + 1) * w = W at *
    omega
   have hz := modz _ _ _ hN
   refine ⟨a4, by rw [ea]; rfl, A4, hz, ?_⟩
   rw [ea, hpw2]
   show [a0, a1, a2, a3, a4 + 2 ^ s, a5] = _
   exact (dig_of (a := N + 340282366920938463463374607431768211456 * 2 ^ s) ⟨A0, A1, A2, A3, ⟨by omega, up a4 A4.1 A4.2 hz⟩, A5⟩ (by rw [va]; omega)).symm
 · have hpw : (2 : Int) ^ (32 * 5 + s + 1) = 1461501637330902918203684832716283019655932542976 * 2 ^ (s + 1) := by rw [Nat.add_assoc, Int.pow_add]; rfl
   have hpw2 : (2 : Int) ^ (32 * 5 + s) = 1461501637330902918203684832716283019655932542976 * 2 ^ s := by rw [Int.pow_add]; rfl
   have hN : a5 + 4294967296 * (0) = 2 ^ (s + 1) * w := by
    rw [hpw, Int.mul_assoc] at hw
    generalize 2 ^ (s + 1) * w = W at *
    omega
   have hz := modz _ _ _ hN
   refine ⟨a5, by rw [ea]; rfl, A5, hz, ?_⟩
   rw [ea, hpw2]
   show [a0, a1, a2, a3, a4, a5 + 2 ^ s] = _
   exact (dig_of (a := N + 1461501637330902918203684832716283019655932542976 * 2 ^ s) ⟨A0, A1, A2, A3, A4, ⟨by omega, up a5 A5.1 A5.2 hz⟩⟩ (by rw [va]; omega)).symm
theorem divide_loop (a b : Int) (ha : 0 ≤ a) (ha1 : a < 6277101735386680763835789423207666416102355444464034512896) (hb : 0 < b) (hb1 : b ≤ 3138550867693340381917894711603833208051177722232017256448) (j : Nat) : ∀ Q R : Int, j ≤ 192 → 0 ≤ Q → 0 ≤ R → R < b → a / 2 ^ j = b * Q + R →
 Ev (fun k => kY.l0 k (dig a) (dig b) (dig (Q * 2 ^ j)) (dig R) ((j : Int) - 1)) (dig (a / b), dig (a % b)) := by
 induction j with
 | zero =>
  intro Q R hj hQ hR hRb he
  rw [Int.pow_zero, Int.ediv_one] at he
  have h := (Int.ediv_emod_unique (a := a) (b := b) (r := R) (q := Q) hb).2 ⟨by omega, hR, hRb⟩
  refine Ev.at1 fun k => ?_
  simp only [kY.l0]
  rw [if_neg (by omega), h.1, h.2, Int.pow_zero, Int.mul_one]
 | succ n ih =>
  intro Q R hj hQ hR hRb he
  have hpn := pow_pos' n
  have hp1 := pow_pos' (n + 1)
  have hs1 : (2 : Int) ^ (n + 1) = 2 ^ n * 2 := Int.pow_succ _ _
  have hbit : a / 2 ^ n = 2 * (a / 2 ^ (n + 1)) + a / 2 ^ n % 2 := by
   have e : a / 2 ^ (n + 1) = a / 2 ^ n / 2 := by rw [hs1, Int.ediv_ediv_of_nonneg (by omega)]
   rw [e]; omega
  obtain ⟨u, hu, ub, hub⟩ := rd_bit a n (by omega)
  obtain ⟨c, hc⟩ : ∃ c, a / 2 ^ n % 2 = c := ⟨_, rfl⟩
  have hc01 : 0 ≤ c ∧ c ≤ 1 := by omega
  rw [hc] at hbit hub
  have hQ1 : Q * 2 ^ (n + 1) < 6277101735386680763835789423207666416102355444464034512896 := by
   have e := Int.mul_ediv_add_emod a (2 ^ (n + 1))
   have g := Int.emod_nonneg a (Int.ne_of_gt hp1)
   have h1 : Q ≤ b * Q := by
    have := Int.mul_le_mul_of_nonneg_right (show (1 : Int) ≤ b by omega) hQ
    omega
   have h2 : Q ≤ a / 2 ^ (n + 1) := by omega
   have h3 := Int.mul_le_mul_of_nonneg_left h2 (show (0 : Int) ≤ 2 ^ (n + 1) by omega)
   rw [Int.mul_comm Q]; omega
  have hQ0 : 0 ≤ Q * 2 ^ (n + 1) := Int.mul_nonneg hQ (by omega)
  obtain ⟨v, hv, vb, vm, vset⟩ := set_bit (Q * 2 ^ (n + 1)) n (by omega) hQ0 hQ1 (Int.mul_emod_left _ _)
  have hidx : wrap64 (Int.tdiv ((n + 1 : Nat) - 1 : Int) 32) = (n : Int) / 32 := by
   rw [show ((n + 1 : Nat) - 1 : Int) = (n : Int) by omega, td_pos (by omega), w64 (by omega) (by omega)]
  have hsh : IntKind.u64.wrap (Int.tmod ((n + 1 : Nat) - 1 : Int) 32) = ((n % 32 : Nat) : Int) := by
   rw [show ((n + 1 : Nat) - 1 : Int) = (n : Int) by omega, tm_pos (by omega), u64w (by omega) (by omega)]; omega
  have hn32 : n % 32 < 32 := Nat.mod_lt _ (by omega)
  have hshr : ∀ x : Int, shr .u64 x ((n % 32 : Nat) : Int) = x / 2 ^ (n % 32) := fun x => by
   unfold shr; rw [Int.toNat_natCast, Nat.min_eq_left (by show n % 32 ≤ 64; omega)]
  have hshl : shl .u64 1 ((n % 32 : Nat) : Int) = 2 ^ (n % 32) := by
   unfold shl; rw [Int.toNat_natCast, Nat.min_eq_left (by show n % 32 ≤ 64; omega), Int.one_mul, u64w]
   · have := pow_pos' (n % 32); omega
   · have : (2 : Int) ^ (n % 32) ≤ 2 ^ 31 := by exact_mod_cast Nat.pow_le_pow_right (by decide) (show n % 32 ≤ 31 by omega)
     omega
  have hand : Go.bits .and .u64 (u / 2 ^ (n % 32)) 1 = c := by
   have h1 := Int.ediv_le_self (2 ^ (n % 32)) ub.1
   have h0 := Int.ediv_nonneg ub.1 (b := 2 ^ (n % 32)) (by have := pow_pos' (n % 32); omega)
   rw [show (1 : Int) = 2 ^ 1 - 1 from rfl, bits_mask .u64 64 (by decide) wraps_u64 1 (by decide) _ h0 (by omega), ← hub]; rfl
  have hRr : 2 * R + c < 6277101735386680763835789423207666416102355444464034512896 := by omega
  have hset0 : ∀ l, l = dig (R + R) → l.set (0 : Int).toNat (Go.bits .or .u64 (rd l 0) c) = dig (2 * R + c) := by
   intro l hl
   subst hl
   obtain ⟨a0, a1, a2, a3, a4, a5, ea, ⟨A0, A1, A2, A3, A4, A5⟩, va⟩ := dig_form (a := R + R) (by omega) (by omega)
   rw [ea]
   show [Go.bits .or .u64 a0 c, a1, a2, a3, a4, a5] = _
   rw [orj 1 (by omega) A0.1 (by show a0 % 2 = 0; omega) (by omega) hc01.1 (by show c < 2; omega)]
   exact (dig_of (a := 2 * R + c) ⟨by omega, A1, A2, A3, A4, A5⟩ (by omega)).symm
  refine Ev.succ ?_
  simp only [kY.l0]
  refine Ev.pos (by omega) ?_
  refine Ev.bind (add_ev hR hR (by omega)) ?_
  rw [hidx, hsh]
  refine Ev.pos (by rw [dig_length]; decide) ?_
  refine Ev.pos (by omega) ?_
  refine Ev.pos (by rw [dig_length]; omega) ?_
  refine Ev.pos (by omega) ?_
  rw [hu, hshr, hand, hset0 _ rfl, hshl, hv]
  rw [orj (n % 32 + 1) (by omega) vb.1 vm (by omega) (by have := pow_pos' (n % 32); omega) (by have := pow_pos' (n % 32); rw [Int.pow_succ]; omega), vset, show (((n + 1 : Nat) : Int) - 1 - 1) = (n : Int) - 1 by omega, w64 (x := (n : Int) - 1) (by omega) (by omega)]
  refine Ev.bind0 rfl ?_
  refine Ev.bind (cmp_ev (by omega) hRr (by omega) (by omega)) ?_
  by_cases hg : b ≤ 2 * R + c
  · have : sgn (2 * R + c) b ≥ 0 := by unfold sgn; split <;> omega
    simp only [if_pos this]
    refine Ev.bind (less_ev hRr (by omega) hg) ?_
    refine Ev.pos (by rw [dig_length]; omega) ?_
    have e : Q * 2 ^ (n + 1) + 2 ^ n = (2 * Q + 1) * 2 ^ n := by rw [hs1, Int.add_mul, Int.one_mul, Int.mul_comm 2 Q, Int.mul_assoc, Int.mul_comm 2]
    rw [e]
    refine ih (2 * Q + 1) (2 * R + c - b) (by omega) (by omega) (by omega) (by omega) ?_
    have em : b * (2 * Q + 1) = 2 * (b * Q) + b := by rw [Int.mul_add, Int.mul_one, Int.mul_left_comm]
    rw [hbit, he, em]; omega
  · have : ¬ sgn (2 * R + c) b ≥ 0 := by unfold sgn; rw [if_pos (by omega)]; omega
    simp only [if_neg this]
    have e : Q * 2 ^ (n + 1) = (2 * Q) * 2 ^ n := by rw [hs1, Int.mul_comm 2 Q, Int.mul_assoc, Int.mul_comm 2]
    rw [e]
    refine ih (2 * Q) (2 * R + c) (by omega) (by omega) (by omega) (by omega) ?_
    have em : b * (2 * Q) = 2 * (b * Q) := Int.mul_left_comm _ _ _
    rw [hbit, he, em]; omega
end Go.Proofs.YtimgphlfaninnaaGreat.Civ
