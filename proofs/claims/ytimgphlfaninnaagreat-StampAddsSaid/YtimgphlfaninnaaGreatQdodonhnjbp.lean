import Derived.Test.YtimgphlfaninnaaGreatQdfoehbdgao
import Derived.Test.YtimgphlfaninnaaGreatQjnpockodeo
import Derived.Test.YtimgphlfaninnaaGreatQmljkdhalhg
namespace Go.Proofs.YtimgphlfaninnaaGreat.P
open Go.RowKit Go.Proofs.YtimgphlfaninnaaGreatW.PrintWords Go.Proofs.YtimgphlfaninnaaGreatW.PrintLast Go.Proofs.YtimgphlfaninnaaGreatW.PrintMore
open Go.Proofs.YtimgphlfaninnaaGreat.A
 attribute [local go_sem] bR bQ jC jB bL bM bP bS
set_option linter.unusedVariables false
set_option linter.unusedSimpArgs false
def jG.f (a0 : Int) (a1 : Int) : Option (Int) := if a1 = 0 then (none) else (if (Int.tmod a0 a1) < 0 then (some (wrap64 ((wrap64 (Int.tdiv a0 a1)) - 1))) else (some (wrap64 (Int.tdiv a0 a1))))
set_option maxHeartbeats 8000000 in
set_option maxRecDepth 100000 in
theorem jG.calls (a0 : Int) (a1 : Int) (r : Int) (w : World) (h : jG.f a0 a1 = some r) :
 Calls Tryz.prog 140 #[.int .i64 a0, .int .i64 a1] w fun e w' => e = .returned (.int .i64 r) ∧ Drawn0 w w' := by
 have H : (if a1 = 0 then (none) else (if (Int.tmod a0 a1) < 0 then (some (wrap64 ((wrap64 (Int.tdiv a0 a1)) - 1))) else (some (wrap64 (Int.tdiv a0 a1))))) = some r := h
 clear h
 by_cases c3 : a1 = 0
 · rw [if_pos c3] at H
   exact absurd H (by simp)
 · rw [if_neg c3] at H
   have c3b0 : (a1 == 0) = false := beq_eq_false_iff_ne.mpr c3
   have c3b1 : (a1 != 0) = true := bne_iff_ne.mpr c3
   by_cases c4 : (Int.tmod a0 a1) < 0
   · rw [if_pos c4] at H
     have c4b0 : decide ((Int.tmod a0 a1) < 0) = true := decide_eq_true c4
     clear c4
     obtain rfl := Option.some.inj H
     go_enter Tryz.func140, Tryz.ntmps140
     go_wp2
     go_ret
     exact ⟨by first | rfl | (simp; done) | (simp [*]; done), by repeat (first | exact Drawn0.refl _ | apply Drawn0.step)⟩
   · rw [if_neg c4] at H
     have c4b0 : decide ((Int.tmod a0 a1) < 0) = false := decide_eq_false c4
     clear c4
     obtain rfl := Option.some.inj H
     go_enter Tryz.func140, Tryz.ntmps140
     go_wp2
     go_ret
     exact ⟨by first | rfl | (simp; done) | (simp [*]; done), by repeat (first | exact Drawn0.refl _ | apply Drawn0.step)⟩
def kO.l0 : Nat → Int → Int → Int → Option (Int)
 | 0, _, _, _ => none
 | k + 1, x0, x3, x4 => (kU.f (wrap64 (x0 - 2000)) 400).bind fun t329 => (if x4 < t329 then ((bX.f (wrap64 (2000 + x4))).bind fun t330 => (if t330 = true then (kO.l0 k x0 (wrap64 ((wrap64 (x3 + 365)) + 1)) (wrap64 (x4 + 1))) else (kO.l0 k x0 (wrap64 (x3 + 365)) (wrap64 (x4 + 1))))) else (some x3))
def kO.f (k : Nat) (a0 : Int) : Option (Int) := (jG.f (wrap64 (a0 - 2000)) 400).bind fun t328 => (kO.l0 k a0 (wrap64 (t328 * 146097)) 0)
theorem kO.mono_l : ∀ k, (∀ y0 y1 y2, LeO (kO.l0 k y0 y1 y2) (kO.l0 (k + 1) y0 y1 y2))
 | 0 => fun _ _ _ r h => by simp [kO.l0] at h
 | k + 1 => by
  have ih0 := kO.mono_l k
  · intro y0 y1 y2
    unfold kO.l0
    repeat' first
    | (with_reducible exact ih0 _ _ _)
    | (with_reducible exact LeO.refl _)
    | (with_reducible exact LeO.none _)
    | (with_reducible refine LeO.ite ?_ ?_)
    | (with_reducible refine LeO.bind ?_ (fun _ => ?_))
    | exact ih0 _ _ _
    | exact LeO.none _
    | refine LeO.ite ?_ ?_
    | refine LeO.bind ?_ (fun _ => ?_)
theorem kO.mono : ∀ a0 k, LeO (kO.f k a0) (kO.f (k + 1) a0) := by
 intro a0 k
 have ih0 := kO.mono_l k
 unfold kO.f
 repeat' first
  | (with_reducible exact ih0 _ _ _)
  | (with_reducible exact LeO.refl _)
  | (with_reducible exact LeO.none _)
  | (with_reducible refine LeO.ite ?_ ?_)
  | (with_reducible refine LeO.bind ?_ (fun _ => ?_))
  | exact ih0 _ _ _
  | exact LeO.none _
  | refine LeO.ite ?_ ?_
  | refine LeO.bind ?_ (fun _ => ?_)
set_option maxHeartbeats 8000000 in
set_option maxRecDepth 100000 in
theorem kO.calls (k : Nat) (a0 : Int) (r : Int) (w : World) (h : kO.f k a0 = some r) :
 Calls Tryz.prog 167 #[.int .i64 a0] w fun e w' => e = .returned (.int .i64 r) ∧ Drawn0 w w' := by
 have H : ((jG.f (wrap64 (a0 - 2000)) 400).bind fun t328 => (kO.l0 k a0 (wrap64 (t328 * 146097)) 0)) = some r := h
 clear h
 replace H := Option.bind_eq_some_iff.mp H
 obtain ⟨t328, A20, H⟩ := H
 replace H : (kO.l0 k a0 (wrap64 (t328 * 146097)) 0) = some r := H
 have A2 := Aside0.mk A20
 clear A20
 have H' := Aside0.mk H
 clear H
 go_enter Tryz.func167, Tryz.ntmps167
 go_wp2_with (first | ((with_reducible refine bC (f := 140) rfl ?_); refine jH (some 7) rfl rfl Tryz.func140 (by kernel_rfl) rfl #[.int .i64 (wrap64 (a0 - 2000)), .int .i64 400] rfl (by (try simp only [List.map_toArray, List.map_cons, List.map_nil]); first | done | rfl | (simp only [List.length_drop, List.length_take]; rfl)) ?_; (with_reducible refine (jG.calls (wrap64 (a0 - 2000)) 400 t328 _ A2.out).mono ?_); rintro e w' ⟨rfl, ⟨nd, rfl⟩⟩; refine ⟨_, rfl, ?_⟩))
 go_loopg [3, 4] k (fun kq v3 v4 w' => ∃ (x3_1 : Int) (x4_1 : Int), v3 = .int .i64 x3_1 ∧ v4 = .int .i64 x4_1 ∧ Aside0 (kO.l0 kq a0 x3_1 x4_1 = some r) ∧ Aside0 (kq ≤ k) ∧ Drawn0 w w')
 case atStart => exact ⟨(wrap64 (t328 * 146097)), (0), (by first | rfl | (simp; done) | (simp [*]; done)), (by first | rfl | (simp; done) | (simp [*]; done)), H', ⟨Nat.le_refl _⟩, by repeat (first | exact Drawn0.refl _ | apply Drawn0.step)⟩
 case round =>
  clear H'
  try clear c1
  try clear p2
  obtain ⟨x3_1, x4_1, rfl, rfl, HA, HK1, ⟨m1, rfl⟩⟩ := hrel
  cases gk with
  | zero => exact absurd HA.out (by simp [kO.l0])
  | succ k1 =>
   have H := HA.out
   clear HA
   simp only [kO.l0] at H
   replace H := Option.bind_eq_some_iff.mp H
   obtain ⟨t329, A30, H⟩ := H
   replace H : (if x4_1 < t329 then ((bX.f (wrap64 (2000 + x4_1))).bind fun t330 => (if t330 = true then (kO.l0 k1 a0 (wrap64 ((wrap64 (x3_1 + 365)) + 1)) (wrap64 (x4_1 + 1))) else (kO.l0 k1 a0 (wrap64 (x3_1 + 365)) (wrap64 (x4_1 + 1))))) else (some x3_1)) = some r := H
   have A3 := Aside0.mk A30
   clear A30
   by_cases c4 : x4_1 < t329
   · rw [if_pos c4] at H
     have c4b0 : decide (x4_1 < t329) = true := decide_eq_true c4
     clear c4
     replace H := Option.bind_eq_some_iff.mp H
     obtain ⟨t330, A50, H⟩ := H
     replace H : (if t330 = true then (kO.l0 k1 a0 (wrap64 ((wrap64 (x3_1 + 365)) + 1)) (wrap64 (x4_1 + 1))) else (kO.l0 k1 a0 (wrap64 (x3_1 + 365)) (wrap64 (x4_1 + 1)))) = some r := H
     have A5 := Aside0.mk A50
     clear A50
     by_cases c6 : t330 = true
     · subst c6
       have H1 : (kO.l0 k1 a0 (wrap64 ((wrap64 (x3_1 + 365)) + 1)) (wrap64 (x4_1 + 1))) = some r := by rw [if_pos rfl] at H; exact H
       clear H
       have H := H1
       clear H1
       have H' := Aside0.mk H
       clear H
       go_wp2_with (first | ((with_reducible refine bC (f := 141) rfl ?_); refine jH (some 12) rfl rfl Tryz.func141 (by kernel_rfl) rfl #[.int .i64 (wrap64 (a0 - 2000)), .int .i64 400] rfl (by (try simp only [List.map_toArray, List.map_cons, List.map_nil]); first | done | rfl | (simp only [List.length_drop, List.length_take]; rfl)) ?_; (with_reducible refine (kU.calls (wrap64 (a0 - 2000)) 400 t329 _ A3.out).mono ?_); rintro e w' ⟨rfl, ⟨nd, rfl⟩⟩; refine ⟨_, rfl, ?_⟩) | ((with_reducible refine bC (f := 142) rfl ?_); refine jH (some 20) rfl rfl Tryz.func142 (by kernel_rfl) rfl #[.int .i64 (wrap64 (2000 + x4_1))] rfl (by (try simp only [List.map_toArray, List.map_cons, List.map_nil]); first | done | rfl | (simp only [List.length_drop, List.length_take]; rfl)) ?_; (with_reducible refine (bX.calls (wrap64 (2000 + x4_1)) true _ A5.out).mono ?_); rintro e w' ⟨rfl, ⟨nd, rfl⟩⟩; refine ⟨_, rfl, ?_⟩))
       go_roundg k1
       case measure => have := HK1.out; omega
       case rel => exact ⟨(wrap64 ((wrap64 (x3_1 + 365)) + 1)), (wrap64 (x4_1 + 1)), (by first | rfl | (simp; done) | (simp [*]; done)), (by first | rfl | (simp; done) | (simp [*]; done)), H', ⟨by have := HK1.out; omega⟩, by repeat (first | exact Drawn0.refl _ | apply Drawn0.step)⟩
     · replace c6 := Bool.eq_false_iff.mpr c6
       subst c6
       have H1 : (kO.l0 k1 a0 (wrap64 (x3_1 + 365)) (wrap64 (x4_1 + 1))) = some r := by rw [if_neg (show ¬ (false = true) by decide)] at H; exact H
       clear H
       have H := H1
       clear H1
       have H' := Aside0.mk H
       clear H
       go_wp2_with (first | ((with_reducible refine bC (f := 141) rfl ?_); refine jH (some 12) rfl rfl Tryz.func141 (by kernel_rfl) rfl #[.int .i64 (wrap64 (a0 - 2000)), .int .i64 400] rfl (by (try simp only [List.map_toArray, List.map_cons, List.map_nil]); first | done | rfl | (simp only [List.length_drop, List.length_take]; rfl)) ?_; (with_reducible refine (kU.calls (wrap64 (a0 - 2000)) 400 t329 _ A3.out).mono ?_); rintro e w' ⟨rfl, ⟨nd, rfl⟩⟩; refine ⟨_, rfl, ?_⟩) | ((with_reducible refine bC (f := 142) rfl ?_); refine jH (some 20) rfl rfl Tryz.func142 (by kernel_rfl) rfl #[.int .i64 (wrap64 (2000 + x4_1))] rfl (by (try simp only [List.map_toArray, List.map_cons, List.map_nil]); first | done | rfl | (simp only [List.length_drop, List.length_take]; rfl)) ?_; (with_reducible refine (bX.calls (wrap64 (2000 + x4_1)) false _ A5.out).mono ?_); rintro e w' ⟨rfl, ⟨nd, rfl⟩⟩; refine ⟨_, rfl, ?_⟩))
       go_roundg k1
       case measure => have := HK1.out; omega
       case rel => exact ⟨(wrap64 (x3_1 + 365)), (wrap64 (x4_1 + 1)), (by first | rfl | (simp; done) | (simp [*]; done)), (by first | rfl | (simp; done) | (simp [*]; done)), H', ⟨by have := HK1.out; omega⟩, by repeat (first | exact Drawn0.refl _ | apply Drawn0.step)⟩
   · rw [if_neg c4] at H
     have c4b0 : decide (x4_1 < t329) = false := decide_eq_false c4
     clear c4
     obtain rfl := Option.some.inj H
     go_wp2_with (first | ((with_reducible refine bC (f := 141) rfl ?_); refine jH (some 12) rfl rfl Tryz.func141 (by kernel_rfl) rfl #[.int .i64 (wrap64 (a0 - 2000)), .int .i64 400] rfl (by (try simp only [List.map_toArray, List.map_cons, List.map_nil]); first | done | rfl | (simp only [List.length_drop, List.length_take]; rfl)) ?_; (with_reducible refine (kU.calls (wrap64 (a0 - 2000)) 400 t329 _ A3.out).mono ?_); rintro e w' ⟨rfl, ⟨nd, rfl⟩⟩; refine ⟨_, rfl, ?_⟩))
     go_ret
     exact ⟨by first | rfl | (simp; done) | (simp [*]; done), by repeat (first | exact Drawn0.refl _ | apply Drawn0.step)⟩
def kP.l0 : Nat → Int → Int → Int → Int → Option (Int)
 | 0, _, _, _, _ => none
 | k + 1, x0, x1, x7, x8 => if x8 < x1 then ((kA.f k x0 x8).bind fun t332 => (kP.l0 k x0 x1 (wrap64 (x7 + t332)) (wrap64 (x8 + 1)))) else (some x7)
def kP.f (k : Nat) (a0 : Int) (a1 : Int) (a2 : Int) : Option (Int) := (kO.f k a0).bind fun t331 => (kP.l0 k a0 a1 (wrap64 ((wrap64 (t331 + a2)) - 1)) 1)
theorem kP.mono_l : ∀ k, (∀ y0 y1 y2 y3, LeO (kP.l0 k y0 y1 y2 y3) (kP.l0 (k + 1) y0 y1 y2 y3))
 | 0 => fun _ _ _ _ r h => by simp [kP.l0] at h
 | k + 1 => by
  have ih0 := kP.mono_l k
  · intro y0 y1 y2 y3
    unfold kP.l0
    repeat' first
    | (with_reducible exact ih0 _ _ _ _)
    | (with_reducible exact kA.mono _ _ _)
    | (with_reducible exact kO.mono _ _)
    | (with_reducible exact LeO.refl _)
    | (with_reducible exact LeO.none _)
    | (with_reducible refine LeO.ite ?_ ?_)
    | (with_reducible refine LeO.bind ?_ (fun _ => ?_))
    | exact ih0 _ _ _ _
    | exact kA.mono _ _ _
    | exact kO.mono _ _
    | exact LeO.none _
    | refine LeO.ite ?_ ?_
    | refine LeO.bind ?_ (fun _ => ?_)
theorem kP.mono : ∀ a0 a1 a2 k, LeO (kP.f k a0 a1 a2) (kP.f (k + 1) a0 a1 a2) := by
 intro a0 a1 a2 k
 have ih0 := kP.mono_l k
 unfold kP.f
 repeat' first
  | (with_reducible exact ih0 _ _ _ _)
  | (with_reducible exact kA.mono _ _ _)
  | (with_reducible exact kO.mono _ _)
  | (with_reducible exact LeO.refl _)
  | (with_reducible exact LeO.none _)
  | (with_reducible refine LeO.ite ?_ ?_)
  | (with_reducible refine LeO.bind ?_ (fun _ => ?_))
  | exact ih0 _ _ _ _
  | exact kA.mono _ _ _
  | exact kO.mono _ _
  | exact LeO.none _
  | refine LeO.ite ?_ ?_
  | refine LeO.bind ?_ (fun _ => ?_)
set_option maxHeartbeats 8000000 in
set_option maxRecDepth 100000 in
theorem kP.calls (k : Nat) (a0 : Int) (a1 : Int) (a2 : Int) (r : Int) (w : World) (h : kP.f k a0 a1 a2 = some r) :
 Calls Tryz.prog 144 #[.int .i64 a0, .int .i64 a1, .int .i64 a2] w fun e w' => e = .returned (.int .i64 r) ∧ Drawn0 w w' := by
 have H : ((kO.f k a0).bind fun t331 => (kP.l0 k a0 a1 (wrap64 ((wrap64 (t331 + a2)) - 1)) 1)) = some r := h
 clear h
 replace H := Option.bind_eq_some_iff.mp H
 obtain ⟨t331, A40, H⟩ := H
 replace H : (kP.l0 k a0 a1 (wrap64 ((wrap64 (t331 + a2)) - 1)) 1) = some r := H
 have A4 := Aside0.mk A40
 clear A40
 have H' := Aside0.mk H
 clear H
 go_enter Tryz.func144, Tryz.ntmps144
 go_wp2_with (first | ((with_reducible refine bC (f := 167) rfl ?_); refine jH (some 10) rfl rfl Tryz.func167 (by kernel_rfl) rfl #[.int .i64 a0] rfl (by (try simp only [List.map_toArray, List.map_cons, List.map_nil]); first | done | rfl | (simp only [List.length_drop, List.length_take]; rfl)) ?_; (with_reducible refine (kO.calls k a0 t331 _ A4.out).mono ?_); rintro e w' ⟨rfl, ⟨nd, rfl⟩⟩; refine ⟨_, rfl, ?_⟩))
 go_loopg [7, 8] k (fun kq v7 v8 w' => ∃ (x7_1 : Int) (x8_1 : Int), v7 = .int .i64 x7_1 ∧ v8 = .int .i64 x8_1 ∧ Aside0 (kP.l0 kq a0 a1 x7_1 x8_1 = some r) ∧ Aside0 (kq ≤ k) ∧ Drawn0 w w')
 case atStart => exact ⟨(wrap64 ((wrap64 (t331 + a2)) - 1)), (1), (by first | rfl | (simp; done) | (simp [*]; done)), (by first | rfl | (simp; done) | (simp [*]; done)), H', ⟨Nat.le_refl _⟩, by repeat (first | exact Drawn0.refl _ | apply Drawn0.step)⟩
 case round =>
  clear H'
  try clear c1
  try clear p2
  obtain ⟨x7_1, x8_1, rfl, rfl, HA, HK1, ⟨m1, rfl⟩⟩ := hrel
  cases gk with
  | zero => exact absurd HA.out (by simp [kP.l0])
  | succ k1 =>
   have H := HA.out
   clear HA
   simp only [kP.l0] at H
   by_cases c5 : x8_1 < a1
   · rw [if_pos c5] at H
     have c5b0 : decide (x8_1 < a1) = true := decide_eq_true c5
     clear c5
     replace H := Option.bind_eq_some_iff.mp H
     obtain ⟨t332, A60, H⟩ := H
     replace H : (kP.l0 k1 a0 a1 (wrap64 (x7_1 + t332)) (wrap64 (x8_1 + 1))) = some r := H
     have A6 := Aside0.mk A60
     clear A60
     have H' := Aside0.mk H
     clear H
     go_wp2_with (first | ((with_reducible refine bC (f := 143) rfl ?_); refine jH (some 22) rfl rfl Tryz.func143 (by kernel_rfl) rfl #[.int .i64 a0, .int .i64 x8_1] rfl (by (try simp only [List.map_toArray, List.map_cons, List.map_nil]); first | done | rfl | (simp only [List.length_drop, List.length_take]; rfl)) ?_; (with_reducible refine (kA.calls k1 a0 x8_1 t332 _ A6.out).mono ?_); rintro e w' ⟨rfl, ⟨nd, rfl⟩⟩; refine ⟨_, rfl, ?_⟩))
     go_roundg k1
     case measure => have := HK1.out; omega
     case rel => exact ⟨(wrap64 (x7_1 + t332)), (wrap64 (x8_1 + 1)), (by first | rfl | (simp; done) | (simp [*]; done)), (by first | rfl | (simp; done) | (simp [*]; done)), H', ⟨by have := HK1.out; omega⟩, by repeat (first | exact Drawn0.refl _ | apply Drawn0.step)⟩
   · rw [if_neg c5] at H
     have c5b0 : decide (x8_1 < a1) = false := decide_eq_false c5
     clear c5
     obtain rfl := Option.some.inj H
     go_wp2
     go_ret
     exact ⟨by first | rfl | (simp; done) | (simp [*]; done), by repeat (first | exact Drawn0.refl _ | apply Drawn0.step)⟩
def bZ.f (k : Nat)  : Option (Int) := (kP.f k (-4718) 1 1).bind fun t333 => (some t333)
theorem bZ.mono : ∀ k, LeO (bZ.f k ) (bZ.f (k + 1) ) := by
 intro  k
 unfold bZ.f
 repeat' first
  | (with_reducible exact kP.mono _ _ _ _)
  | (with_reducible exact LeO.refl _)
  | (with_reducible exact LeO.none _)
  | (with_reducible refine LeO.ite ?_ ?_)
  | (with_reducible refine LeO.bind ?_ (fun _ => ?_))
  | exact kP.mono _ _ _ _
  | exact LeO.none _
  | refine LeO.ite ?_ ?_
  | refine LeO.bind ?_ (fun _ => ?_)
set_option maxHeartbeats 8000000 in
set_option maxRecDepth 100000 in
theorem bZ.calls (k : Nat)  (r : Int) (w : World) (h : bZ.f k  = some r) :
 Calls Tryz.prog 108 #[] w fun e w' => e = .returned (.int .i64 r) ∧ Drawn0 w w' := by
 have H : ((kP.f k (-4718) 1 1).bind fun t333 => (some t333)) = some r := h
 clear h
 replace H := Option.bind_eq_some_iff.mp H
 obtain ⟨t333, A10, H⟩ := H
 replace H : (some t333) = some r := H
 have A1 := Aside0.mk A10
 clear A10
 obtain rfl := Option.some.inj H
 go_enter Tryz.func108, Tryz.ntmps108
 go_wp2_with (first | ((with_reducible refine bC (f := 144) rfl ?_); refine jH (some 1) rfl rfl Tryz.func144 (by kernel_rfl) rfl #[.int .i64 (-4718), .int .i64 1, .int .i64 1] rfl (by (try simp only [List.map_toArray, List.map_cons, List.map_nil]); first | done | rfl | (simp only [List.length_drop, List.length_take]; rfl)) ?_; (with_reducible refine (kP.calls k (-4718) 1 1 t333 _ A1.out).mono ?_); rintro e w' ⟨rfl, ⟨nd, rfl⟩⟩; refine ⟨_, rfl, ?_⟩))
 go_ret
 exact ⟨by first | rfl | (simp; done) | (simp [*]; done), by repeat (first | exact Drawn0.refl _ | apply Drawn0.step)⟩
def jK.f (k : Nat)  : Option (Int) := (kP.f k 294282 12 31).bind fun t334 => (some t334)
theorem jK.mono : ∀ k, LeO (jK.f k ) (jK.f (k + 1) ) := by
 intro  k
 unfold jK.f
 repeat' first
  | (with_reducible exact kP.mono _ _ _ _)
  | (with_reducible exact LeO.refl _)
  | (with_reducible exact LeO.none _)
  | (with_reducible refine LeO.ite ?_ ?_)
  | (with_reducible refine LeO.bind ?_ (fun _ => ?_))
  | exact kP.mono _ _ _ _
  | exact LeO.none _
  | refine LeO.ite ?_ ?_
  | refine LeO.bind ?_ (fun _ => ?_)
set_option maxHeartbeats 8000000 in
set_option maxRecDepth 100000 in
theorem jK.calls (k : Nat)  (r : Int) (w : World) (h : jK.f k  = some r) :
 Calls Tryz.prog 166 #[] w fun e w' => e = .returned (.int .i64 r) ∧ Drawn0 w w' := by
 have H : ((kP.f k 294282 12 31).bind fun t334 => (some t334)) = some r := h
 clear h
 replace H := Option.bind_eq_some_iff.mp H
 obtain ⟨t334, A10, H⟩ := H
 replace H : (some t334) = some r := H
 have A1 := Aside0.mk A10
 clear A10
 obtain rfl := Option.some.inj H
 go_enter Tryz.func166, Tryz.ntmps166
 go_wp2_with (first | ((with_reducible refine bC (f := 144) rfl ?_); refine jH (some 1) rfl rfl Tryz.func144 (by kernel_rfl) rfl #[.int .i64 294282, .int .i64 12, .int .i64 31] rfl (by (try simp only [List.map_toArray, List.map_cons, List.map_nil]); first | done | rfl | (simp only [List.length_drop, List.length_take]; rfl)) ?_; (with_reducible refine (kP.calls k 294282 12 31 t334 _ A1.out).mono ?_); rintro e w' ⟨rfl, ⟨nd, rfl⟩⟩; refine ⟨_, rfl, ?_⟩))
 go_ret
 exact ⟨by first | rfl | (simp; done) | (simp [*]; done), by repeat (first | exact Drawn0.refl _ | apply Drawn0.step)⟩
def bT.f (k : Nat) (a0 : Int) : Option (Bool) := (bZ.f k).bind fun t335 => (if a0 ≥ t335 then ((jK.f k).bind fun t336 => (some (decide (a0 ≤ t336)))) else (some false))
theorem bT.mono : ∀ a0 k, LeO (bT.f k a0) (bT.f (k + 1) a0) := by
 intro a0 k
 unfold bT.f
 repeat' first
  | (with_reducible exact bZ.mono _)
  | (with_reducible exact jK.mono _)
  | (with_reducible exact LeO.refl _)
  | (with_reducible exact LeO.none _)
  | (with_reducible refine LeO.ite ?_ ?_)
  | (with_reducible refine LeO.bind ?_ (fun _ => ?_))
  | exact bZ.mono _
  | exact jK.mono _
  | exact LeO.none _
  | refine LeO.ite ?_ ?_
  | refine LeO.bind ?_ (fun _ => ?_)
set_option maxHeartbeats 8000000 in
set_option maxRecDepth 100000 in
theorem bT.calls (k : Nat) (a0 : Int) (r : Bool) (w : World) (h : bT.f k a0 = some r) :
 Calls Tryz.prog 139 #[.int .i64 a0] w fun e w' => e = .returned (.bool r) ∧ Drawn0 w w' := by
 have H : ((bZ.f k).bind fun t335 => (if a0 ≥ t335 then ((jK.f k).bind fun t336 => (some (decide (a0 ≤ t336)))) else (some false))) = some r := h
 clear h
 replace H := Option.bind_eq_some_iff.mp H
 obtain ⟨t335, A20, H⟩ := H
 replace H : (if a0 ≥ t335 then ((jK.f k).bind fun t336 => (some (decide (a0 ≤ t336)))) else (some false)) = some r := H
 have A2 := Aside0.mk A20
 clear A20
 by_cases c3 : a0 ≥ t335
 · rw [if_pos c3] at H
   have c3b0 : decide (t335 ≤ a0) = true := decide_eq_true c3
   clear c3
   replace H := Option.bind_eq_some_iff.mp H
   obtain ⟨t336, A40, H⟩ := H
   replace H : (some (decide (a0 ≤ t336))) = some r := H
   have A4 := Aside0.mk A40
   clear A40
   obtain rfl := Option.some.inj H
   go_enter Tryz.func139, Tryz.ntmps139
   go_wp2_with (first | ((with_reducible refine bC (f := 108) rfl ?_); refine jH (some 4) rfl rfl Tryz.func108 (by kernel_rfl) rfl #[] rfl (by (try simp only [List.map_toArray, List.map_cons, List.map_nil]); first | done | rfl | (simp only [List.length_drop, List.length_take]; rfl)) ?_; (with_reducible refine (bZ.calls k  t335 _ A2.out).mono ?_); rintro e w' ⟨rfl, ⟨nd, rfl⟩⟩; refine ⟨_, rfl, ?_⟩) | (go_at_call 166; (with_reducible refine (jK.calls k  t336 _ A4.out).mono ?_); rintro e w' ⟨rfl, ⟨nd, rfl⟩⟩))
   go_ret
   exact ⟨by first | rfl | (simp; done) | (simp [*]; done), by repeat (first | exact Drawn0.refl _ | apply Drawn0.step)⟩
 · rw [if_neg c3] at H
   have c3b0 : decide (t335 ≤ a0) = false := decide_eq_false c3
   clear c3
   obtain rfl := Option.some.inj H
   go_enter Tryz.func139, Tryz.ntmps139
   go_wp2_with (first | ((with_reducible refine bC (f := 108) rfl ?_); refine jH (some 4) rfl rfl Tryz.func108 (by kernel_rfl) rfl #[] rfl (by (try simp only [List.map_toArray, List.map_cons, List.map_nil]); first | done | rfl | (simp only [List.length_drop, List.length_take]; rfl)) ?_; (with_reducible refine (bZ.calls k  t335 _ A2.out).mono ?_); rintro e w' ⟨rfl, ⟨nd, rfl⟩⟩; refine ⟨_, rfl, ?_⟩))
   go_ret
   exact ⟨by first | rfl | (simp; done) | (simp [*]; done), by repeat (first | exact Drawn0.refl _ | apply Drawn0.step)⟩
mutual
def kC.j1 : Nat → Int → Int → Option (Int × Int × Int × Int)
 | 0, _, _ => none
 | k + 1, x6, x7 => kC.l1 k x6 x7 1
def kC.l1 : Nat → Int → Int → Int → Option (Int × Int × Int × Int)
 | 0, _, _, _ => none
 | k + 1, x6, x7, x9 => (kA.f k x6 x9).bind fun t341 => (if x7 ≥ t341 then ((kA.f k x6 x9).bind fun t342 => (kC.l1 k x6 (wrap64 (x7 - t342)) (wrap64 (x9 + 1)))) else (some (x6, x9, wrap64 (x7 + 1), 0)))
def kC.l0 : Nat → Int → Int → Option (Int × Int × Int × Int)
 | 0, _, _ => none
 | k + 1, x6, x7 => (bX.f x6).bind fun t340 => (if t340 = true then (if x7 < 366 then (kC.j1 k x6 x7) else (kC.l0 k (wrap64 (x6 + 1)) (wrap64 (x7 - 366)))) else (if x7 < 365 then (kC.j1 k x6 x7) else (kC.l0 k (wrap64 (x6 + 1)) (wrap64 (x7 - 365)))))
end
def kC.f (k : Nat) (a0 : Int) : Option (Int × Int × Int × Int) := (bT.f k a0).bind fun t337 => (if t337 = true then ((jG.f a0 146097).bind fun t338 => ((kU.f a0 146097).bind fun t339 => (kC.l0 k (wrap64 (2000 + (wrap64 (t338 * 400)))) t339))) else (some (0, 0, 0, 10)))
theorem kC.mono_l : ∀ k, (∀ y0 y1, LeO (kC.j1 k y0 y1) (kC.j1 (k + 1) y0 y1)) ∧ (∀ y0 y1 y2, LeO (kC.l1 k y0 y1 y2) (kC.l1 (k + 1) y0 y1 y2)) ∧ (∀ y0 y1, LeO (kC.l0 k y0 y1) (kC.l0 (k + 1) y0 y1))
 | 0 => ⟨fun _ _ r h => by simp [kC.j1] at h, fun _ _ _ r h => by simp [kC.l1] at h, fun _ _ r h => by simp [kC.l0] at h⟩
 | k + 1 => by
  obtain ⟨ih0, ih1, ih2⟩ := kC.mono_l k
  refine ⟨?_, ?_, ?_⟩
  · intro y0 y1
    unfold kC.j1
    repeat' first
    | (with_reducible exact ih0 _ _)
    | (with_reducible exact ih1 _ _ _)
    | (with_reducible exact ih2 _ _)
    | (with_reducible exact bT.mono _ _)
    | (with_reducible exact kA.mono _ _ _)
    | (with_reducible exact LeO.refl _)
    | (with_reducible exact LeO.none _)
    | (with_reducible refine LeO.ite ?_ ?_)
    | (with_reducible refine LeO.bind ?_ (fun _ => ?_))
    | exact ih0 _ _
    | exact ih1 _ _ _
    | exact ih2 _ _
    | exact bT.mono _ _
    | exact kA.mono _ _ _
    | exact LeO.none _
    | refine LeO.ite ?_ ?_
    | refine LeO.bind ?_ (fun _ => ?_)
  · intro y0 y1 y2
    unfold kC.l1
    repeat' first
    | (with_reducible exact ih0 _ _)
    | (with_reducible exact ih1 _ _ _)
    | (with_reducible exact ih2 _ _)
    | (with_reducible exact bT.mono _ _)
    | (with_reducible exact kA.mono _ _ _)
    | (with_reducible exact LeO.refl _)
    | (with_reducible exact LeO.none _)
    | (with_reducible refine LeO.ite ?_ ?_)
    | (with_reducible refine LeO.bind ?_ (fun _ => ?_))
    | exact ih0 _ _
    | exact ih1 _ _ _
    | exact ih2 _ _
    | exact bT.mono _ _
    | exact kA.mono _ _ _
    | exact LeO.none _
    | refine LeO.ite ?_ ?_
    | refine LeO.bind ?_ (fun _ => ?_)
  · intro y0 y1
    unfold kC.l0
    repeat' first
    | (with_reducible exact ih0 _ _)
    | (with_reducible exact ih1 _ _ _)
    | (with_reducible exact ih2 _ _)
    | (with_reducible exact bT.mono _ _)
    | (with_reducible exact kA.mono _ _ _)
    | (with_reducible exact LeO.refl _)
    | (with_reducible exact LeO.none _)
    | (with_reducible refine LeO.ite ?_ ?_)
    | (with_reducible refine LeO.bind ?_ (fun _ => ?_))
    | exact ih0 _ _
    | exact ih1 _ _ _
    | exact ih2 _ _
    | exact bT.mono _ _
    | exact kA.mono _ _ _
    | exact LeO.none _
    | refine LeO.ite ?_ ?_
    | refine LeO.bind ?_ (fun _ => ?_)
theorem kC.mono : ∀ a0 k, LeO (kC.f k a0) (kC.f (k + 1) a0) := by
 intro a0 k
 obtain ⟨ih0, ih1, ih2⟩ := kC.mono_l k
 unfold kC.f
 repeat' first
  | (with_reducible exact ih0 _ _)
  | (with_reducible exact ih1 _ _ _)
  | (with_reducible exact ih2 _ _)
  | (with_reducible exact bT.mono _ _)
  | (with_reducible exact kA.mono _ _ _)
  | (with_reducible exact LeO.refl _)
  | (with_reducible exact LeO.none _)
  | (with_reducible refine LeO.ite ?_ ?_)
  | (with_reducible refine LeO.bind ?_ (fun _ => ?_))
  | exact ih0 _ _
  | exact ih1 _ _ _
  | exact ih2 _ _
  | exact bT.mono _ _
  | exact kA.mono _ _ _
  | exact LeO.none _
  | refine LeO.ite ?_ ?_
  | refine LeO.bind ?_ (fun _ => ?_)
set_option maxHeartbeats 8000000 in
set_option maxRecDepth 100000 in
theorem kC.calls (k : Nat) (a0 : Int) (r1 : Int) (r2 : Int) (r3 : Int) (r4 : Int) (w : World) (h : kC.f k a0 = some (r1, r2, r3, r4)) :
 Calls Tryz.prog 107 #[.int .i64 a0] w fun e w' => e = .returned (.tuple #[.int .i64 r1, .int .i64 r2, .int .i64 r3, .int .i64 r4]) ∧ Drawn0 w w' := by
 have H : ((bT.f k a0).bind fun t337 => (if t337 = true then ((jG.f a0 146097).bind fun t338 => ((kU.f a0 146097).bind fun t339 => (kC.l0 k (wrap64 (2000 + (wrap64 (t338 * 400)))) t339))) else (some (0, 0, 0, 10)))) = some (r1, r2, r3, r4) := h
 clear h
 replace H := Option.bind_eq_some_iff.mp H
 obtain ⟨t337, A20, H⟩ := H
 replace H : (if t337 = true then ((jG.f a0 146097).bind fun t338 => ((kU.f a0 146097).bind fun t339 => (kC.l0 k (wrap64 (2000 + (wrap64 (t338 * 400)))) t339))) else (some (0, 0, 0, 10))) = some (r1, r2, r3, r4) := H
 have A2 := Aside0.mk A20
 clear A20
 by_cases c3 : t337 = true
 · subst c3
   have H1 : ((jG.f a0 146097).bind fun t338 => ((kU.f a0 146097).bind fun t339 => (kC.l0 k (wrap64 (2000 + (wrap64 (t338 * 400)))) t339))) = some (r1, r2, r3, r4) := by rw [if_pos rfl] at H; exact H
   clear H
   have H := H1
   clear H1
   replace H := Option.bind_eq_some_iff.mp H
   obtain ⟨t338, A40, H⟩ := H
   replace H : ((kU.f a0 146097).bind fun t339 => (kC.l0 k (wrap64 (2000 + (wrap64 (t338 * 400)))) t339)) = some (r1, r2, r3, r4) := H
   have A4 := Aside0.mk A40
   clear A40
   replace H := Option.bind_eq_some_iff.mp H
   obtain ⟨t339, A50, H⟩ := H
   replace H : (kC.l0 k (wrap64 (2000 + (wrap64 (t338 * 400)))) t339) = some (r1, r2, r3, r4) := H
   have A5 := Aside0.mk A50
   clear A50
   have HC6 := Aside0.mk H
   clear H
   go_enter Tryz.func107, Tryz.ntmps107
   go_upto_block 0 with (first | ((with_reducible refine bC (f := 139) rfl ?_); refine jH (some 11) rfl rfl Tryz.func139 (by kernel_rfl) rfl #[.int .i64 a0] rfl (by (try simp only [List.map_toArray, List.map_cons, List.map_nil]); first | done | rfl | (simp only [List.length_drop, List.length_take]; rfl)) ?_; (with_reducible refine (bT.calls k a0 true _ A2.out).mono ?_); rintro e w' ⟨rfl, ⟨nd, rfl⟩⟩; refine ⟨_, rfl, ?_⟩) | ((with_reducible refine bC (f := 140) rfl ?_); refine jH (some 14) rfl rfl Tryz.func140 (by kernel_rfl) rfl #[.int .i64 a0, .int .i64 146097] rfl (by (try simp only [List.map_toArray, List.map_cons, List.map_nil]); first | done | rfl | (simp only [List.length_drop, List.length_take]; rfl)) ?_; (with_reducible refine (jG.calls a0 146097 t338 _ A4.out).mono ?_); rintro e w' ⟨rfl, ⟨nd, rfl⟩⟩; refine ⟨_, rfl, ?_⟩) | ((with_reducible refine bC (f := 141) rfl ?_); refine jH (some 18) rfl rfl Tryz.func141 (by kernel_rfl) rfl #[.int .i64 a0, .int .i64 146097] rfl (by (try simp only [List.map_toArray, List.map_cons, List.map_nil]); first | done | rfl | (simp only [List.length_drop, List.length_take]; rfl)) ?_; (with_reducible refine (kU.calls a0 146097 t339 _ A5.out).mono ?_); rintro e w' ⟨rfl, ⟨nd, rfl⟩⟩; refine ⟨_, rfl, ?_⟩))
   (try simp only [Act.put, List.setIfInBounds_toArray, List.set_cons_zero, List.set_cons_succ])
   go_cut [6, 7] (fun v6 v7 wc => ∃ (kq : Nat) (x6_5 : Int) (x7_5 : Int), v6 = .int .i64 x6_5 ∧ v7 = .int .i64 x7_5 ∧ Aside0 (kC.j1 kq x6_5 x7_5 = some (r1, r2, r3, r4)) ∧ Aside0 (kq ≤ k) ∧ Drawn0 w wc)
   case first =>
    have H := HC6.out
    clear HC6
    have H' := Aside0.mk H
    clear H
    go_wp2
    go_loopg [6, 7] k (fun kq v6 v7 w' => ∃ (x6_1 : Int) (x7_1 : Int), v6 = .int .i64 x6_1 ∧ v7 = .int .i64 x7_1 ∧ Aside0 (kC.l0 kq x6_1 x7_1 = some (r1, r2, r3, r4)) ∧ Aside0 (kq ≤ k) ∧ Drawn0 w w')
    case atStart => exact ⟨(wrap64 (2000 + (wrap64 (t338 * 400)))), (t339), (by first | rfl | (simp; done) | (simp [*]; done)), (by first | rfl | (simp; done) | (simp [*]; done)), H', ⟨Nat.le_refl _⟩, by repeat (first | exact Drawn0.refl _ | apply Drawn0.step)⟩
    case round =>
     clear H'
     try clear c1
     try clear p2
     try clear c3
     try clear p6
     obtain ⟨x6_1, x7_1, rfl, rfl, HA, HK1, ⟨m1, rfl⟩⟩ := hrel
     cases gk with
     | zero => exact absurd HA.out (by simp [kC.l0])
     | succ k1 =>
      have H := HA.out
      clear HA
      simp only [kC.l0] at H
      replace H := Option.bind_eq_some_iff.mp H
      obtain ⟨t340, A70, H⟩ := H
      replace H : (if t340 = true then (if x7_1 < 366 then (kC.j1 k1 x6_1 x7_1) else (kC.l0 k1 (wrap64 (x6_1 + 1)) (wrap64 (x7_1 - 366)))) else (if x7_1 < 365 then (kC.j1 k1 x6_1 x7_1) else (kC.l0 k1 (wrap64 (x6_1 + 1)) (wrap64 (x7_1 - 365))))) = some (r1, r2, r3, r4) := H
      have A7 := Aside0.mk A70
      clear A70
      by_cases c8 : t340 = true
      · subst c8
        have H1 : (if x7_1 < 366 then (kC.j1 k1 x6_1 x7_1) else (kC.l0 k1 (wrap64 (x6_1 + 1)) (wrap64 (x7_1 - 366)))) = some (r1, r2, r3, r4) := by rw [if_pos rfl] at H; exact H
        clear H
        have H := H1
        clear H1
        by_cases c9 : x7_1 < 366
        · rw [if_pos c9] at H
          have c9b0 : decide (x7_1 < 366) = true := decide_eq_true c9
          clear c9
          (first | rw [c9b0] | (simp only [i64_w, i32_w]; rw [c9b0]) | skip)
          have H' := Aside0.mk H
          clear H
          go_wp2_with (first | ((with_reducible refine bC (f := 142) rfl ?_); refine jH (some 20) rfl rfl Tryz.func142 (by kernel_rfl) rfl #[.int .i64 x6_1] rfl (by (try simp only [List.map_toArray, List.map_cons, List.map_nil]); first | done | rfl | (simp only [List.length_drop, List.length_take]; rfl)) ?_; (with_reducible refine (bX.calls x6_1 true _ A7.out).mono ?_); rintro e w' ⟨rfl, ⟨nd, rfl⟩⟩; refine ⟨_, rfl, ?_⟩))
          go_meet
          case rel => exact ⟨_, (x6_1), (x7_1), (by first | rfl | (simp; done) | (simp [*]; done)), (by first | rfl | (simp; done) | (simp [*]; done)), H', ⟨by have := HK1.out; first | omega | exact Nat.le_refl _⟩, by repeat (first | exact Drawn0.refl _ | apply Drawn0.step)⟩
        · rw [if_neg c9] at H
          have c9b0 : decide (x7_1 < 366) = false := decide_eq_false c9
          clear c9
          (first | rw [c9b0] | (simp only [i64_w, i32_w]; rw [c9b0]) | skip)
          have H' := Aside0.mk H
          clear H
          go_wp2_with (first | ((with_reducible refine bC (f := 142) rfl ?_); refine jH (some 20) rfl rfl Tryz.func142 (by kernel_rfl) rfl #[.int .i64 x6_1] rfl (by (try simp only [List.map_toArray, List.map_cons, List.map_nil]); first | done | rfl | (simp only [List.length_drop, List.length_take]; rfl)) ?_; (with_reducible refine (bX.calls x6_1 true _ A7.out).mono ?_); rintro e w' ⟨rfl, ⟨nd, rfl⟩⟩; refine ⟨_, rfl, ?_⟩))
          go_roundg k1
          case measure => have := HK1.out; omega
          case rel => exact ⟨(wrap64 (x6_1 + 1)), (wrap64 (x7_1 - 366)), (by first | rfl | (simp; done) | (simp [*]; done)), (by first | rfl | (simp; done) | (simp [*]; done)), H', ⟨by have := HK1.out; omega⟩, by repeat (first | exact Drawn0.refl _ | apply Drawn0.step)⟩
      · replace c8 := Bool.eq_false_iff.mpr c8
        subst c8
        have H1 : (if x7_1 < 365 then (kC.j1 k1 x6_1 x7_1) else (kC.l0 k1 (wrap64 (x6_1 + 1)) (wrap64 (x7_1 - 365)))) = some (r1, r2, r3, r4) := by rw [if_neg (show ¬ (false = true) by decide)] at H; exact H
        clear H
        have H := H1
        clear H1
        by_cases c10 : x7_1 < 365
        · rw [if_pos c10] at H
          have c10b0 : decide (x7_1 < 365) = true := decide_eq_true c10
          clear c10
          have H' := Aside0.mk H
          clear H
          go_wp2_with (first | ((with_reducible refine bC (f := 142) rfl ?_); refine jH (some 20) rfl rfl Tryz.func142 (by kernel_rfl) rfl #[.int .i64 x6_1] rfl (by (try simp only [List.map_toArray, List.map_cons, List.map_nil]); first | done | rfl | (simp only [List.length_drop, List.length_take]; rfl)) ?_; (with_reducible refine (bX.calls x6_1 false _ A7.out).mono ?_); rintro e w' ⟨rfl, ⟨nd, rfl⟩⟩; refine ⟨_, rfl, ?_⟩))
          go_meet
          case rel => exact ⟨_, (x6_1), (x7_1), (by first | rfl | (simp; done) | (simp [*]; done)), (by first | rfl | (simp; done) | (simp [*]; done)), H', ⟨by have := HK1.out; first | omega | exact Nat.le_refl _⟩, by repeat (first | exact Drawn0.refl _ | apply Drawn0.step)⟩
        · rw [if_neg c10] at H
          have c10b0 : decide (x7_1 < 365) = false := decide_eq_false c10
          clear c10
          have H' := Aside0.mk H
          clear H
          go_wp2_with (first | ((with_reducible refine bC (f := 142) rfl ?_); refine jH (some 20) rfl rfl Tryz.func142 (by kernel_rfl) rfl #[.int .i64 x6_1] rfl (by (try simp only [List.map_toArray, List.map_cons, List.map_nil]); first | done | rfl | (simp only [List.length_drop, List.length_take]; rfl)) ?_; (with_reducible refine (bX.calls x6_1 false _ A7.out).mono ?_); rintro e w' ⟨rfl, ⟨nd, rfl⟩⟩; refine ⟨_, rfl, ?_⟩))
          go_roundg k1
          case measure => have := HK1.out; omega
          case rel => exact ⟨(wrap64 (x6_1 + 1)), (wrap64 (x7_1 - 365)), (by first | rfl | (simp; done) | (simp [*]; done)), (by first | rfl | (simp; done) | (simp [*]; done)), H', ⟨by have := HK1.out; omega⟩, by repeat (first | exact Drawn0.refl _ | apply Drawn0.step)⟩
   case rest =>
    clear HC6
    try clear c1
    try clear p2
    try clear c3
    try clear p6
    try clear c8
    try clear c9
    try clear c9b0
    try clear c10
    try clear c10b0
    try clear p2
    try clear p6
    obtain ⟨kq, x6_5, x7_5, rfl, rfl, HA, HJ5, ⟨mc5, rfl⟩⟩ := hcut
    cases kq with
    | zero => exact absurd HA.out (by simp [kC.j1])
    | succ kj5 =>
     have H := HA.out
     clear HA
     simp only [kC.j1] at H
     have H' := Aside0.mk H
     clear H
     go_wp2
     go_loopg [7, 9] kj5 (fun kq v7 v9 w' => ∃ (x7_2 : Int) (x9_2 : Int), v7 = .int .i64 x7_2 ∧ v9 = .int .i64 x9_2 ∧ Aside0 (kC.l1 kq x6_5 x7_2 x9_2 = some (r1, r2, r3, r4)) ∧ Aside0 (kq ≤ kj5) ∧ Drawn0 w w')
     case atStart => exact ⟨(x7_5), (1), (by first | rfl | (simp; done) | (simp [*]; done)), (by first | rfl | (simp; done) | (simp [*]; done)), H', ⟨Nat.le_refl _⟩, by repeat (first | exact Drawn0.refl _ | apply Drawn0.step)⟩
     case round =>
      clear H'
      try clear c1
      try clear p2
      try clear c3
      try clear c5
      try clear p6
      try clear c8
      try clear c9
      try clear c9b0
      try clear c10
      try clear c10b0
      try clear p2
      try clear p6
      obtain ⟨x7_2, x9_2, rfl, rfl, HA, HK2, ⟨m2, rfl⟩⟩ := hrel
      cases gk with
      | zero => exact absurd HA.out (by simp [kC.l1])
      | succ k2 =>
       have H := HA.out
       clear HA
       simp only [kC.l1] at H
       replace H := Option.bind_eq_some_iff.mp H
       obtain ⟨t341, A110, H⟩ := H
       replace H : (if x7_2 ≥ t341 then ((kA.f k2 x6_5 x9_2).bind fun t342 => (kC.l1 k2 x6_5 (wrap64 (x7_2 - t342)) (wrap64 (x9_2 + 1)))) else (some (x6_5, x9_2, wrap64 (x7_2 + 1), 0))) = some (r1, r2, r3, r4) := H
       have A11 := Aside0.mk A110
       clear A110
       by_cases c12 : x7_2 ≥ t341
       · rw [if_pos c12] at H
         have c12b0 : decide (t341 ≤ x7_2) = true := decide_eq_true c12
         clear c12
         replace H := Option.bind_eq_some_iff.mp H
         obtain ⟨t342, A130, H⟩ := H
         replace H : (kC.l1 k2 x6_5 (wrap64 (x7_2 - t342)) (wrap64 (x9_2 + 1))) = some (r1, r2, r3, r4) := H
         have A13 := Aside0.mk A130
         clear A130
         have H' := Aside0.mk H
         clear H
         go_wp2_with (first | ((with_reducible refine bC (f := 143) rfl ?_); refine jH (some 32) rfl rfl Tryz.func143 (by kernel_rfl) rfl #[.int .i64 x6_5, .int .i64 x9_2] rfl (by (try simp only [List.map_toArray, List.map_cons, List.map_nil]); first | done | rfl | (simp only [List.length_drop, List.length_take]; rfl)) ?_; (with_reducible refine (kA.calls k2 x6_5 x9_2 t341 _ A11.out).mono ?_); rintro e w' ⟨rfl, ⟨nd, rfl⟩⟩; refine ⟨_, rfl, ?_⟩) | ((with_reducible refine bC (f := 143) rfl ?_); refine jH (some 37) rfl rfl Tryz.func143 (by kernel_rfl) rfl #[.int .i64 x6_5, .int .i64 x9_2] rfl (by (try simp only [List.map_toArray, List.map_cons, List.map_nil]); first | done | rfl | (simp only [List.length_drop, List.length_take]; rfl)) ?_; (with_reducible refine (kA.calls k2 x6_5 x9_2 t342 _ A13.out).mono ?_); rintro e w' ⟨rfl, ⟨nd, rfl⟩⟩; refine ⟨_, rfl, ?_⟩))
         go_roundg k2
         case measure => have := HJ5.out; have := HK2.out; omega
         case rel => exact ⟨(wrap64 (x7_2 - t342)), (wrap64 (x9_2 + 1)), (by first | rfl | (simp; done) | (simp [*]; done)), (by first | rfl | (simp; done) | (simp [*]; done)), H', ⟨by have := HJ5.out; have := HK2.out; omega⟩, by repeat (first | exact Drawn0.refl _ | apply Drawn0.step)⟩
       · rw [if_neg c12] at H
         have c12b0 : decide (t341 ≤ x7_2) = false := decide_eq_false c12
         clear c12
         simp only [Option.some.injEq, Prod.mk.injEq] at H
         obtain ⟨rfl, rfl, rfl, rfl⟩ := H
         go_wp2_with (first | ((with_reducible refine bC (f := 143) rfl ?_); refine jH (some 32) rfl rfl Tryz.func143 (by kernel_rfl) rfl #[.int .i64 x6_5, .int .i64 x9_2] rfl (by (try simp only [List.map_toArray, List.map_cons, List.map_nil]); first | done | rfl | (simp only [List.length_drop, List.length_take]; rfl)) ?_; (with_reducible refine (kA.calls k2 x6_5 x9_2 t341 _ A11.out).mono ?_); rintro e w' ⟨rfl, ⟨nd, rfl⟩⟩; refine ⟨_, rfl, ?_⟩))
         refine bodyPost_ret (results_list (rs := [.tmp 2, .tmp 3, .tmp 4, .tmp 5]) rfl (by simp) (.tmp (.tmp (.tmp (.tmp .nil))))) rfl ?_
         exact ⟨by first | rfl | (simp; done) | (simp [*]; done), by repeat (first | exact Drawn0.refl _ | apply Drawn0.step)⟩
 · replace c3 := Bool.eq_false_iff.mpr c3
   subst c3
   have H1 : (some (0, 0, 0, 10)) = some (r1, r2, r3, r4) := by rw [if_neg (show ¬ (false = true) by decide)] at H; exact H
   clear H
   have H := H1
   clear H1
   simp only [Option.some.injEq, Prod.mk.injEq] at H
   obtain ⟨rfl, rfl, rfl, rfl⟩ := H
   go_enter Tryz.func107, Tryz.ntmps107
   go_wp2_with (first | ((with_reducible refine bC (f := 139) rfl ?_); refine jH (some 11) rfl rfl Tryz.func139 (by kernel_rfl) rfl #[.int .i64 a0] rfl (by (try simp only [List.map_toArray, List.map_cons, List.map_nil]); first | done | rfl | (simp only [List.length_drop, List.length_take]; rfl)) ?_; (with_reducible refine (bT.calls k a0 false _ A2.out).mono ?_); rintro e w' ⟨rfl, ⟨nd, rfl⟩⟩; refine ⟨_, rfl, ?_⟩))
   refine bodyPost_ret (results_list (rs := [.tmp 2, .tmp 3, .tmp 4, .tmp 5]) rfl (by simp) (.tmp (.tmp (.tmp (.tmp .nil))))) rfl ?_
   exact ⟨by first | rfl | (simp; done) | (simp [*]; done), by repeat (first | exact Drawn0.refl _ | apply Drawn0.step)⟩
def bY.f (k : Nat) (a0 : Int) (a1 : Int) (a2 : Int) : Option (Bool) := if a0 ≥ (-4718) then (if a0 ≤ 294282 then (if a1 ≥ 1 then (if a1 ≤ 12 then (if a2 ≥ 1 then ((kA.f k a0 a1).bind fun t356 => (some (decide (a2 ≤ t356)))) else (some false)) else (some false)) else (some false)) else (some false)) else (some false)
theorem bY.mono : ∀ a0 a1 a2 k, LeO (bY.f k a0 a1 a2) (bY.f (k + 1) a0 a1 a2) := by
 intro a0 a1 a2 k
 unfold bY.f
 repeat' first
  | (with_reducible exact kA.mono _ _ _)
  | (with_reducible exact LeO.refl _)
  | (with_reducible exact LeO.none _)
  | (with_reducible refine LeO.ite ?_ ?_)
  | (with_reducible refine LeO.bind ?_ (fun _ => ?_))
  | exact kA.mono _ _ _
  | exact LeO.none _
  | refine LeO.ite ?_ ?_
  | refine LeO.bind ?_ (fun _ => ?_)
set_option maxHeartbeats 8000000 in
set_option maxRecDepth 100000 in
theorem bY.calls (k : Nat) (a0 : Int) (a1 : Int) (a2 : Int) (r : Bool) (w : World) (h : bY.f k a0 a1 a2 = some r) :
 Calls Tryz.prog 155 #[.int .i64 a0, .int .i64 a1, .int .i64 a2] w fun e w' => e = .returned (.bool r) ∧ Drawn0 w w' := by
 have H : (if a0 ≥ (-4718) then (if a0 ≤ 294282 then (if a1 ≥ 1 then (if a1 ≤ 12 then (if a2 ≥ 1 then ((kA.f k a0 a1).bind fun t356 => (some (decide (a2 ≤ t356)))) else (some false)) else (some false)) else (some false)) else (some false)) else (some false)) = some r := h
 clear h
 by_cases c4 : a0 ≥ (-4718)
 · rw [if_pos c4] at H
   have c4b0 : decide ((-4718) ≤ a0) = true := decide_eq_true c4
   clear c4
   by_cases c5 : a0 ≤ 294282
   · rw [if_pos c5] at H
     have c5b0 : decide (a0 ≤ 294282) = true := decide_eq_true c5
     clear c5
     by_cases c6 : a1 ≥ 1
     · rw [if_pos c6] at H
       have c6b0 : decide (1 ≤ a1) = true := decide_eq_true c6
       clear c6
       by_cases c7 : a1 ≤ 12
       · rw [if_pos c7] at H
         have c7b0 : decide (a1 ≤ 12) = true := decide_eq_true c7
         clear c7
         by_cases c8 : a2 ≥ 1
         · rw [if_pos c8] at H
           have c8b0 : decide (1 ≤ a2) = true := decide_eq_true c8
           clear c8
           replace H := Option.bind_eq_some_iff.mp H
           obtain ⟨t356, A90, H⟩ := H
           replace H : (some (decide (a2 ≤ t356))) = some r := H
           have A9 := Aside0.mk A90
           clear A90
           obtain rfl := Option.some.inj H
           go_enter Tryz.func155, Tryz.ntmps155
           go_wp2_with (first | (go_at_call 143; (with_reducible refine (kA.calls k a0 a1 t356 _ A9.out).mono ?_); rintro e w' ⟨rfl, ⟨nd, rfl⟩⟩))
           go_ret
           exact ⟨by first | rfl | (simp; done) | (simp [*]; done), by repeat (first | exact Drawn0.refl _ | apply Drawn0.step)⟩
         · rw [if_neg c8] at H
           have c8b0 : decide (1 ≤ a2) = false := decide_eq_false c8
           clear c8
           obtain rfl := Option.some.inj H
           go_enter Tryz.func155, Tryz.ntmps155
           go_wp2
           go_ret
           exact ⟨by first | rfl | (simp; done) | (simp [*]; done), by repeat (first | exact Drawn0.refl _ | apply Drawn0.step)⟩
       · rw [if_neg c7] at H
         have c7b0 : decide (a1 ≤ 12) = false := decide_eq_false c7
         clear c7
         obtain rfl := Option.some.inj H
         go_enter Tryz.func155, Tryz.ntmps155
         go_wp2
         go_ret
         exact ⟨by first | rfl | (simp; done) | (simp [*]; done), by repeat (first | exact Drawn0.refl _ | apply Drawn0.step)⟩
     · rw [if_neg c6] at H
       have c6b0 : decide (1 ≤ a1) = false := decide_eq_false c6
       clear c6
       obtain rfl := Option.some.inj H
       go_enter Tryz.func155, Tryz.ntmps155
       go_wp2
       go_ret
       exact ⟨by first | rfl | (simp; done) | (simp [*]; done), by repeat (first | exact Drawn0.refl _ | apply Drawn0.step)⟩
   · rw [if_neg c5] at H
     have c5b0 : decide (a0 ≤ 294282) = false := decide_eq_false c5
     clear c5
     obtain rfl := Option.some.inj H
     go_enter Tryz.func155, Tryz.ntmps155
     go_wp2
     go_ret
     exact ⟨by first | rfl | (simp; done) | (simp [*]; done), by repeat (first | exact Drawn0.refl _ | apply Drawn0.step)⟩
 · rw [if_neg c4] at H
   have c4b0 : decide ((-4718) ≤ a0) = false := decide_eq_false c4
   clear c4
   obtain rfl := Option.some.inj H
   go_enter Tryz.func155, Tryz.ntmps155
   go_wp2
   go_ret
   exact ⟨by first | rfl | (simp; done) | (simp [*]; done), by repeat (first | exact Drawn0.refl _ | apply Drawn0.step)⟩
def bF.f (k : Nat) (a0 : Int) (a1 : Int) (a2 : Int) : Option (Int × Int) := (bY.f k a0 a1 a2).bind fun t357 => (if t357 = true then ((kP.f k a0 a1 a2).bind fun t358 => (some (t358, 0))) else (some (0, 10)))
theorem bF.mono : ∀ a0 a1 a2 k, LeO (bF.f k a0 a1 a2) (bF.f (k + 1) a0 a1 a2) := by
 intro a0 a1 a2 k
 unfold bF.f
 repeat' first
  | (with_reducible exact bY.mono _ _ _ _)
  | (with_reducible exact kP.mono _ _ _ _)
  | (with_reducible exact LeO.refl _)
  | (with_reducible exact LeO.none _)
  | (with_reducible refine LeO.ite ?_ ?_)
  | (with_reducible refine LeO.bind ?_ (fun _ => ?_))
  | exact bY.mono _ _ _ _
  | exact kP.mono _ _ _ _
  | exact LeO.none _
  | refine LeO.ite ?_ ?_
  | refine LeO.bind ?_ (fun _ => ?_)
set_option maxHeartbeats 8000000 in
set_option maxRecDepth 100000 in
theorem bF.calls (k : Nat) (a0 : Int) (a1 : Int) (a2 : Int) (r1 : Int) (r2 : Int) (w : World) (h : bF.f k a0 a1 a2 = some (r1, r2)) :
 Calls Tryz.prog 121 #[.int .i64 a0, .int .i64 a1, .int .i64 a2] w fun e w' => e = .returned (.tuple #[.int .i64 r1, .int .i64 r2]) ∧ Drawn0 w w' := by
 have H : ((bY.f k a0 a1 a2).bind fun t357 => (if t357 = true then ((kP.f k a0 a1 a2).bind fun t358 => (some (t358, 0))) else (some (0, 10)))) = some (r1, r2) := h
 clear h
 replace H := Option.bind_eq_some_iff.mp H
 obtain ⟨t357, A40, H⟩ := H
 replace H : (if t357 = true then ((kP.f k a0 a1 a2).bind fun t358 => (some (t358, 0))) else (some (0, 10))) = some (r1, r2) := H
 have A4 := Aside0.mk A40
 clear A40
 by_cases c5 : t357 = true
 · subst c5
   have H1 : ((kP.f k a0 a1 a2).bind fun t358 => (some (t358, 0))) = some (r1, r2) := by rw [if_pos rfl] at H; exact H
   clear H
   have H := H1
   clear H1
   replace H := Option.bind_eq_some_iff.mp H
   obtain ⟨t358, A60, H⟩ := H
   replace H : (some (t358, 0)) = some (r1, r2) := H
   have A6 := Aside0.mk A60
   clear A60
   simp only [Option.some.injEq, Prod.mk.injEq] at H
   obtain ⟨rfl, rfl⟩ := H
   go_enter Tryz.func121, Tryz.ntmps121
   go_wp2_with (first | ((with_reducible refine bC (f := 155) rfl ?_); refine jH (some 11) rfl rfl Tryz.func155 (by kernel_rfl) rfl #[.int .i64 a0, .int .i64 a1, .int .i64 a2] rfl (by (try simp only [List.map_toArray, List.map_cons, List.map_nil]); first | done | rfl | (simp only [List.length_drop, List.length_take]; rfl)) ?_; (with_reducible refine (bY.calls k a0 a1 a2 true _ A4.out).mono ?_); rintro e w' ⟨rfl, ⟨nd, rfl⟩⟩; refine ⟨_, rfl, ?_⟩) | ((with_reducible refine bC (f := 144) rfl ?_); refine jH (some 16) rfl rfl Tryz.func144 (by kernel_rfl) rfl #[.int .i64 a0, .int .i64 a1, .int .i64 a2] rfl (by (try simp only [List.map_toArray, List.map_cons, List.map_nil]); first | done | rfl | (simp only [List.length_drop, List.length_take]; rfl)) ?_; (with_reducible refine (kP.calls k a0 a1 a2 t358 _ A6.out).mono ?_); rintro e w' ⟨rfl, ⟨nd, rfl⟩⟩; refine ⟨_, rfl, ?_⟩))
   go_ret2
   exact ⟨by first | rfl | (simp; done) | (simp [*]; done), by repeat (first | exact Drawn0.refl _ | apply Drawn0.step)⟩
 · replace c5 := Bool.eq_false_iff.mpr c5
   subst c5
   have H1 : (some (0, 10)) = some (r1, r2) := by rw [if_neg (show ¬ (false = true) by decide)] at H; exact H
   clear H
   have H := H1
   clear H1
   simp only [Option.some.injEq, Prod.mk.injEq] at H
   obtain ⟨rfl, rfl⟩ := H
   go_enter Tryz.func121, Tryz.ntmps121
   go_wp2_with (first | ((with_reducible refine bC (f := 155) rfl ?_); refine jH (some 11) rfl rfl Tryz.func155 (by kernel_rfl) rfl #[.int .i64 a0, .int .i64 a1, .int .i64 a2] rfl (by (try simp only [List.map_toArray, List.map_cons, List.map_nil]); first | done | rfl | (simp only [List.length_drop, List.length_take]; rfl)) ?_; (with_reducible refine (bY.calls k a0 a1 a2 false _ A4.out).mono ?_); rintro e w' ⟨rfl, ⟨nd, rfl⟩⟩; refine ⟨_, rfl, ?_⟩))
   go_ret2
   exact ⟨by first | rfl | (simp; done) | (simp [*]; done), by repeat (first | exact Drawn0.refl _ | apply Drawn0.step)⟩
def computusref02_Weekday.f (a0 : Int) : Option (Int) := (kU.f a0 7).bind fun t359 => ((kU.f (wrap64 (t359 + 6)) 7).bind fun t360 => (some t360))
set_option maxHeartbeats 8000000 in
set_option maxRecDepth 100000 in
theorem computusref02_Weekday.calls (a0 : Int) (r : Int) (w : World) (h : computusref02_Weekday.f a0 = some r) :
 Calls Tryz.prog 181 #[.int .i64 a0] w fun e w' => e = .returned (.int .i64 r) ∧ Drawn0 w w' := by
 have H : ((kU.f a0 7).bind fun t359 => ((kU.f (wrap64 (t359 + 6)) 7).bind fun t360 => (some t360))) = some r := h
 clear h
 replace H := Option.bind_eq_some_iff.mp H
 obtain ⟨t359, A20, H⟩ := H
 replace H : ((kU.f (wrap64 (t359 + 6)) 7).bind fun t360 => (some t360)) = some r := H
 have A2 := Aside0.mk A20
 clear A20
 replace H := Option.bind_eq_some_iff.mp H
 obtain ⟨t360, A30, H⟩ := H
 replace H : (some t360) = some r := H
 have A3 := Aside0.mk A30
 clear A30
 obtain rfl := Option.some.inj H
 go_enter Tryz.func181, Tryz.ntmps181
 go_wp2_with (first | ((with_reducible refine bC (f := 141) rfl ?_); refine jH (some 4) rfl rfl Tryz.func141 (by kernel_rfl) rfl #[.int .i64 a0, .int .i64 7] rfl (by (try simp only [List.map_toArray, List.map_cons, List.map_nil]); first | done | rfl | (simp only [List.length_drop, List.length_take]; rfl)) ?_; (with_reducible refine (kU.calls a0 7 t359 _ A2.out).mono ?_); rintro e w' ⟨rfl, ⟨nd, rfl⟩⟩; refine ⟨_, rfl, ?_⟩) | ((with_reducible refine bC (f := 141) rfl ?_); refine jH (some 6) rfl rfl Tryz.func141 (by kernel_rfl) rfl #[.int .i64 (wrap64 (t359 + 6)), .int .i64 7] rfl (by (try simp only [List.map_toArray, List.map_cons, List.map_nil]); first | done | rfl | (simp only [List.length_drop, List.length_take]; rfl)) ?_; (with_reducible refine (kU.calls (wrap64 (t359 + 6)) 7 t360 _ A3.out).mono ?_); rintro e w' ⟨rfl, ⟨nd, rfl⟩⟩; refine ⟨_, rfl, ?_⟩))
 go_ret
 exact ⟨by first | rfl | (simp; done) | (simp [*]; done), by repeat (first | exact Drawn0.refl _ | apply Drawn0.step)⟩
end Go.Proofs.YtimgphlfaninnaaGreat.P
namespace Go.Proofs.YtimgphlfaninnaaGreat.P
open Go.RowKit Go.Proofs.YtimgphlfaninnaaGreatW.PrintWords Go.Proofs.YtimgphlfaninnaaGreatW.PrintLast Go.Proofs.YtimgphlfaninnaaGreatW.PrintMore
set_option linter.unusedVariables false
set_option linter.unusedSimpArgs false
def wdVal (l : List Int) : Int := match l with
 | [a, b, c, d, e, f] => a + 4294967296 * (b + 4294967296 * (c + 4294967296 * (d + 4294967296 * (e + 4294967296 * f))))
 | _ => 0
def wdDig (n : Int) : List Int := [n % 4294967296, n / 4294967296 % 4294967296, n / 4294967296 / 4294967296 % 4294967296, n / 4294967296 / 4294967296 / 4294967296 % 4294967296, n / 4294967296 / 4294967296 / 4294967296 / 4294967296 % 4294967296, n / 4294967296 / 4294967296 / 4294967296 / 4294967296 / 4294967296 % 4294967296]
noncomputable def wdOk (l : List Int) : Bool := match l with
 | [a, b, c, d, e, f] => @decide (0 ≤ a ∧ a < 4294967296 ∧ 0 ≤ b ∧ b < 4294967296 ∧ 0 ≤ c ∧ c < 4294967296 ∧ 0 ≤ d ∧ d < 4294967296 ∧ 0 ≤ e ∧ e < 4294967296 ∧ 0 ≤ f ∧ f < 4294967296) (Classical.propDecidable _)
 | _ => false
open A in
def wdRead (c : Nat → Nat → AV) : Option (List Int) := match c 0 0, c 1 0, c 2 0, c 3 0, c 4 0, c 5 0 with
 | .int .u64 x0, .int .u64 x1, .int .u64 x2, .int .u64 x3, .int .u64 x4, .int .u64 x5 => some [x0, x1, x2, x3, x4, x5]
 | _, _, _, _, _, _ => none
open A in
def wdRow (l : List Int) : AV := .nu 155 1 6 (match l with
 | [a, b, c, d, e, f] => [.int .u64 a, .int .u64 b, .int .u64 c, .int .u64 d, .int .u64 e, .int .u64 f]
 | _ => [])
open A in
def wdArg (l : List Int) : AV := .csl 1 6 (fun i _ => .int .u64 (l.getD i 0))
def adW (c x y : Int) : Int := IntKind.wrap .u64 (IntKind.wrap .u64 (c + x) + y)
def adC (s : Int) : Int := Int.fdiv s (2 ^ min (Int.toNat 32) (IntKind.bits .u64))
def adM (s : Int) : Int := IntKind.wrap .u64 ((BitVec.toNat (BitVec.ofInt (IntKind.bits .u64) s &&& BitVec.ofInt (IntKind.bits .u64) 4294967295) : Nat) : Int)
def ad0 (x y : List Int) : Int := adW 0 (x.getD 0 0) (y.getD 0 0)
def ad1 (x y : List Int) : Int := adW (adC (ad0 x y)) (x.getD 1 0) (y.getD 1 0)
def ad2 (x y : List Int) : Int := adW (adC (ad1 x y)) (x.getD 2 0) (y.getD 2 0)
def ad3 (x y : List Int) : Int := adW (adC (ad2 x y)) (x.getD 3 0) (y.getD 3 0)
def ad4 (x y : List Int) : Int := adW (adC (ad3 x y)) (x.getD 4 0) (y.getD 4 0)
def ad5 (x y : List Int) : Int := adW (adC (ad4 x y)) (x.getD 5 0) (y.getD 5 0)
open A in
@[irreducible] def wdP (T : Tab) (g : Nat) (args : List AV) (K : AV → Prop) : Prop := afn PA Tryz.prog T noLoops 10 g args fun u h => nuK h u K
open A in
set_option maxRecDepth 100000 in
theorem wdAdd_vc (x0 x1 x2 x3 x4 x5 y0 y1 y2 y3 y4 y5 : Int) (K : AV → Prop) : wdP (tab []) 133 [wdArg [x0, x1, x2, x3, x4, x5], wdArg [y0, y1, y2, y3, y4, y5]] K =
 K (wdRow [adM (ad0 [x0, x1, x2, x3, x4, x5] [y0, y1, y2, y3, y4, y5]), adM (ad1 [x0, x1, x2, x3, x4, x5] [y0, y1, y2, y3, y4, y5]), adM (ad2 [x0, x1, x2, x3, x4, x5] [y0, y1, y2, y3, y4, y5]), adM (ad3 [x0, x1, x2, x3, x4, x5] [y0, y1, y2, y3, y4, y5]), adM (ad4 [x0, x1, x2, x3, x4, x5] [y0, y1, y2, y3, y4, y5]), adM (ad5 [x0, x1, x2, x3, x4, x5] [y0, y1, y2, y3, y4, y5])]) := by kernel_rfl
theorem wd_u64 (x : Int) (h : 0 ≤ x ∧ x < 18446744073709551616) : IntKind.wrap .u64 x = x := by
 have : IntKind.wrap .u64 x = x % 18446744073709551616 := by simp [IntKind.wrap, IntKind.bits, IntKind.signed]
 omega
theorem adW_eq {c x y : Int} (hc : 0 ≤ c ∧ c ≤ 1) (hx : 0 ≤ x ∧ x < 4294967296) (hy : 0 ≤ y ∧ y < 4294967296) : adW c x y = c + x + y := by
 unfold adW
 rw [wd_u64 (c + x) (by omega), wd_u64 _ (by omega)]
theorem adC_eq {s : Int} : adC s = s / 4294967296 := by
 unfold adC
 have : (2 : Int) ^ min (Int.toNat 32) (IntKind.bits .u64) = 4294967296 := by decide
 rw [this, Int.fdiv_eq_ediv_of_nonneg _ (by omega)]
theorem adM_eq {s : Int} (h : 0 ≤ s ∧ s < 18446744073709551616) : adM s = s % 4294967296 := by
 have e : adM s = Go.bits .and .u64 s 4294967295 := by rfl
 rw [e]
 exact bits_mask .u64 64 (by decide) (fun n h0 h1 => wd_u64 n (by omega)) 32 (by decide) s h.1 (by omega)
theorem wd_step (p q : Int) : (p + 4294967296 * q) % 4294967296 = p % 4294967296 ∧ (p + 4294967296 * q) / 4294967296 = p / 4294967296 + q := by omega
theorem wd_chain (s0 s1 s2 s3 s4 s5 t1 t2 t3 t4 t5 : Int) (h1 : s1 = s0 / 4294967296 + t1) (h2 : s2 = s1 / 4294967296 + t2) (h3 : s3 = s2 / 4294967296 + t3) (h4 : s4 = s3 / 4294967296 + t4) (h5 : s5 = s4 / 4294967296 + t5) :
 wdDig (s0 + 4294967296 * (t1 + 4294967296 * (t2 + 4294967296 * (t3 + 4294967296 * (t4 + 4294967296 * t5))))) = [s0 % 4294967296, s1 % 4294967296, s2 % 4294967296, s3 % 4294967296, s4 % 4294967296, s5 % 4294967296] := by
 have e1 : (s0 + 4294967296 * (t1 + 4294967296 * (t2 + 4294967296 * (t3 + 4294967296 * (t4 + 4294967296 * t5))))) / 4294967296 = s1 + 4294967296 * (t2 + 4294967296 * (t3 + 4294967296 * (t4 + 4294967296 * t5))) := by rw [(wd_step _ _).2]; omega
 have e2 : (s1 + 4294967296 * (t2 + 4294967296 * (t3 + 4294967296 * (t4 + 4294967296 * t5)))) / 4294967296 = s2 + 4294967296 * (t3 + 4294967296 * (t4 + 4294967296 * t5)) := by rw [(wd_step _ _).2]; omega
 have e3 : (s2 + 4294967296 * (t3 + 4294967296 * (t4 + 4294967296 * t5))) / 4294967296 = s3 + 4294967296 * (t4 + 4294967296 * t5) := by rw [(wd_step _ _).2]; omega
 have e4 : (s3 + 4294967296 * (t4 + 4294967296 * t5)) / 4294967296 = s4 + 4294967296 * t5 := by rw [(wd_step _ _).2]; omega
 have e5 : (s4 + 4294967296 * t5) / 4294967296 = s5 := by rw [(wd_step _ _).2]; omega
 unfold wdDig
 rw [e1, e2, e3, e4, e5, (wd_step _ _).1, (wd_step _ _).1, (wd_step _ _).1, (wd_step _ _).1, (wd_step _ _).1]
theorem wdOk_iff {a b c d e f : Int} : wdOk [a, b, c, d, e, f] = true ↔ (0 ≤ a ∧ a < 4294967296 ∧ 0 ≤ b ∧ b < 4294967296 ∧ 0 ≤ c ∧ c < 4294967296 ∧ 0 ≤ d ∧ d < 4294967296 ∧ 0 ≤ e ∧ e < 4294967296 ∧ 0 ≤ f ∧ f < 4294967296) :=
 ⟨fun h => @of_decide_eq_true _ (Classical.propDecidable _) h, fun h => @decide_eq_true _ (Classical.propDecidable _) h⟩
theorem wdOk_zero : wdOk [0, 0, 0, 0, 0, 0] = true := wdOk_iff.2 (by omega)
theorem wd_six {l : List Int} (h : wdOk l = true) : ∃ a b c d e f, l = [a, b, c, d, e, f] ∧ (0 ≤ a ∧ a < 4294967296) ∧ (0 ≤ b ∧ b < 4294967296) ∧ (0 ≤ c ∧ c < 4294967296) ∧ (0 ≤ d ∧ d < 4294967296) ∧ (0 ≤ e ∧ e < 4294967296) ∧ (0 ≤ f ∧ f < 4294967296) := by
 unfold wdOk at h
 split at h
 · have h := wdOk_iff.1 h
   exact ⟨_, _, _, _, _, _, rfl, by omega, by omega, by omega, by omega, by omega, by omega⟩
 · cases h
theorem wdAdd_dig {x y : List Int} (hx : wdOk x = true) (hy : wdOk y = true) : [adM (ad0 x y), adM (ad1 x y), adM (ad2 x y), adM (ad3 x y), adM (ad4 x y), adM (ad5 x y)] = wdDig (wdVal x + wdVal y) := by
 obtain ⟨x0, x1, x2, x3, x4, x5, rfl, a0, a1, a2, a3, a4, a5⟩ := wd_six hx
 obtain ⟨y0, y1, y2, y3, y4, y5, rfl, b0, b1, b2, b3, b4, b5⟩ := wd_six hy
 have s0 : ad0 [x0, x1, x2, x3, x4, x5] [y0, y1, y2, y3, y4, y5] = x0 + y0 := by
  show adW 0 x0 y0 = _
  rw [adW_eq (by omega) a0 b0]; omega
 have s1 : ad1 [x0, x1, x2, x3, x4, x5] [y0, y1, y2, y3, y4, y5] = (x0 + y0) / 4294967296 + (x1 + y1) := by
  show adW (adC (ad0 [x0, x1, x2, x3, x4, x5] [y0, y1, y2, y3, y4, y5])) x1 y1 = _
  rw [s0, adC_eq, adW_eq (by omega) a1 b1]; omega
 generalize hs1 : (x0 + y0) / 4294967296 + (x1 + y1) = z1 at s1
 have s2 : ad2 [x0, x1, x2, x3, x4, x5] [y0, y1, y2, y3, y4, y5] = z1 / 4294967296 + (x2 + y2) := by
  show adW (adC (ad1 [x0, x1, x2, x3, x4, x5] [y0, y1, y2, y3, y4, y5])) x2 y2 = _
  rw [s1, adC_eq, adW_eq (by omega) a2 b2]; omega
 generalize hs2 : z1 / 4294967296 + (x2 + y2) = z2 at s2
 have s3 : ad3 [x0, x1, x2, x3, x4, x5] [y0, y1, y2, y3, y4, y5] = z2 / 4294967296 + (x3 + y3) := by
  show adW (adC (ad2 [x0, x1, x2, x3, x4, x5] [y0, y1, y2, y3, y4, y5])) x3 y3 = _
  rw [s2, adC_eq, adW_eq (by omega) a3 b3]; omega
 generalize hs3 : z2 / 4294967296 + (x3 + y3) = z3 at s3
 have s4 : ad4 [x0, x1, x2, x3, x4, x5] [y0, y1, y2, y3, y4, y5] = z3 / 4294967296 + (x4 + y4) := by
  show adW (adC (ad3 [x0, x1, x2, x3, x4, x5] [y0, y1, y2, y3, y4, y5])) x4 y4 = _
  rw [s3, adC_eq, adW_eq (by omega) a4 b4]; omega
 generalize hs4 : z3 / 4294967296 + (x4 + y4) = z4 at s4
 have s5 : ad5 [x0, x1, x2, x3, x4, x5] [y0, y1, y2, y3, y4, y5] = z4 / 4294967296 + (x5 + y5) := by
  show adW (adC (ad4 [x0, x1, x2, x3, x4, x5] [y0, y1, y2, y3, y4, y5])) x5 y5 = _
  rw [s4, adC_eq, adW_eq (by omega) a5 b5]; omega
 generalize hs5 : z4 / 4294967296 + (x5 + y5) = z5 at s5
 rw [s0, s1, s2, s3, s4, s5, adM_eq (by omega), adM_eq (by omega), adM_eq (by omega), adM_eq (by omega), adM_eq (by omega), adM_eq (by omega)]
 rw [← wd_chain (x0 + y0) z1 z2 z3 z4 z5 (x1 + y1) (x2 + y2) (x3 + y3) (x4 + y4) (x5 + y5) hs1.symm hs2.symm hs3.symm hs4.symm hs5.symm]
 congr 1
 show _ = (x0 + 4294967296 * (x1 + 4294967296 * (x2 + 4294967296 * (x3 + 4294967296 * (x4 + 4294967296 * x5))))) + (y0 + 4294967296 * (y1 + 4294967296 * (y2 + 4294967296 * (y3 + 4294967296 * (y4 + 4294967296 * y5)))))
 omega
open A in
theorem wd_canon {w : World} {c : Nat → Nat → AV} {V : Value} {l : List Int} (h : RV noNames w (.csl 1 6 c) V) (hc : wdRead c = some l) : RV noNames w (wdArg l) V := by
 unfold wdRead at hc
 split at hc
 case h_2 => cases hc
 rename_i h0 h1 h2 h3 h4 h5
 simp at hc; subst hc
 cases h with
 | csl s len cap c U hb hl hcell hr =>
 refine .csl 1 6 cap _ U hb hl hcell fun i j hi hj => ?_
 obtain rfl : j = 0 := by omega
 match i, hi with
 | 0, _ => have := hr 0 0 (by omega) (by omega); rw [h0] at this; exact this
 | 1, _ => have := hr 1 0 (by omega) (by omega); rw [h1] at this; exact this
 | 2, _ => have := hr 2 0 (by omega) (by omega); rw [h2] at this; exact this
 | 3, _ => have := hr 3 0 (by omega) (by omega); rw [h3] at this; exact this
 | 4, _ => have := hr 4 0 (by omega) (by omega); rw [h4] at this; exact this
 | 5, _ => have := hr 5 0 (by omega) (by omega); rw [h5] at this; exact this
open A in
theorem wdAdd_hq {x y : List Int} (hx : wdOk x = true) (hy : wdOk y = true) : wdP (tab []) 133 [wdArg x, wdArg y] (fun u => u = wdRow (wdDig (wdVal x + wdVal y))) := by
 have hd := wdAdd_dig hx hy
 obtain ⟨x0, x1, x2, x3, x4, x5, rfl, _⟩ := wd_six hx
 obtain ⟨y0, y1, y2, y3, y4, y5, rfl, _⟩ := wd_six hy
 rw [wdAdd_vc, hd]
def lsW (c x y : Int) : Int := IntKind.wrap .u64 (IntKind.wrap .u64 (IntKind.wrap .u64 (x + 4294967296) - y) - c)
def lsC (n : Int) : Int := IntKind.wrap .u64 (1 - Int.fdiv n (2 ^ min (Int.toNat 32) (IntKind.bits .u64)))
def ls0 (x y : List Int) : Int := lsW 0 (x.getD 0 0) (y.getD 0 0)
def ls1 (x y : List Int) : Int := lsW (lsC (ls0 x y)) (x.getD 1 0) (y.getD 1 0)
def ls2 (x y : List Int) : Int := lsW (lsC (ls1 x y)) (x.getD 2 0) (y.getD 2 0)
def ls3 (x y : List Int) : Int := lsW (lsC (ls2 x y)) (x.getD 3 0) (y.getD 3 0)
def ls4 (x y : List Int) : Int := lsW (lsC (ls3 x y)) (x.getD 4 0) (y.getD 4 0)
def ls5 (x y : List Int) : Int := lsW (lsC (ls4 x y)) (x.getD 5 0) (y.getD 5 0)
open A in
set_option maxRecDepth 100000 in
theorem wdLess_vc (x0 x1 x2 x3 x4 x5 y0 y1 y2 y3 y4 y5 : Int) (K : AV → Prop) : wdP (tab []) 135 [wdArg [x0, x1, x2, x3, x4, x5], wdArg [y0, y1, y2, y3, y4, y5]] K =
 K (wdRow [adM (ls0 [x0, x1, x2, x3, x4, x5] [y0, y1, y2, y3, y4, y5]), adM (ls1 [x0, x1, x2, x3, x4, x5] [y0, y1, y2, y3, y4, y5]), adM (ls2 [x0, x1, x2, x3, x4, x5] [y0, y1, y2, y3, y4, y5]), adM (ls3 [x0, x1, x2, x3, x4, x5] [y0, y1, y2, y3, y4, y5]), adM (ls4 [x0, x1, x2, x3, x4, x5] [y0, y1, y2, y3, y4, y5]), adM (ls5 [x0, x1, x2, x3, x4, x5] [y0, y1, y2, y3, y4, y5])]) := by kernel_rfl
theorem lsW_eq {c x y : Int} (hc : 0 ≤ c ∧ c ≤ 1) (hx : 0 ≤ x ∧ x < 4294967296) (hy : 0 ≤ y ∧ y < 4294967296) : lsW c x y = x + 4294967296 - y - c := by
 unfold lsW
 rw [wd_u64 (x + 4294967296) (by omega), wd_u64 (x + 4294967296 - y) (by omega), wd_u64 _ (by omega)]
theorem lsC_eq {n : Int} (h : 0 ≤ n ∧ n < 8589934592) : lsC n = 1 - n / 4294967296 := by
 have e := adC_eq (s := n)
 unfold adC at e
 unfold lsC
 rw [e, wd_u64 _ (by omega)]
theorem wdLess_dig {x y : List Int} (hx : wdOk x = true) (hy : wdOk y = true) : [adM (ls0 x y), adM (ls1 x y), adM (ls2 x y), adM (ls3 x y), adM (ls4 x y), adM (ls5 x y)] = wdDig (wdVal x - wdVal y) := by
 obtain ⟨x0, x1, x2, x3, x4, x5, rfl, a0, a1, a2, a3, a4, a5⟩ := wd_six hx
 obtain ⟨y0, y1, y2, y3, y4, y5, rfl, b0, b1, b2, b3, b4, b5⟩ := wd_six hy
 have s0 : ls0 [x0, x1, x2, x3, x4, x5] [y0, y1, y2, y3, y4, y5] = x0 - y0 + 4294967296 := by
  show lsW 0 x0 y0 = _
  rw [lsW_eq (by omega) a0 b0]; omega
 generalize hs0 : x0 - y0 = z0 at s0
 have s1 : ls1 [x0, x1, x2, x3, x4, x5] [y0, y1, y2, y3, y4, y5] = z0 / 4294967296 + (x1 - y1) + 4294967296 := by
  show lsW (lsC (ls0 [x0, x1, x2, x3, x4, x5] [y0, y1, y2, y3, y4, y5])) x1 y1 = _
  rw [s0, lsC_eq (by omega), lsW_eq (by omega) a1 b1]; omega
 generalize hs1 : z0 / 4294967296 + (x1 - y1) = z1 at s1
 have s2 : ls2 [x0, x1, x2, x3, x4, x5] [y0, y1, y2, y3, y4, y5] = z1 / 4294967296 + (x2 - y2) + 4294967296 := by
  show lsW (lsC (ls1 [x0, x1, x2, x3, x4, x5] [y0, y1, y2, y3, y4, y5])) x2 y2 = _
  rw [s1, lsC_eq (by omega), lsW_eq (by omega) a2 b2]; omega
 generalize hs2 : z1 / 4294967296 + (x2 - y2) = z2 at s2
 have s3 : ls3 [x0, x1, x2, x3, x4, x5] [y0, y1, y2, y3, y4, y5] = z2 / 4294967296 + (x3 - y3) + 4294967296 := by
  show lsW (lsC (ls2 [x0, x1, x2, x3, x4, x5] [y0, y1, y2, y3, y4, y5])) x3 y3 = _
  rw [s2, lsC_eq (by omega), lsW_eq (by omega) a3 b3]; omega
 generalize hs3 : z2 / 4294967296 + (x3 - y3) = z3 at s3
 have s4 : ls4 [x0, x1, x2, x3, x4, x5] [y0, y1, y2, y3, y4, y5] = z3 / 4294967296 + (x4 - y4) + 4294967296 := by
  show lsW (lsC (ls3 [x0, x1, x2, x3, x4, x5] [y0, y1, y2, y3, y4, y5])) x4 y4 = _
  rw [s3, lsC_eq (by omega), lsW_eq (by omega) a4 b4]; omega
 generalize hs4 : z3 / 4294967296 + (x4 - y4) = z4 at s4
 have s5 : ls5 [x0, x1, x2, x3, x4, x5] [y0, y1, y2, y3, y4, y5] = z4 / 4294967296 + (x5 - y5) + 4294967296 := by
  show lsW (lsC (ls4 [x0, x1, x2, x3, x4, x5] [y0, y1, y2, y3, y4, y5])) x5 y5 = _
  rw [s4, lsC_eq (by omega), lsW_eq (by omega) a5 b5]; omega
 generalize hs5 : z4 / 4294967296 + (x5 - y5) = z5 at s5
 have m : ∀ z : Int, -4294967296 ≤ z → z < 4294967296 → adM (z + 4294967296) = z % 4294967296 := fun z h1 h2 => by
  rw [adM_eq (by omega)]; omega
 rw [s0, s1, s2, s3, s4, s5, m _ (by omega) (by omega), m _ (by omega) (by omega), m _ (by omega) (by omega), m _ (by omega) (by omega), m _ (by omega) (by omega), m _ (by omega) (by omega)]
 rw [← wd_chain z0 z1 z2 z3 z4 z5 (x1 - y1) (x2 - y2) (x3 - y3) (x4 - y4) (x5 - y5) hs1.symm hs2.symm hs3.symm hs4.symm hs5.symm]
 congr 1
 show _ = (x0 + 4294967296 * (x1 + 4294967296 * (x2 + 4294967296 * (x3 + 4294967296 * (x4 + 4294967296 * x5))))) - (y0 + 4294967296 * (y1 + 4294967296 * (y2 + 4294967296 * (y3 + 4294967296 * (y4 + 4294967296 * y5)))))
 omega
open A in
theorem wdLess_hq {x y : List Int} (hx : wdOk x = true) (hy : wdOk y = true) : wdP (tab []) 135 [wdArg x, wdArg y] (fun u => u = wdRow (wdDig (wdVal x - wdVal y))) := by
 have hd := wdLess_dig hx hy
 obtain ⟨x0, x1, x2, x3, x4, x5, rfl, _⟩ := wd_six hx
 obtain ⟨y0, y1, y2, y3, y4, y5, rfl, _⟩ := wd_six hy
 rw [wdLess_vc, hd]
def wdSgn (a b : Int) : Int := if a < b then -1 else if b < a then 1 else 0
open A in
def wdC3 (x y : Int) (K : AV → Prop) (R : Prop) : Prop := brc (decide (x < y)) (K (.int .i64 (-1))) (brc (decide (x > y)) (K (.int .i64 1)) R)
open A in
set_option maxRecDepth 100000 in
theorem wdCmp_vc (x0 x1 x2 x3 x4 x5 y0 y1 y2 y3 y4 y5 : Int) (K : AV → Prop) : wdP (tab []) 134 [wdArg [x0, x1, x2, x3, x4, x5], wdArg [y0, y1, y2, y3, y4, y5]] K =
 wdC3 x5 y5 K (wdC3 x4 y4 K (wdC3 x3 y3 K (wdC3 x2 y2 K (wdC3 x1 y1 K (wdC3 x0 y0 K (K (.int .i64 0))))))) := by kernel_rfl
open A in
theorem wdC3_ok {x y : Int} {r : Int} {R : Prop} (h1 : x < y → r = -1) (h2 : y < x → r = 1) (h3 : x = y → R) : wdC3 x y (fun u => u = .int .i64 r) R := by
 unfold wdC3
 refine kB (fun h => ?_) fun h => kB (fun g => ?_) fun g => ?_
 · rw [h1 (of_decide_eq_true h)]
 · rw [h2 (of_decide_eq_true g)]
 · have := of_decide_eq_false h
   have := of_decide_eq_false g
   exact h3 (by omega)
open A in
theorem wdCmp_hq {x y : List Int} (hx : wdOk x = true) (hy : wdOk y = true) : wdP (tab []) 134 [wdArg x, wdArg y] (fun u => u = .int .i64 (wdSgn (wdVal x) (wdVal y))) := by
 obtain ⟨x0, x1, x2, x3, x4, x5, rfl, a0, a1, a2, a3, a4, a5⟩ := wd_six hx
 obtain ⟨y0, y1, y2, y3, y4, y5, rfl, b0, b1, b2, b3, b4, b5⟩ := wd_six hy
 rw [wdCmp_vc]
 have ex : wdVal [x0, x1, x2, x3, x4, x5] = x0 + 4294967296 * (x1 + 4294967296 * (x2 + 4294967296 * (x3 + 4294967296 * (x4 + 4294967296 * x5)))) := rfl
 have ey : wdVal [y0, y1, y2, y3, y4, y5] = y0 + 4294967296 * (y1 + 4294967296 * (y2 + 4294967296 * (y3 + 4294967296 * (y4 + 4294967296 * y5)))) := rfl
 generalize wdVal [x0, x1, x2, x3, x4, x5] = a at *
 generalize wdVal [y0, y1, y2, y3, y4, y5] = b at *
 have lo : a < b → wdSgn a b = -1 := fun h => if_pos h
 have hi : b < a → wdSgn a b = 1 := fun h => by unfold wdSgn; rw [if_neg (by omega), if_pos h]
 refine wdC3_ok (fun h => lo (by omega)) (fun h => hi (by omega)) fun e5 => ?_
 refine wdC3_ok (fun h => lo (by omega)) (fun h => hi (by omega)) fun e4 => ?_
 refine wdC3_ok (fun h => lo (by omega)) (fun h => hi (by omega)) fun e3 => ?_
 refine wdC3_ok (fun h => lo (by omega)) (fun h => hi (by omega)) fun e2 => ?_
 refine wdC3_ok (fun h => lo (by omega)) (fun h => hi (by omega)) fun e1 => ?_
 refine wdC3_ok (fun h => lo (by omega)) (fun h => hi (by omega)) fun e0 => ?_
 have : a = b := by omega
 rw [this]
 show AV.int .i64 0 = AV.int .i64 (wdSgn b b)
 unfold wdSgn
 rw [if_neg (by omega), if_neg (by omega)]
open A in
def wdArgW (s : Bool) (l : List Int) : AV := .agg [.bool s, wdArg l]
def wdAb (v : Int) : Int := if v < 0 then -v else v
open A in
def wdW (v : Int) : AV := .agg [.bool (decide (v < 0)), wdRow (wdDig (wdAb v))]
open A in
def wd1R (f : List Int → Bool × AV) : Con
 | [.csl z n c] => if z = 1 ∧ n = 6 then (match wdRead c with
  | some l => some (f l)
  | _ => none) else none
 | _ => none
open A in
def wd2R (f : List Int → List Int → Bool × AV) : Con
 | [.csl z n c, .csl z' n' d] => if z = 1 ∧ n = 6 ∧ z' = 1 ∧ n' = 6 then (match wdRead c, wdRead d with
  | some l, some m => some (f l m)
  | _, _ => none) else none
 | _ => none
open A in
def wd1W (f : Bool → List Int → Bool × AV) : Con
 | [.agg [.bool s, .csl z n c]] => if z = 1 ∧ n = 6 then (match wdRead c with
  | some l => some (f s l)
  | _ => none) else none
 | _ => none
open A in
def wd2W (f : Bool → List Int → Bool → List Int → Bool × AV) : Con
 | [.agg [.bool s, .csl z n c], .agg [.bool t, .csl z' n' d]] => if z = 1 ∧ n = 6 ∧ z' = 1 ∧ n' = 6 then (match wdRead c, wdRead d with
  | some l, some m => some (f s l t m)
  | _, _ => none) else none
 | _ => none
open A in
theorem wd_gives {T : Tab} (hT : TabOk Tryz.prog T) {g : Nat} (hn : (Tryz.prog.funcs[g]?).any (fun fn => !(fn.name == "runtime.NumGoroutine")) = true) {args : List AV} {A : List Value} {w : World} (hA : RL noNames w args A) {r : Bool × AV} {p : Bool} {v : AV} (e : r = (p, v)) (hp : p = true)
 (h : r.1 = true → r.2.okN 4 = true ∧ wdP T g args fun u => u = r.2) : Gives Tryz.prog g A.toArray w fun V w' => (RV noNames w' v V ∧ Below w.heap.size w w') ∧ Fr w.heap.size 4 v V := by
 subst e
 obtain ⟨h1, h2⟩ := h hp
 refine givesN_ok mixed hT hn (zI Tryz.prog g) (n := 10) h1 ?_ hA
 unfold wdP at h2
 with_reducible exact h2
open A in
theorem wd1R_ok {T : Tab} (hT : TabOk Tryz.prog T) {g : Nat} (hn : (Tryz.prog.funcs[g]?).any (fun fn => !(fn.name == "runtime.NumGoroutine")) = true) {f : List Int → Bool × AV}
 (h : ∀ l, (f l).1 = true → (f l).2.okN 4 = true ∧ wdP T g [wdArg l] fun u => u = (f l).2) : COk Tryz.prog g (wd1R f) := by
 intro args p v hc hp w A hA
 unfold wd1R at hc
 split at hc
 case h_2 => cases hc
 split at hc
 case isFalse => cases hc
 rename_i hs
 obtain ⟨rfl, rfl⟩ := hs
 split at hc
 case h_2 => cases hc
 rename_i l hl0
 simp only [kG, kL] at hA
 obtain ⟨V0, _, rfl, hV0, rfl⟩ := hA
 exact wd_gives hT hn (.cons (wd_canon hV0 hl0) .nil) (Option.some.inj hc) hp (h _)
open A in
theorem wd2R_ok {T : Tab} (hT : TabOk Tryz.prog T) {g : Nat} (hn : (Tryz.prog.funcs[g]?).any (fun fn => !(fn.name == "runtime.NumGoroutine")) = true) {f : List Int → List Int → Bool × AV}
 (h : ∀ l m, (f l m).1 = true → (f l m).2.okN 4 = true ∧ wdP T g [wdArg l, wdArg m] fun u => u = (f l m).2) : COk Tryz.prog g (wd2R f) := by
 intro args p v hc hp w A hA
 unfold wd2R at hc
 split at hc
 case h_2 => cases hc
 split at hc
 case isFalse => cases hc
 rename_i hs
 obtain ⟨rfl, rfl, rfl, rfl⟩ := hs
 split at hc
 case h_2 => cases hc
 rename_i l m hl0 hl1
 simp only [kG, kL] at hA
 obtain ⟨V0, _, rfl, hV0, V1, _, rfl, hV1, rfl⟩ := hA
 exact wd_gives hT hn (.cons (wd_canon hV0 hl0) (.cons (wd_canon hV1 hl1) .nil)) (Option.some.inj hc) hp (h _ _)
open A in
theorem wd1W_ok {T : Tab} (hT : TabOk Tryz.prog T) {g : Nat} (hn : (Tryz.prog.funcs[g]?).any (fun fn => !(fn.name == "runtime.NumGoroutine")) = true) {f : Bool → List Int → Bool × AV}
 (h : ∀ s l, (f s l).1 = true → (f s l).2.okN 4 = true ∧ wdP T g [wdArgW s l] fun u => u = (f s l).2) : COk Tryz.prog g (wd1W f) := by
 intro args p v hc hp w A hA
 unfold wd1W at hc
 split at hc
 case h_2 => cases hc
 split at hc
 case isFalse => cases hc
 rename_i hs
 obtain ⟨rfl, rfl⟩ := hs
 split at hc
 case h_2 => cases hc
 rename_i l hl0
 simp only [kG, kL, kV, kN] at hA
 obtain ⟨_, _, rfl, ⟨_, rfl, _, _, rfl, rfl, V0, _, rfl, hV0, rfl⟩, rfl⟩ := hA
 exact wd_gives hT hn (.cons (.agg (.cons (.bool _) (.cons (wd_canon hV0 hl0) .nil))) .nil) (Option.some.inj hc) hp (h _ _)
open A in
theorem wd2W_ok {T : Tab} (hT : TabOk Tryz.prog T) {g : Nat} (hn : (Tryz.prog.funcs[g]?).any (fun fn => !(fn.name == "runtime.NumGoroutine")) = true) {f : Bool → List Int → Bool → List Int → Bool × AV}
 (h : ∀ s l t m, (f s l t m).1 = true → (f s l t m).2.okN 4 = true ∧ wdP T g [wdArgW s l, wdArgW t m] fun u => u = (f s l t m).2) : COk Tryz.prog g (wd2W f) := by
 intro args p v hc hp w A hA
 unfold wd2W at hc
 split at hc
 case h_2 => cases hc
 split at hc
 case isFalse => cases hc
 rename_i hs
 obtain ⟨rfl, rfl, rfl, rfl⟩ := hs
 split at hc
 case h_2 => cases hc
 rename_i l m hl0 hl1
 simp only [kG, kL, kV, kN] at hA
 obtain ⟨_, _, rfl, ⟨_, rfl, _, _, rfl, rfl, V0, _, rfl, hV0, rfl⟩, _, _, rfl, ⟨_, rfl, _, _, rfl, rfl, V1, _, rfl, hV1, rfl⟩, rfl⟩ := hA
 exact wd_gives hT hn (.cons (.agg (.cons (.bool _) (.cons (wd_canon hV0 hl0) .nil))) (.cons (.agg (.cons (.bool _) (.cons (wd_canon hV1 hl1) .nil))) .nil)) (Option.some.inj hc) hp (h _ _ _ _)
open A in
noncomputable def wdAdd : Con := wd2R fun l m => (wdOk l && wdOk m, wdRow (wdDig (wdVal l + wdVal m)))
open A in
noncomputable def wdLess : Con := wd2R fun l m => (wdOk l && wdOk m, wdRow (wdDig (wdVal l - wdVal m)))
open A in
noncomputable def wdCmp : Con := wd2R fun l m => (wdOk l && wdOk m, .int .i64 (wdSgn (wdVal l) (wdVal m)))
open A in
noncomputable def wdZero : Con := wd1R fun l => (wdOk l, .bool (decide (wdVal l = 0)))
theorem wd_and {a b : Bool} (h : (a && b) = true) : a = true ∧ b = true := by simpa using h
open A in
theorem wdAdd_ok : COk Tryz.prog 133 wdAdd := wd2R_ok bE (by kernel_rfl) fun l m h => ⟨rfl, wdAdd_hq (wd_and h).1 (wd_and h).2⟩
open A in
theorem wdLess_ok : COk Tryz.prog 135 wdLess := wd2R_ok bE (by kernel_rfl) fun l m h => ⟨rfl, wdLess_hq (wd_and h).1 (wd_and h).2⟩
open A in
theorem wdCmp_ok : COk Tryz.prog 134 wdCmp := wd2R_ok bE (by kernel_rfl) fun l m h => ⟨rfl, wdCmp_hq (wd_and h).1 (wd_and h).2⟩
open A in
noncomputable def wdT : Tab := tab [(133, wdAdd), (135, wdLess), (134, wdCmp)]
open A in
theorem wdT_ok : TabOk Tryz.prog wdT := kD wdAdd_ok (kD wdLess_ok (kD wdCmp_ok bE))
open A in
set_option maxRecDepth 100000 in
theorem wdZero_vc (x0 x1 x2 x3 x4 x5 : Int) (K : AV → Prop) : wdP wdT 136 [wdArg [x0, x1, x2, x3, x4, x5]] K =
 brc (wdOk [x0, x1, x2, x3, x4, x5] && wdOk [0, 0, 0, 0, 0, 0]) (∀ m : Int, m = wdSgn (wdVal [x0, x1, x2, x3, x4, x5]) (wdVal [0, 0, 0, 0, 0, 0]) → K (.bool (m == 0))) False := by kernel_rfl
open A in
theorem wd_brc {b : Bool} {X Y : Prop} (h : b = true) (a : X) : brc b X Y := by subst h; exact a
open A in
theorem wd_brn {b : Bool} {X Y : Prop} (h : b = false) (a : Y) : brc b X Y := by subst h; exact a
theorem wdSgn_zero (a : Int) : (wdSgn a 0 == 0) = decide (a = 0) := by
 unfold wdSgn
 split
 · rw [decide_eq_false (by omega)]; rfl
 · split
   · rw [decide_eq_false (by omega)]; rfl
   · rw [decide_eq_true (by omega)]; rfl
open A in
theorem wdZero_ok : COk Tryz.prog 136 wdZero := wd1R_ok wdT_ok (by kernel_rfl) fun l h => ⟨rfl, by
 have hl := h
 obtain ⟨x0, x1, x2, x3, x4, x5, rfl, _⟩ := wd_six hl
 rw [wdZero_vc]
 refine wd_brc (by rw [show wdOk [x0, x1, x2, x3, x4, x5] = true from hl, wdOk_iff.2 (show 0 ≤ (0 : Int) ∧ (0 : Int) < 4294967296 ∧ _ by omega)]; rfl) ?_
 rintro _ rfl
 show AV.bool (wdSgn (wdVal [x0, x1, x2, x3, x4, x5]) 0 == 0) = AV.bool (decide (wdVal [x0, x1, x2, x3, x4, x5] = 0))
 rw [wdSgn_zero]⟩
theorem wd_val {n : Int} (h : 0 ≤ n ∧ n < 6277101735386680763835789423207666416102355444464034512896) : wdVal (wdDig n) = n := by
 unfold wdDig wdVal
 simp only
 omega
theorem wd_okd (n : Int) : wdOk (wdDig n) = true := by
 unfold wdDig
 exact wdOk_iff.2 (by omega)
def wdMean (s : Bool) (l : List Int) : Int := if s = true then -wdVal l else wdVal l
def wdNz (s : Bool) (l : List Int) : Bool := !s || decide (wdVal l ≠ 0)
theorem wd_ab {v : Int} (h : -6277101735386680763835789423207666416102355444464034512896 < v ∧ v < 6277101735386680763835789423207666416102355444464034512896) :
 wdVal (wdDig (wdAb v)) = wdAb v ∧ wdMean (decide (v < 0)) (wdDig (wdAb v)) = v ∧ wdNz (decide (v < 0)) (wdDig (wdAb v)) = true := by
 have e : wdVal (wdDig (wdAb v)) = wdAb v := wd_val (by unfold wdAb; split <;> omega)
 refine ⟨e, ?_, ?_⟩
 · unfold wdMean; rw [e]; unfold wdAb
   by_cases g : v < 0
   · rw [if_pos (decide_eq_true g), if_pos g]; omega
   · rw [if_neg (by simpa using g), if_neg g]
 · unfold wdNz; rw [e]; unfold wdAb
   by_cases g : v < 0
   · rw [decide_eq_true g, if_pos g, decide_eq_true (by omega)]; rfl
   · rw [decide_eq_false g]; rfl
open A in
noncomputable def wdR (b : Bool) (n : Int) (C : List Int → Prop) : Prop := brc b (∀ m0 : Int, m0 = n % 4294967296 → ∀ m1 : Int, m1 = n / 4294967296 % 4294967296 → ∀ m2 : Int, m2 = n / 4294967296 / 4294967296 % 4294967296 → ∀ m3 : Int, m3 = n / 4294967296 / 4294967296 / 4294967296 % 4294967296 → ∀ m4 : Int, m4 = n / 4294967296 / 4294967296 / 4294967296 / 4294967296 % 4294967296 → ∀ m5 : Int, m5 = n / 4294967296 / 4294967296 / 4294967296 / 4294967296 / 4294967296 % 4294967296 → C [m0, m1, m2, m3, m4, m5]) False
theorem wdR_ok {b : Bool} {n : Int} {C : List Int → Prop} (hb : b = true) (h : C (wdDig n)) : wdR b n C := by
 unfold wdR
 refine wd_brc hb ?_
 rintro _ rfl _ rfl _ rfl _ rfl _ rfl _ rfl
 exact h
open A in
noncomputable def wdQ (b : Bool) (v : Int) (C : Bool → List Int → Prop) : Prop := brc b (∀ s : Bool, s = decide (v < 0) → ∀ m0 : Int, m0 = wdAb v % 4294967296 → ∀ m1 : Int, m1 = wdAb v / 4294967296 % 4294967296 → ∀ m2 : Int, m2 = wdAb v / 4294967296 / 4294967296 % 4294967296 → ∀ m3 : Int, m3 = wdAb v / 4294967296 / 4294967296 / 4294967296 % 4294967296 → ∀ m4 : Int, m4 = wdAb v / 4294967296 / 4294967296 / 4294967296 / 4294967296 % 4294967296 → ∀ m5 : Int, m5 = wdAb v / 4294967296 / 4294967296 / 4294967296 / 4294967296 / 4294967296 % 4294967296 → C s [m0, m1, m2, m3, m4, m5]) False
theorem wdQ_ok {b : Bool} {v : Int} {C : Bool → List Int → Prop} (hb : b = true) (h : C (decide (v < 0)) (wdDig (wdAb v))) : wdQ b v C := by
 unfold wdQ
 refine wd_brc hb ?_
 rintro _ rfl _ rfl _ rfl _ rfl _ rfl _ rfl _ rfl
 exact h
def wdIn (n : Int) : Bool := decide (-9223372036854775808 ≤ n ∧ n ≤ 9223372036854775807)
open A in
noncomputable def wdOf : Con
 | [.int .i64 n] => some (wdIn n, wdW n)
 | _ => none
def ofHi (u : Int) : Int := Int.fdiv u (2 ^ 32)
open A in
def ofRow (u : Int) : AV := wdRow [adM u, ofHi u, 0, 0, 0, 0]
open A in
set_option maxRecDepth 100000 in
theorem wdOf_vc (n : Int) (K : AV → Prop) : wdP (tab []) 98 [.int .i64 n] K =
 brc (decide (n < 0)) (K (.agg [.bool (decide (n < 0)), ofRow (IntKind.wrap .u64 (0 - IntKind.wrap .u64 n))])) (K (.agg [.bool (decide (n < 0)), ofRow (IntKind.wrap .u64 n)])) := by kernel_rfl
theorem wd_u64m (x : Int) : IntKind.wrap .u64 x = x % 18446744073709551616 := by simp [IntKind.wrap, IntKind.bits, IntKind.signed]
open A in
theorem ofRow_eq {u : Int} (h : 0 ≤ u ∧ u < 18446744073709551616) : ofRow u = wdRow (wdDig u) := by
 unfold ofRow
 congr 1
 rw [adM_eq h]
 have : ofHi u = u / 4294967296 := adC_eq
 rw [this]
 have e1 : u / 4294967296 / 4294967296 = 0 := by omega
 have e2 : u / 4294967296 % 4294967296 = u / 4294967296 := by omega
 unfold wdDig
 rw [e1, e2]
 rfl
open A in
theorem wdOf_ok : COk Tryz.prog 98 wdOf := by
 intro args p v hc hp w A hA
 unfold wdOf at hc
 split at hc
 case h_2 => cases hc
 rename_i n
 simp only [kG, kL, kM] at hA
 obtain ⟨_, _, rfl, rfl, rfl⟩ := hA
 refine wd_gives bE (by kernel_rfl) (.cons (.int _ _) .nil) (Option.some.inj hc) hp fun h => ⟨rfl, ?_⟩
 have h : wdIn n = true := h
 unfold wdIn at h
 have h := of_decide_eq_true h
 rw [wdOf_vc]
 refine kB (fun g => ?_) fun g => ?_
 · have g := of_decide_eq_true g
   have e : IntKind.wrap .u64 (0 - IntKind.wrap .u64 n) = wdAb n := by
    rw [wd_u64m, wd_u64m]; unfold wdAb; rw [if_pos g]; omega
   rw [e, ofRow_eq (by unfold wdAb; rw [if_pos g]; omega)]
   rfl
 · have g := of_decide_eq_false g
   have e : IntKind.wrap .u64 n = wdAb n := by
    rw [wd_u64m]; unfold wdAb; rw [if_neg g]; omega
   rw [e, ofRow_eq (by unfold wdAb; rw [if_neg g]; omega)]
   rfl
noncomputable def wdPlusC (s : Bool) (l : List Int) (t : Bool) (m : List Int) : Bool := wdOk l && wdOk m && (wdNz s l && wdNz t m)
open A in
noncomputable def wdPlus : Con := wd2W fun s l t m => (wdPlusC s l t m, wdW (wdMean s l + wdMean t m))
open A in
set_option maxRecDepth 100000 in
theorem wdPlus_vc (s t : Bool) (x0 x1 x2 x3 x4 x5 y0 y1 y2 y3 y4 y5 : Int) (K : AV → Prop) : wdP wdT 97 [wdArgW s [x0, x1, x2, x3, x4, x5], wdArgW t [y0, y1, y2, y3, y4, y5]] K =
 brc (s == t) (wdR (wdOk [x0, x1, x2, x3, x4, x5] && wdOk [y0, y1, y2, y3, y4, y5]) (wdVal [x0, x1, x2, x3, x4, x5] + wdVal [y0, y1, y2, y3, y4, y5]) fun r => K (.agg [.bool s, wdRow r]))
  (brc (wdOk [x0, x1, x2, x3, x4, x5] && wdOk [y0, y1, y2, y3, y4, y5]) (∀ z : Int, z = wdSgn (wdVal [x0, x1, x2, x3, x4, x5]) (wdVal [y0, y1, y2, y3, y4, y5]) → brc (decide (z ≥ 0))
   (brc s (brc (wdOk [x0, x1, x2, x3, x4, x5] && wdOk [y0, y1, y2, y3, y4, y5]) (∀ y : Int, y = wdSgn (wdVal [x0, x1, x2, x3, x4, x5]) (wdVal [y0, y1, y2, y3, y4, y5]) → wdR (wdOk [x0, x1, x2, x3, x4, x5] && wdOk [y0, y1, y2, y3, y4, y5]) (wdVal [x0, x1, x2, x3, x4, x5] - wdVal [y0, y1, y2, y3, y4, y5]) fun r => K (.agg [.bool (decide (y > 0)), wdRow r])) False)
    (wdR (wdOk [x0, x1, x2, x3, x4, x5] && wdOk [y0, y1, y2, y3, y4, y5]) (wdVal [x0, x1, x2, x3, x4, x5] - wdVal [y0, y1, y2, y3, y4, y5]) fun r => K (.agg [.bool false, wdRow r])))
   (wdR (wdOk [y0, y1, y2, y3, y4, y5] && wdOk [x0, x1, x2, x3, x4, x5]) (wdVal [y0, y1, y2, y3, y4, y5] - wdVal [x0, x1, x2, x3, x4, x5]) fun r => K (.agg [.bool t, wdRow r]))) False) := by kernel_rfl
theorem wdVal_pos {l : List Int} (h : wdOk l = true) : 0 ≤ wdVal l ∧ wdVal l < 6277101735386680763835789423207666416102355444464034512896 := by
 obtain ⟨x0, x1, x2, x3, x4, x5, rfl, _⟩ := wd_six h
 unfold wdVal
 simp only
 omega
theorem wdSgn_ge {a b : Int} : wdSgn a b ≥ 0 ↔ b ≤ a := by unfold wdSgn; split <;> (try split) <;> omega
theorem wdSgn_gt {a b : Int} : wdSgn a b > 0 ↔ b < a := by unfold wdSgn; split <;> (try split) <;> omega
open A in
theorem wdW_eq {s : Bool} {n v : Int} (hs : s = decide (v < 0)) (hn : n = wdAb v) : AV.agg [.bool s, wdRow (wdDig n)] = wdW v := by subst hs hn; rfl
open A in
theorem wdPlus_ok : COk Tryz.prog 97 wdPlus := wd2W_ok wdT_ok (by kernel_rfl) fun s l t m h => ⟨rfl, by
 have h : (wdOk l && wdOk m && (wdNz s l && wdNz t m)) = true := h
 obtain ⟨ho, hz⟩ := wd_and h
 obtain ⟨hl, hm⟩ := wd_and ho
 obtain ⟨h1, h2⟩ := wd_and hz
 obtain ⟨x0, x1, x2, x3, x4, x5, rfl, _⟩ := wd_six hl
 obtain ⟨y0, y1, y2, y3, y4, y5, rfl, _⟩ := wd_six hm
 have pl := wdVal_pos hl
 have pm := wdVal_pos hm
 have hr : (wdOk [y0, y1, y2, y3, y4, y5] && wdOk [x0, x1, x2, x3, x4, x5]) = true := by rw [hl, hm]; rfl
 show wdP _ _ _ fun u => u = wdW (wdMean s [x0, x1, x2, x3, x4, x5] + wdMean t [y0, y1, y2, y3, y4, y5])
 rw [wdPlus_vc]
 unfold wdNz at h1 h2
 unfold wdMean
 generalize wdVal [x0, x1, x2, x3, x4, x5] = a at *
 generalize wdVal [y0, y1, y2, y3, y4, y5] = b at *
 refine kB (fun g => ?_) fun g => ?_
 · have g : s = t := by simpa using g
   subst g
   refine wdR_ok ho (wdW_eq ?_ ?_)
   · cases s
     · exact (decide_eq_false (by simp; omega)).symm
     · simp at h1 h2; exact (decide_eq_true (by simp; omega)).symm
   · unfold wdAb; cases s
     · rw [if_neg (by simp; omega)]; simp
     · simp only [if_true]; split <;> omega
 · refine wd_brc ho ?_
   rintro _ rfl
   refine kB (fun q => ?_) fun q => ?_
   · have q := wdSgn_ge.1 (of_decide_eq_true q)
     refine kB (fun e => ?_) fun e => ?_
     · subst e
       obtain rfl : t = false := by simpa using g
       refine wd_brc ho ?_
       rintro _ rfl
       refine wdR_ok ho (wdW_eq ?_ ?_)
       · simp only [if_true, Bool.false_eq_true, if_false]
         by_cases k : b < a
         · rw [decide_eq_true (wdSgn_gt.2 k), decide_eq_true (by omega)]
         · rw [decide_eq_false (fun z => k (wdSgn_gt.1 z)), decide_eq_false (by omega)]
       · unfold wdAb; simp only [if_true, Bool.false_eq_true, if_false]; split <;> omega
     · subst e
       obtain rfl : t = true := by simpa using g
       refine wdR_ok ho (wdW_eq ?_ ?_)
       · simp only [if_true, Bool.false_eq_true, if_false]
         rw [decide_eq_false (by omega)]
       · unfold wdAb; simp only [if_true, Bool.false_eq_true, if_false]; split <;> omega
   · have q : a < b := by
      have := of_decide_eq_false q
      rcases Int.lt_or_le a b with z | z
      · exact z
      · exact absurd (wdSgn_ge.2 z) this
     refine wdR_ok hr (wdW_eq ?_ ?_)
     · cases s <;> cases t <;> simp at g ⊢ <;> omega
     · unfold wdAb; cases s <;> cases t <;> simp at g ⊢ <;> split <;> omega⟩
def wdOut (x : Int) : Int × Int := if -9223372036854775808 ≤ x ∧ x ≤ 9223372036854775807 then (x, 0) else (0, 10)
open A in
noncomputable def wdSmall : Con := wd1W fun s l => (wdOk l, .tup [.int .i64 (wdOut (wdMean s l)).1, .int .i64 (wdOut (wdMean s l)).2])
def smU (x0 x1 : Int) : Int := IntKind.wrap .u64 ((BitVec.toNat (BitVec.ofInt (IntKind.bits .u64) (IntKind.wrap .u64 (x1 * 2 ^ min (Int.toNat 32) (IntKind.bits .u64))) ||| BitVec.ofInt (IntKind.bits .u64) x0) : Nat) : Int)
open A in
def smK (K : AV → Prop) (a b : Int) : Prop := K (.tup [.int .i64 a, .int .i64 b])
open A in
def smE (K : AV → Prop) (s : Bool) (u : Int) : Prop := brc s (smK K 0 10) (brc (decide (u ≥ 9223372036854775808)) (smK K 0 10) (smK K (IntKind.wrap .i64 u) 0))
open A in
set_option maxRecDepth 100000 in
theorem wdSmall_vc (s : Bool) (x0 x1 x2 x3 x4 x5 : Int) (K : AV → Prop) : wdP (tab []) 96 [wdArgW s [x0, x1, x2, x3, x4, x5]] K =
 brc (x2 != 0) (smK K 0 10) (brc (x3 != 0) (smK K 0 10) (brc (x4 != 0) (smK K 0 10) (brc (x5 != 0) (smK K 0 10) (brc s (brc (decide (smU x0 x1 ≤ 9223372036854775808)) (smK K (IntKind.wrap .i64 (IntKind.wrap .u64 (0 - smU x0 x1))) 0) (smE K s (smU x0 x1))) (smE K s (smU x0 x1)))))) := by kernel_rfl
theorem smU_eq {x y : Int} (hx : 0 ≤ x ∧ x < 4294967296) (hy : 0 ≤ y ∧ y < 4294967296) : smU x y = x + 4294967296 * y := by
 have e : smU x y = Go.bits .or .u64 (IntKind.wrap .u64 (y * 4294967296)) x := by rfl
 rw [e, wd_u64 _ (by omega)]
 have := bits_join .u64 64 (by decide) (fun n h0 h1 => wd_u64 n (by omega)) 32 (y * 4294967296) x (by omega) (by omega) (by omega) hx.1 (by omega) (by omega)
 rw [this]; omega
open A in
theorem wd_i64 {x : Int} : IntKind.wrap .i64 x = (x + 9223372036854775808) % 18446744073709551616 - 9223372036854775808 := by
 have e := wrap_i64 x
 rw [e]; unfold wrap64; omega
theorem wdOut_no {x : Int} (h : ¬ (-9223372036854775808 ≤ x ∧ x ≤ 9223372036854775807)) : wdOut x = (0, 10) := if_neg h
theorem wdOut_in {x : Int} (h : -9223372036854775808 ≤ x ∧ x ≤ 9223372036854775807) : wdOut x = (x, 0) := if_pos h
open A in
theorem wdSmall_ok : COk Tryz.prog 96 wdSmall := wd1W_ok bE (by kernel_rfl) fun s l h => ⟨rfl, by
 obtain ⟨x0, x1, x2, x3, x4, x5, rfl, a0, a1, a2, a3, a4, a5⟩ := wd_six (show wdOk l = true from h)
 show wdP _ _ _ fun u => u = .tup [.int .i64 (wdOut (wdMean s [x0, x1, x2, x3, x4, x5])).1, .int .i64 (wdOut (wdMean s [x0, x1, x2, x3, x4, x5])).2]
 rw [wdSmall_vc]
 have ev : wdVal [x0, x1, x2, x3, x4, x5] = x0 + 4294967296 * (x1 + 4294967296 * (x2 + 4294967296 * (x3 + 4294967296 * (x4 + 4294967296 * x5)))) := rfl
 have no : 18446744073709551616 ≤ wdVal [x0, x1, x2, x3, x4, x5] → smK (fun u => u = AV.tup [.int .i64 (wdOut (wdMean s [x0, x1, x2, x3, x4, x5])).1, .int .i64 (wdOut (wdMean s [x0, x1, x2, x3, x4, x5])).2]) 0 10 := fun g => by
  rw [wdOut_no (by unfold wdMean; split <;> omega)]; rfl
 refine kB (fun g => no (by simp at g; omega)) fun g2 => kB (fun g => no (by simp at g; omega)) fun g3 => kB (fun g => no (by simp at g; omega)) fun g4 => kB (fun g => no (by simp at g; omega)) fun g5 => ?_
 simp at g2 g3 g4 g5
 rw [smU_eq a0 a1]
 have eu : wdVal [x0, x1, x2, x3, x4, x5] = x0 + 4294967296 * x1 := by rw [ev, g2, g3, g4, g5]; omega
 have hu : 0 ≤ x0 + 4294967296 * x1 ∧ x0 + 4294967296 * x1 < 18446744073709551616 := by omega
 clear no ev
 unfold wdMean
 rw [eu]
 generalize x0 + 4294967296 * x1 = u at *
 refine kB (fun e => ?_) fun e => ?_
 · subst e
   simp only [if_true]
   refine kB (fun q => ?_) fun q => ?_
   · have q := of_decide_eq_true q
     rw [wdOut_in (by omega)]
     show AV.tup [.int .i64 _, .int .i64 0] = AV.tup [.int .i64 (-u), .int .i64 0]
     rw [show IntKind.wrap .i64 (IntKind.wrap .u64 (0 - u)) = -u by rw [wd_u64m, wd_i64]; omega]
   · have q := of_decide_eq_false q
     refine wd_brc rfl ?_
     rw [wdOut_no (by omega)]; rfl
 · subst e
   refine wd_brn rfl (kB (fun q => ?_) fun q => ?_)
   · have q := of_decide_eq_true q
     rw [wdOut_no (by simp; omega)]; rfl
   · have q := of_decide_eq_false q
     simp only [Bool.false_eq_true, if_false]
     rw [wdOut_in (by omega)]
     show AV.tup [.int .i64 _, .int .i64 0] = AV.tup [.int .i64 u, .int .i64 0]
     rw [show IntKind.wrap .i64 u = u by rw [wd_i64]; omega]⟩
def tm0 (a b0 : Int) : Int := IntKind.wrap .u64 (0 + IntKind.wrap .u64 (a * b0))
def tmN (s a b : Int) : Int := IntKind.wrap .u64 (adC s + IntKind.wrap .u64 (a * b))
def tmR (a b0 b1 b2 : Int) : List Int := [adM (tm0 a b0), adM (tmN (tm0 a b0) a b1), adM (tmN (tmN (tm0 a b0) a b1) a b2)]
open A in
noncomputable def wdTimes : Con := wd2W fun s l t m => (wdOk l && wdOk m && (decide (wdVal l < 18446744073709551616) && decide (wdVal m < 18446744073709551616)), wdW (wdMean s l * wdMean t m))
open A in
noncomputable def wdTT : Tab := tab [(133, wdAdd), (136, wdZero)]
open A in
theorem wdTT_ok : TabOk Tryz.prog wdTT := kD wdAdd_ok (kD wdZero_ok bE)
def tm_0 (x y : List Int) : List Int := tmR (x.getD 0 0) (y.getD 0 0) (y.getD 1 0) (y.getD 2 0) ++ [0, 0, 0]
def tm_1 (x y : List Int) : List Int := 0 :: tmR (x.getD 1 0) (y.getD 0 0) (y.getD 1 0) (y.getD 2 0) ++ [0, 0]
open A in
set_option maxRecDepth 100000 in
theorem wdTimes_vc (s t : Bool) (x0 x1 x2 x3 x4 x5 y0 y1 y2 y3 y4 y5 : Int) (K : AV → Prop) : wdP wdTT 111 [wdArgW s [x0, x1, x2, x3, x4, x5], wdArgW t [y0, y1, y2, y3, y4, y5]] K =
 wdR (wdOk [0, 0, 0, 0, 0, 0] && wdOk (tm_0 [x0, x1, x2, x3, x4, x5] [y0, y1, y2, y3, y4, y5])) (wdVal [0, 0, 0, 0, 0, 0] + wdVal (tm_0 [x0, x1, x2, x3, x4, x5] [y0, y1, y2, y3, y4, y5])) fun r => wdR (wdOk r && wdOk (tm_1 [x0, x1, x2, x3, x4, x5] [y0, y1, y2, y3, y4, y5])) (wdVal r + wdVal (tm_1 [x0, x1, x2, x3, x4, x5] [y0, y1, y2, y3, y4, y5])) fun r =>
  brc (!s == t) (brc (wdOk r) (∀ z : Bool, z = decide (wdVal r = 0) → K (.agg [.bool (!z), wdRow r])) False) (K (.agg [.bool false, wdRow r])) := by kernel_rfl
theorem wd_mul {a b : Int} (ha : 0 ≤ a ∧ a < 4294967296) (hb : 0 ≤ b ∧ b < 4294967296) : 0 ≤ a * b ∧ a * b ≤ 18446744065119617025 :=
 ⟨Int.mul_nonneg ha.1 hb.1, Int.le_trans (Int.mul_le_mul (show a ≤ 4294967295 by omega) (show b ≤ 4294967295 by omega) hb.1 (by omega)) (by decide)⟩
theorem tmR_eq {a b0 b1 : Int} (ha : 0 ≤ a ∧ a < 4294967296) (h0 : 0 ≤ b0 ∧ b0 < 4294967296) (h1 : 0 ≤ b1 ∧ b1 < 4294967296) :
 ∃ d0 d1 d2, tmR a b0 b1 0 = [d0, d1, d2] ∧ (0 ≤ d0 ∧ d0 < 4294967296) ∧ (0 ≤ d1 ∧ d1 < 4294967296) ∧ (0 ≤ d2 ∧ d2 < 4294967296) ∧ d0 + 4294967296 * (d1 + 4294967296 * d2) = a * (b0 + 4294967296 * b1) := by
 have p0 := wd_mul ha h0
 have p1 := wd_mul ha h1
 have e : a * (b0 + 4294967296 * b1) = a * b0 + 4294967296 * (a * b1) := by rw [Int.mul_add, Int.mul_left_comm]
 rw [e]
 unfold tmR
 have z0 : tm0 a b0 = a * b0 := by unfold tm0; rw [wd_u64 (a * b0) (by omega), wd_u64 _ (by omega)]; omega
 rw [z0]
 have z1 : tmN (a * b0) a b1 = a * b0 / 4294967296 + a * b1 := by unfold tmN; rw [adC_eq, wd_u64 (a * b1) (by omega), wd_u64 _ (by omega)]
 rw [z1]
 generalize a * b0 = p at *
 generalize a * b1 = q at *
 have z2 : tmN (p / 4294967296 + q) a 0 = (p / 4294967296 + q) / 4294967296 := by unfold tmN; rw [adC_eq, Int.mul_zero, wd_u64 0 (by omega), wd_u64 _ (by omega)]; omega
 rw [z2, adM_eq (by omega), adM_eq (by omega), adM_eq (by omega)]
 exact ⟨_, _, _, rfl, by omega, by omega, by omega, by omega⟩
theorem wd_sign (s t : Bool) (a b : Int) : (if s = true then -a else a) * (if t = true then -b else b) = if (!s == t) = true then -(a * b) else a * b := by
 cases s <;> cases t <;> simp [Int.neg_mul, Int.mul_neg]
set_option maxRecDepth 100000 in
open A in
theorem wdTimes_ok : COk Tryz.prog 111 wdTimes := wd2W_ok wdTT_ok (by kernel_rfl) fun s l t m h => ⟨rfl, by
 have h : (wdOk l && wdOk m && (decide (wdVal l < 18446744073709551616) && decide (wdVal m < 18446744073709551616))) = true := h
 obtain ⟨ho, hz⟩ := wd_and h
 obtain ⟨hl, hm⟩ := wd_and ho
 obtain ⟨h1, h2⟩ := wd_and hz
 have h1 := of_decide_eq_true h1
 have h2 := of_decide_eq_true h2
 obtain ⟨x0, x1, x2, x3, x4, x5, rfl, a0, a1, a2, a3, a4, a5⟩ := wd_six hl
 obtain ⟨y0, y1, y2, y3, y4, y5, rfl, b0, b1, b2, b3, b4, b5⟩ := wd_six hm
 show wdP _ _ _ fun u => u = wdW (wdMean s [x0, x1, x2, x3, x4, x5] * wdMean t [y0, y1, y2, y3, y4, y5])
 rw [wdTimes_vc]
 have ex : wdVal [x0, x1, x2, x3, x4, x5] = x0 + 4294967296 * (x1 + 4294967296 * (x2 + 4294967296 * (x3 + 4294967296 * (x4 + 4294967296 * x5)))) := rfl
 have ey : wdVal [y0, y1, y2, y3, y4, y5] = y0 + 4294967296 * (y1 + 4294967296 * (y2 + 4294967296 * (y3 + 4294967296 * (y4 + 4294967296 * y5)))) := rfl
 have ex2 : wdVal [x0, x1, x2, x3, x4, x5] = x0 + 4294967296 * x1 := by omega
 have ey2 : wdVal [y0, y1, y2, y3, y4, y5] = y0 + 4294967296 * y1 := by omega
 obtain rfl : y2 = 0 := by omega
 obtain ⟨c0, c1, c2, ec, C0, C1, C2, vc⟩ := tmR_eq a0 b0 b1
 obtain ⟨d0, d1, d2, ed, D0, D1, D2, vd⟩ := tmR_eq a1 b0 b1
 have e0 : tm_0 [x0, x1, x2, x3, x4, x5] [y0, y1, 0, y3, y4, y5] = [c0, c1, c2, 0, 0, 0] := by show tmR x0 y0 y1 0 ++ _ = _; rw [ec]; rfl
 have e1 : tm_1 [x0, x1, x2, x3, x4, x5] [y0, y1, 0, y3, y4, y5] = [0, d0, d1, d2, 0, 0] := by show 0 :: tmR x1 y0 y1 0 ++ _ = _; rw [ed]; rfl
 have o0 : wdOk [c0, c1, c2, 0, 0, 0] = true := wdOk_iff.2 (by omega)
 have o1 : wdOk [0, d0, d1, d2, 0, 0] = true := wdOk_iff.2 (by omega)
 have v0 : wdVal [0, 0, 0, 0, 0, 0] + wdVal [c0, c1, c2, 0, 0, 0] = x0 * (y0 + 4294967296 * y1) := by rw [← vc]; unfold wdVal; simp only; omega
 have v1 : x0 * (y0 + 4294967296 * y1) + wdVal [0, d0, d1, d2, 0, 0] = wdVal [x0, x1, x2, x3, x4, x5] * wdVal [y0, y1, 0, y3, y4, y5] := by
  rw [ex2, ey2, Int.add_mul, Int.mul_assoc, ← vd]; unfold wdVal; simp only; omega
 rw [e0, e1, v0]
 refine wdR_ok (by rw [wdOk_zero, o0]; rfl) (wdR_ok (by rw [o1, wd_okd]; rfl) ?_)
 rw [wd_val (by omega), v1]
 unfold wdMean
 rw [wd_sign]
 have hp : 0 ≤ wdVal [x0, x1, x2, x3, x4, x5] * wdVal [y0, y1, 0, y3, y4, y5] ∧ wdVal [x0, x1, x2, x3, x4, x5] * wdVal [y0, y1, 0, y3, y4, y5] < 6277101735386680763835789423207666416102355444464034512896 := by
  refine ⟨Int.mul_nonneg (by omega) (by omega), ?_⟩
  have := Int.mul_le_mul (show wdVal [x0, x1, x2, x3, x4, x5] ≤ 18446744073709551615 by omega) (show wdVal [y0, y1, 0, y3, y4, y5] ≤ 18446744073709551615 by omega) (by omega) (by omega)
  exact Int.lt_of_le_of_lt this (by decide)
 generalize wdVal [x0, x1, x2, x3, x4, x5] * wdVal [y0, y1, 0, y3, y4, y5] = n at *
 refine kB (fun g => ?_) fun g => ?_
 · rw [if_pos g]
   refine wd_brc (wd_okd _) ?_
   rintro _ rfl
   rw [wd_val hp]
   refine wdW_eq ?_ ?_
   · by_cases z : n = 0
     · subst z; rfl
     · rw [decide_eq_false z, decide_eq_true (by omega)]; rfl
   · unfold wdAb; split <;> omega
 · rw [if_neg (by rw [g]; decide)]
   refine wdW_eq ?_ ?_
   · rw [decide_eq_false (by omega)]
   · unfold wdAb; rw [if_neg (by omega)]⟩
open A in
@[irreducible] def wdV (T : Tab) (g : Nat) (args : List AV) (K : AV → Prop) : Prop := afv PA Tryz.prog T noLoops 10 g args K
def wdHalf (n : Int) : Bool := decide (-3138550867693340381917894711603833208051177722232017256448 ≤ n ∧ n ≤ 3138550867693340381917894711603833208051177722232017256448)
def wdFl (a b : Int) : Int := if b < 0 then (-a) / (-b) else a / b
noncomputable def wdOverC (s : Bool) (l : List Int) (t : Bool) (m : List Int) : Bool := wdPlusC s l t m && (wdHalf (wdMean s l) && wdHalf (wdMean t m) && !decide (wdMean t m = 0))
open A in
noncomputable def wdOver : Con := wd2W fun s l t m => (wdOverC s l t m, wdW (wdFl (wdMean s l) (wdMean t m)))
open A in
noncomputable def wdU : Tab := tab [(98, wdOf), (97, wdPlus), (136, wdZero), (111, wdTimes), (110, wdOver), (96, wdSmall)]
open A in
noncomputable def wdM (t : Bool) (m : List Int) (C : Bool → Prop) : Prop := brc (!t) (brc (wdOk m) (∀ z : Bool, z = decide (wdVal m = 0) → C (!z)) False) (C false)
open A in
noncomputable def wdS (u : Bool) (n : List Int) (K : AV → Prop) : Prop := brc (wdOk n) (∀ x : Int, x = (wdOut (wdMean u n)).1 → ∀ y : Int, y = (wdOut (wdMean u n)).2 → K (.tup [.int .i64 x, .int .i64 y])) False
noncomputable def wdTimesC (s : Bool) (l : List Int) (t : Bool) (m : List Int) : Bool := wdOk l && wdOk m && (decide (wdVal l < 18446744073709551616) && decide (wdVal m < 18446744073709551616))
open A in
set_option maxRecDepth 100000 in
theorem wdFAdd_vc (a b : Int) (K : AV → Prop) : wdV wdU 90 [.int .i64 a, .int .i64 b] K =
 wdQ (wdIn a) a fun s l => wdQ (wdIn b) b fun t m => wdQ (wdPlusC s l t m) (wdMean s l + wdMean t m) fun u n => wdS u n K := by kernel_rfl
open A in
set_option maxRecDepth 100000 in
theorem wdFMul_vc (a b : Int) (K : AV → Prop) : wdV wdU 73 [.int .i64 a, .int .i64 b] K =
 wdQ (wdIn a) a fun s l => wdQ (wdIn b) b fun t m => wdQ (wdTimesC s l t m) (wdMean s l * wdMean t m) fun u n => wdS u n K := by kernel_rfl
open A in
set_option maxRecDepth 100000 in
theorem wdFDiv_vc (a b : Int) (K : AV → Prop) : wdV wdU 70 [.int .i64 a, .int .i64 b] K =
 brc (b == 0) (K (.tup [.int .i64 0, .int .i64 11])) (wdQ (wdIn a) a fun s l => wdQ (wdIn b) b fun t m => wdQ (wdOverC s l t m) (wdFl (wdMean s l) (wdMean t m)) fun u n => wdS u n K) := by kernel_rfl
open A in
set_option maxRecDepth 100000 in
theorem wdFMod_vc (a b : Int) (K : AV → Prop) : wdV wdU 71 [.int .i64 a, .int .i64 b] K =
 brc (b == 0) (K (.tup [.int .i64 0, .int .i64 11])) (wdQ (wdIn a) a fun s l => wdQ (wdIn b) b fun t m => wdQ (wdIn a) a fun s' l' => wdQ (wdIn b) b fun t' m' => wdQ (wdOverC s' l' t' m') (wdFl (wdMean s' l') (wdMean t' m')) fun u n =>
  wdQ (wdTimesC t m u n) (wdMean t m * wdMean u n) fun v p => wdM v p fun x => wdQ (wdPlusC s l x p) (wdMean s l + wdMean x p) fun y q => wdS y q K) := by kernel_rfl
end Go.Proofs.YtimgphlfaninnaaGreat.P
