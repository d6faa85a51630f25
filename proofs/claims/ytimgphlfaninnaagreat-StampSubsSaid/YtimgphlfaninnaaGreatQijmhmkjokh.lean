import Derived.Test.YtimgphlfaninnaaGreatQoobaoafdnj
import Derived.Test.YtimgphlfaninnaaGreatQicghmlnfdo
import Derived.Test.YtimgphlfaninnaaGreatQagmcdoinkp
import Derived.Test.YtimgphlfaninnaaGreatQhninfjcbop
import Derived.Test.YtimgphlfaninnaaGreatQpcfflmhgam
import Derived.Test.YtimgphlfaninnaaGreatQghjfngbobd
import Derived.Test.YtimgphlfaninnaaGreatQaneaoahjfn
import Derived.Test.YtimgphlfaninnaaGreatQlgomohghol
import Derived.Test.YtimgphlfaninnaaGreatQjjckkmidhd
import Derived.Test.YtimgphlfaninnaaGreatQjbegmocjfm
namespace Go.Proofs.YtimgphlfaninnaaGreat.P
open Go.RowKit Go.Proofs.YtimgphlfaninnaaGreatW.PrintWords Go.Proofs.YtimgphlfaninnaaGreatW.PrintLast Go.Proofs.YtimgphlfaninnaaGreatW.PrintMore
open Go.Proofs.YtimgphlfaninnaaGreat.A
 attribute [local go_sem] jQ jP zB zC jE jD jO jN
set_option linter.unusedVariables false
set_option linter.unusedSimpArgs false
def bN.j0 : Nat → Int → Int → Int → Int → Bool → Option (Int)
 | 0, _, _, _, _, _ => none
 | k + 1, x0, x1, x2, x3, x21 => if x21 = true then (some (-1)) else (if x0 > x1 then (some 1) else (if x2 > x3 then (some 1) else (some 0)))
def bN.f (k : Nat) (a0 : Int) (a1 : Int) (a2 : Int) (a3 : Int) : Option (Int) := if a0 < a1 then (bN.j0 k a0 a1 a2 a3 true) else (if a0 = a1 then (bN.j0 k a0 a1 a2 a3 (decide (a2 < a3))) else (bN.j0 k a0 a1 a2 a3 false))
set_option maxHeartbeats 8000000 in
set_option maxRecDepth 100000 in
theorem bN.calls (k : Nat) (a0 : Int) (a1 : Int) (a2 : Int) (a3 : Int) (r : Int) (w : World) (h : bN.f k a0 a1 a2 a3 = some r) :
 Calls Tryz.prog 105 #[.int .i64 a0, .int .i64 a1, .int .i64 a2, .int .i64 a3] w fun e w' => e = .returned (.int .i64 r) ∧ Drawn0 w w' := by
 have H : (if a0 < a1 then (bN.j0 k a0 a1 a2 a3 true) else (if a0 = a1 then (bN.j0 k a0 a1 a2 a3 (decide (a2 < a3))) else (bN.j0 k a0 a1 a2 a3 false))) = some r := h
 clear h
 have HC5 := Aside0.mk H
 clear H
 go_enter Tryz.func105, Tryz.ntmps105
 go_upto_region 1 with (fail)
 go_cut [21] (fun v21 wc => ∃ (kq : Nat) (x21_4 : Bool), v21 = .bool x21_4 ∧ Aside0 (bN.j0 kq a0 a1 a2 a3 x21_4 = some r) ∧ Aside0 (kq ≤ k) ∧ Drawn0 w wc)
 case first =>
  have H := HC5.out
  clear HC5
  by_cases c6 : a0 < a1
  · rw [if_pos c6] at H
    have c6b0 : decide (a0 < a1) = true := decide_eq_true c6
    clear c6
    (first | rw [c6b0] | (simp only [qJ, qL]; rw [c6b0]) | skip)
    have H' := Aside0.mk H
    clear H
    go_wp2
    go_meet
    case rel => exact ⟨_, (true), (by first | rfl | (simp; done) | (simp [*]; done)), H', ⟨by first | omega | exact Nat.le_refl _⟩, by repeat (first | exact Drawn0.refl _ | apply Drawn0.step)⟩
  · rw [if_neg c6] at H
    have c6b0 : decide (a0 < a1) = false := decide_eq_false c6
    clear c6
    (first | rw [c6b0] | (simp only [qJ, qL]; rw [c6b0]) | skip)
    by_cases c7 : a0 = a1
    · rw [if_pos c7] at H
      have c7b0 : (a0 == a1) = true := beq_iff_eq.mpr c7
      have c7b1 : (a0 != a1) = false := bne_eq_false_iff_eq.mpr c7
      clear c7
      have H' := Aside0.mk H
      clear H
      go_wp2
      go_meet
      case rel => exact ⟨_, (decide (a2 < a3)), (by first | rfl | (simp; done) | (simp [*]; done)), H', ⟨by first | omega | exact Nat.le_refl _⟩, by repeat (first | exact Drawn0.refl _ | apply Drawn0.step)⟩
    · rw [if_neg c7] at H
      have c7b0 : (a0 == a1) = false := beq_eq_false_iff_ne.mpr c7
      have c7b1 : (a0 != a1) = true := bne_iff_ne.mpr c7
      have H' := Aside0.mk H
      clear H
      go_wp2
      go_meet
      case rel => exact ⟨_, (false), (by first | rfl | (simp; done) | (simp [*]; done)), H', ⟨by first | omega | exact Nat.le_refl _⟩, by repeat (first | exact Drawn0.refl _ | apply Drawn0.step)⟩
 case rest =>
  clear HC5
  try clear c1
  try clear p2
  try clear c6
  try clear c6b0
  try clear c7
  try clear c7b0
  try clear c7b1
  obtain ⟨kq, x21_4, rfl, HA, HJ4, ⟨mc4, rfl⟩⟩ := hcut
  cases kq with
  | zero => exact absurd HA.out (by simp [bN.j0])
  | succ kj4 =>
   have H := HA.out
   clear HA
   simp only [bN.j0] at H
   by_cases c8 : x21_4 = true
   · subst c8
     have H1 : (some (-1)) = some r := by rw [if_pos rfl] at H; exact H
     clear H
     have H := H1
     clear H1
     obtain rfl := Option.some.inj H
     go_wp2
     go_ret
     exact ⟨by first | rfl | (simp; done) | (simp [*]; done), by repeat (first | exact Drawn0.refl _ | apply Drawn0.step)⟩
   · replace c8 := Bool.eq_false_iff.mpr c8
     subst c8
     have H1 : (if a0 > a1 then (some 1) else (if a2 > a3 then (some 1) else (some 0))) = some r := by rw [if_neg (show ¬ (false = true) by decide)] at H; exact H
     clear H
     have H := H1
     clear H1
     by_cases c9 : a0 > a1
     · rw [if_pos c9] at H
       have c9b0 : decide (a1 < a0) = true := decide_eq_true c9
       clear c9
       obtain rfl := Option.some.inj H
       go_wp2
       go_ret
       exact ⟨by first | rfl | (simp; done) | (simp [*]; done), by repeat (first | exact Drawn0.refl _ | apply Drawn0.step)⟩
     · rw [if_neg c9] at H
       have c9b0 : decide (a1 < a0) = false := decide_eq_false c9
       clear c9
       by_cases c10 : a2 > a3
       · rw [if_pos c10] at H
         have c10b0 : decide (a3 < a2) = true := decide_eq_true c10
         clear c10
         obtain rfl := Option.some.inj H
         go_wp2
         go_ret
         exact ⟨by first | rfl | (simp; done) | (simp [*]; done), by repeat (first | exact Drawn0.refl _ | apply Drawn0.step)⟩
       · rw [if_neg c10] at H
         have c10b0 : decide (a3 < a2) = false := decide_eq_false c10
         clear c10
         obtain rfl := Option.some.inj H
         go_wp2
         go_ret
         exact ⟨by first | rfl | (simp; done) | (simp [*]; done), by repeat (first | exact Drawn0.refl _ | apply Drawn0.step)⟩
noncomputable def bN.con (k : Nat) : Con
 | [.int .i64 a0, .int .i64 a1, .int .i64 a2, .int .i64 a3] => some ((bN.f k a0 a1 a2 a3).isSome, .int .i64 (gd (bN.f k a0 a1 a2 a3)))
 | _ => none
set_option maxRecDepth 100000 in
theorem bN.cok (k : Nat) : COk Tryz.prog 105 (bN.con k) := by
 intro args p v hc hp w A hA
 unfold bN.con at hc
 split at hc
 · rename_i a0 a1 a2 a3
   simp only [Option.some.injEq, Prod.mk.injEq] at hc
   obtain ⟨rfl, rfl⟩ := hc
   rcases hf : bN.f k a0 a1 a2 a3 with _ | r
   · rw [hf] at hp; cases hp
   obtain rfl : A = [.int .i64 a0, .int .i64 a1, .int .i64 a2, .int .i64 a3] := by simpa [kG, kK, kL, kH, kS, kM, jR] using hA
   exact kT (fn := Tryz.f105) Tryz.func105 (by kernel_rfl) (by kernel_rfl) (bN.calls _ _ _ _ _ _ w hf) (fun _ => by simp [kD, kG, kK, kL, kH, kS, kM, bU]) (fun _ h => h.below)
 · cases hc
def jT.f (k : Nat) (a0_0 : Int) (a0_1 : Int) (a1_0 : Int) (a1_1 : Int) : Option (Int) := (kA.f k a0_0 a0_1).bind fun t1007 => (if t1007 = true then ((kA.f k a1_0 a1_1).bind fun t1008 => (if t1008 = true then ((bN.f k a0_0 a1_0 a0_1 a1_1).bind fun t1009 => (some t1009)) else (some 0))) else (some 0))
set_option maxRecDepth 100000 in
theorem jT.vc (k : Nat) (a0_0 : Int) (a0_1 : Int) (a1_0 : Int) (a1_1 : Int) (K : AV → Prop) : afv PA Tryz.prog (tab [(30, kA.con k), (105, bN.con k)]) noLoops 2 58 [.agg [.int .i64 a0_0, .int .i64 a0_1], .agg [.int .i64 a1_0, .int .i64 a1_1]] K = (brc (Option.isSome (kA.f k a0_0 a0_1)) (∀ (m0 : Bool), m0 = gd (kA.f k a0_0 a0_1) → brc (!m0) (K (AV.int IntKind.i64 0)) (brc (Option.isSome (kA.f k a1_0 a1_1)) (∀ (m1 : Bool), m1 = gd (kA.f k a1_0 a1_1) → brc (!m1) (K (AV.int IntKind.i64 0)) (brc (Option.isSome (bN.f k a0_0 a1_0 a0_1 a1_1)) (∀ (m2 : Int), m2 = gd (bN.f k a0_0 a1_0 a0_1 a1_1) → K (AV.int IntKind.i64 m2)) False)) False)) False) := by kernel_rfl
set_option maxHeartbeats 1000000 in
set_option maxRecDepth 100000 in
theorem jT.calls (k : Nat) (a0_0 : Int) (a0_1 : Int) (a1_0 : Int) (a1_1 : Int) (r : Int) (w : World) (h : jT.f k a0_0 a0_1 a1_0 a1_1 = some r) :
 Calls Tryz.prog 58 #[.agg #[.int .i64 a0_0, .int .i64 a0_1], .agg #[.int .i64 a1_0, .int .i64 a1_1]] w fun e w' => e = .returned (.int .i64 r) ∧ Below w.heap.size w w' := by
 refine bZ (A := [.agg #[.int .i64 a0_0, .int .i64 a0_1], .agg #[.int .i64 a1_0, .int .i64 a1_1]]) (v := .int .i64 r) (kP (kA.cok k) (kP (bN.cok k) (jV))) ((jT.vc k a0_0 a0_1 a1_0 a1_1 _).mpr ?_) (by simp [kG, kK, kL, kH, kS, kM, jR]) (fun ρ V' hV => by simpa [kG, kK, kL, kH, kS, kM, bU] using hV)
 unfold jT.f at h
 (try simp only [bne, Option.bind_eq_some_iff, bS] at h)
 (try simp only [bne, zM, wrap_i64])
 first
  | grind (splits := 60) [kD]
  | ((repeat' (first | (have or_ : Or _ _ := h; clear or_; rcases h with h | h) | (have or_ : Exists _ := h; clear or_; obtain ⟨_, h⟩ := h) | (have or_ : And _ _ := h; clear or_; obtain ⟨hq_, h⟩ := h))) <;> (try simp only [Option.some.injEq, Prod.mk.injEq, reduceCtorEq] at h) <;> (try subst_vars) <;> first | (simp_all [kD] <;> (try omega) <;> done) | grind (splits := 60) [kD])
  | (intros; subst_vars; simp_all [kD]; done)
def zL.f (a0_0 : Int) (a0_1 : Int) (a0_2 : Int) (a0_3 : Int) : Option (Int × Int × Int × Int × Int) := (jB.f a0_0 a0_1 a0_2 a0_3).bind fun t1012 => (if t1012 = true then (some (wrap64 (-a0_0), wrap64 (-a0_1), wrap64 (-a0_2), wrap64 (-a0_3), 0)) else (some (0, 0, 0, 0, 1)))
set_option maxRecDepth 100000 in
theorem zL.vc (a0_0 : Int) (a0_1 : Int) (a0_2 : Int) (a0_3 : Int) (K : AV → Prop) : afv PA Tryz.prog (tab [(45, jB.con)]) noLoops 2 59 [.agg [.int .i64 a0_0, .int .i64 a0_1, .int .i64 a0_2, .int .i64 a0_3]] K = (brc (Option.isSome (jB.f a0_0 a0_1 a0_2 a0_3)) (∀ (m0 : Bool), m0 = gd (jB.f a0_0 a0_1 a0_2 a0_3) → brc (!m0) (K (AV.tup [AV.agg [AV.int IntKind.i64 0, AV.int IntKind.i64 0, AV.int IntKind.i64 0, AV.int IntKind.i64 0], AV.int IntKind.i64 1])) (K (AV.tup [AV.agg [AV.int IntKind.i64 (IntKind.wrap IntKind.i64 (0 - a0_0)), AV.int IntKind.i64 (IntKind.wrap IntKind.i64 (0 - a0_1)), AV.int IntKind.i64 (IntKind.wrap IntKind.i64 (0 - a0_2)), AV.int IntKind.i64 (IntKind.wrap IntKind.i64 (0 - a0_3))], AV.int IntKind.i64 0]))) False) := by kernel_rfl
set_option maxHeartbeats 1000000 in
set_option maxRecDepth 100000 in
theorem zL.calls (a0_0 : Int) (a0_1 : Int) (a0_2 : Int) (a0_3 : Int) (r1 : Int) (r2 : Int) (r3 : Int) (r4 : Int) (r5 : Int) (w : World) (h : zL.f a0_0 a0_1 a0_2 a0_3 = some (r1, r2, r3, r4, r5)) :
 Calls Tryz.prog 59 #[.agg #[.int .i64 a0_0, .int .i64 a0_1, .int .i64 a0_2, .int .i64 a0_3]] w fun e w' => e = .returned (.tuple #[.agg #[.int .i64 r1, .int .i64 r2, .int .i64 r3, .int .i64 r4], .int .i64 r5]) ∧ Below w.heap.size w w' := by
 refine bZ (A := [.agg #[.int .i64 a0_0, .int .i64 a0_1, .int .i64 a0_2, .int .i64 a0_3]]) (v := .tup [.agg [.int .i64 r1, .int .i64 r2, .int .i64 r3, .int .i64 r4], .int .i64 r5]) (kP (jB.cok) (jV)) ((zL.vc a0_0 a0_1 a0_2 a0_3 _).mpr ?_) (by simp [kG, kK, kL, kH, kS, kM, jR]) (fun ρ V' hV => by simpa [kG, kK, kL, kH, kS, kM, bU] using hV)
 unfold zL.f at h
 (try simp only [bne, Option.bind_eq_some_iff, bS] at h)
 (try simp only [bne, zM, wrap_i64])
 first
  | grind (splits := 60) [kD]
  | ((repeat' (first | (have or_ : Or _ _ := h; clear or_; rcases h with h | h) | (have or_ : Exists _ := h; clear or_; obtain ⟨_, h⟩ := h) | (have or_ : And _ _ := h; clear or_; obtain ⟨hq_, h⟩ := h))) <;> (try simp only [Option.some.injEq, Prod.mk.injEq, reduceCtorEq] at h) <;> (try subst_vars) <;> first | (simp_all [kD] <;> (try omega) <;> done) | grind (splits := 60) [kD])
  | (intros; subst_vars; simp_all [kD]; done)
def jM.f (k : Nat) (a0_0 : Int) (a0_1 : Int) : Option (Int × Int × Int × Int) := (kN.f k a0_0 a0_1).bind fun t1014 => (if t1014 = true then (if a0_0 = 0 then ((kB.f k a0_1).bind fun bt1015 => (some (bt1015.1, bt1015.2.1, bt1015.2.2.1, bt1015.2.2.2))) else (some (0, 0, 0, 10))) else (some (0, 0, 0, 1)))
set_option maxRecDepth 100000 in
theorem jM.vc (k : Nat) (a0_0 : Int) (a0_1 : Int) (K : AV → Prop) : afv PA Tryz.prog (tab [(106, kN.con k), (107, kB.con k)]) noLoops 2 61 [.agg [.int .i64 a0_0, .int .i64 a0_1]] K = (brc (Option.isSome (kN.f k a0_0 a0_1)) (∀ (m0 : Bool), m0 = gd (kN.f k a0_0 a0_1) → brc (!m0) (K (AV.tup [AV.int IntKind.i64 0, AV.int IntKind.i64 0, AV.int IntKind.i64 0, AV.int IntKind.i64 1])) (brc (a0_0 != 0) (K (AV.tup [AV.int IntKind.i64 0, AV.int IntKind.i64 0, AV.int IntKind.i64 0, AV.int IntKind.i64 10])) (brc (Option.isSome (kB.f k a0_1)) (∀ (m1 : Int), m1 = Prod.fst (gd (kB.f k a0_1)) → ∀ (m2 : Int), m2 = Prod.fst (Prod.snd (gd (kB.f k a0_1))) → ∀ (m3 : Int), m3 = Prod.fst (Prod.snd (Prod.snd (gd (kB.f k a0_1)))) → ∀ (m4 : Int), m4 = Prod.snd (Prod.snd (Prod.snd (gd (kB.f k a0_1)))) → K (AV.tup [AV.int IntKind.i64 m1, AV.int IntKind.i64 m2, AV.int IntKind.i64 m3, AV.int IntKind.i64 m4])) False))) False) := by kernel_rfl
set_option maxHeartbeats 1000000 in
set_option maxRecDepth 100000 in
theorem jM.calls (k : Nat) (a0_0 : Int) (a0_1 : Int) (r1 : Int) (r2 : Int) (r3 : Int) (r4 : Int) (w : World) (h : jM.f k a0_0 a0_1 = some (r1, r2, r3, r4)) :
 Calls Tryz.prog 61 #[.agg #[.int .i64 a0_0, .int .i64 a0_1]] w fun e w' => e = .returned (.tuple #[.int .i64 r1, .int .i64 r2, .int .i64 r3, .int .i64 r4]) ∧ Below w.heap.size w w' := by
 refine bZ (A := [.agg #[.int .i64 a0_0, .int .i64 a0_1]]) (v := .tup [.int .i64 r1, .int .i64 r2, .int .i64 r3, .int .i64 r4]) (kP (kN.cok k) (kP (kB.cok k) (jV))) ((jM.vc k a0_0 a0_1 _).mpr ?_) (by simp [kG, kK, kL, kH, kS, kM, jR]) (fun ρ V' hV => by simpa [kG, kK, kL, kH, kS, kM, bU] using hV)
 unfold jM.f at h
 (try simp only [bne, Option.bind_eq_some_iff, bS] at h)
 (try simp only [bne, zM, wrap_i64])
 first
  | grind (splits := 60) [kD]
  | ((repeat' (first | (have or_ : Or _ _ := h; clear or_; rcases h with h | h) | (have or_ : Exists _ := h; clear or_; obtain ⟨_, h⟩ := h) | (have or_ : And _ _ := h; clear or_; obtain ⟨hq_, h⟩ := h))) <;> (try simp only [Option.some.injEq, Prod.mk.injEq, reduceCtorEq] at h) <;> (try subst_vars) <;> first | (simp_all [kD] <;> (try omega) <;> done) | grind (splits := 60) [kD])
  | (intros; subst_vars; simp_all [kD]; done)
open A in
noncomputable def rgR (k : Nat) : Con
 | [.agg [.int .i64 x, .int .i64 y]] => some ((kA.f k x y).isSome, .bool (gd (kA.f k x y)))
 | _ => none
set_option linter.unusedSimpArgs false in
open A in
theorem rgR_ok (k : Nat) : COk Tryz.prog 30 (rgR k) := by
 intro args p v hc hp w A hA
 unfold rgR at hc
 split at hc
 · rename_i x y
   simp only [Option.some.injEq, Prod.mk.injEq] at hc
   obtain ⟨rfl, rfl⟩ := hc
   rcases hf : kA.f k x y with _ | r1
   · rw [hf] at hp; cases hp
   obtain rfl : A = [.agg #[.int .i64 x, .int .i64 y]] := by simpa [kG, kK, kL, kH, kS, kM, jR] using hA
   exact kT (fn := Tryz.f30) Tryz.func30 (by kernel_rfl) (by kernel_rfl) (kA.calls _ _ _ _ w hf) (fun _ => by simp [kD, kG, kK, kL, kH, kS, kM, bU]) (fun _ h => h)
 · cases hc
open A in
noncomputable def rgC (k : Nat) : Con
 | [.agg [.int .i64 x, .int .i64 y], .agg [.int .i64 z, .int .i64 t]] => some ((jT.f k x y z t).isSome, .int .i64 (gd (jT.f k x y z t)))
 | _ => none
set_option linter.unusedSimpArgs false in
open A in
theorem rgC_ok (k : Nat) : COk Tryz.prog 58 (rgC k) := by
 intro args p v hc hp w A hA
 unfold rgC at hc
 split at hc
 · rename_i x y z t
   simp only [Option.some.injEq, Prod.mk.injEq] at hc
   obtain ⟨rfl, rfl⟩ := hc
   rcases hf : jT.f k x y z t with _ | r1
   · rw [hf] at hp; cases hp
   obtain rfl : A = [.agg #[.int .i64 x, .int .i64 y], .agg #[.int .i64 z, .int .i64 t]] := by simpa [kG, kK, kL, kH, kS, kM, jR] using hA
   exact kT (fn := Tryz.f58) Tryz.func58 (by kernel_rfl) (by kernel_rfl) (jT.calls _ _ _ _ _ _ w hf) (fun _ => by simp [kD, kG, kK, kL, kH, kS, kM, bU]) (fun _ h => h)
 · cases hc
open A in
noncomputable def rgF (k : Nat) : Con
 | [.agg [.int .i64 x, .int .i64 y]] => some ((kZ.f k x y).isSome, .tup [.agg [.int .i64 (gd (kZ.f k x y)).1, .int .i64 (gd (kZ.f k x y)).2.1], .int .i64 (gd (kZ.f k x y)).2.2.1, .int .i64 (gd (kZ.f k x y)).2.2.2])
 | _ => none
set_option linter.unusedSimpArgs false in
open A in
theorem rgF_ok (k : Nat) : COk Tryz.prog 60 (rgF k) := by
 intro args p v hc hp w A hA
 unfold rgF at hc
 split at hc
 · rename_i x y
   simp only [Option.some.injEq, Prod.mk.injEq] at hc
   obtain ⟨rfl, rfl⟩ := hc
   rcases hf : kZ.f k x y with _ | ⟨r1, r2, r3, r4⟩
   · rw [hf] at hp; cases hp
   obtain rfl : A = [.agg #[.int .i64 x, .int .i64 y]] := by simpa [kG, kK, kL, kH, kS, kM, jR] using hA
   exact kT (fn := Tryz.f60) Tryz.func60 (by kernel_rfl) (by kernel_rfl) (kZ.calls _ _ _ _ _ _ _ w hf) (fun _ => by simp [kD, kG, kK, kL, kH, kS, kM, bU]) (fun _ h => h)
 · cases hc
open A in
noncomputable def rgP (k : Nat) : Con
 | [.agg [.int .i64 x, .int .i64 y]] => some ((jM.f k x y).isSome, .tup [.int .i64 (gd (jM.f k x y)).1, .int .i64 (gd (jM.f k x y)).2.1, .int .i64 (gd (jM.f k x y)).2.2.1, .int .i64 (gd (jM.f k x y)).2.2.2])
 | _ => none
set_option linter.unusedSimpArgs false in
open A in
theorem rgP_ok (k : Nat) : COk Tryz.prog 61 (rgP k) := by
 intro args p v hc hp w A hA
 unfold rgP at hc
 split at hc
 · rename_i x y
   simp only [Option.some.injEq, Prod.mk.injEq] at hc
   obtain ⟨rfl, rfl⟩ := hc
   rcases hf : jM.f k x y with _ | ⟨r1, r2, r3, r4⟩
   · rw [hf] at hp; cases hp
   obtain rfl : A = [.agg #[.int .i64 x, .int .i64 y]] := by simpa [kG, kK, kL, kH, kS, kM, jR] using hA
   exact kT (fn := Tryz.f61) Tryz.func61 (by kernel_rfl) (by kernel_rfl) (jM.calls _ _ _ _ _ _ _ w hf) (fun _ => by simp [kD, kG, kK, kL, kH, kS, kM, bU]) (fun _ h => h)
 · cases hc
open A in
noncomputable def rgA (k : Nat) : Con
 | [.agg [.int .i64 x, .int .i64 y], .agg [.int .i64 a, .int .i64 b, .int .i64 c, .int .i64 d]] => some ((jL.f k x y a b c d).isSome, .tup [.agg [.int .i64 (gd (jL.f k x y a b c d)).1, .int .i64 (gd (jL.f k x y a b c d)).2.1], .int .i64 (gd (jL.f k x y a b c d)).2.2])
 | _ => none
set_option linter.unusedSimpArgs false in
open A in
theorem rgA_ok (k : Nat) : COk Tryz.prog 18 (rgA k) := by
 intro args p v hc hp w A hA
 unfold rgA at hc
 split at hc
 · rename_i x y a b c d
   simp only [Option.some.injEq, Prod.mk.injEq] at hc
   obtain ⟨rfl, rfl⟩ := hc
   rcases hf : jL.f k x y a b c d with _ | ⟨r1, r2, r3⟩
   · rw [hf] at hp; cases hp
   obtain rfl : A = [.agg #[.int .i64 x, .int .i64 y], .agg #[.int .i64 a, .int .i64 b, .int .i64 c, .int .i64 d]] := by simpa [kG, kK, kL, kH, kS, kM, jR] using hA
   exact kT (fn := Tryz.f18) Tryz.func18 (by kernel_rfl) (by kernel_rfl) (jL.calls _ _ _ _ _ _ _ _ _ _ w hf) (fun _ => by simp [kD, kG, kK, kL, kH, kS, kM, bU]) (fun _ h => h)
 · cases hc
open A in
noncomputable def rgS (k : Nat) : Con
 | [.agg [.int .i64 x, .int .i64 y], .agg [.int .i64 z, .int .i64 t]] => some ((kR.f k x y z t).isSome, .tup [.agg [.int .i64 (gd (kR.f k x y z t)).1, .int .i64 (gd (kR.f k x y z t)).2.1, .int .i64 (gd (kR.f k x y z t)).2.2.1, .int .i64 (gd (kR.f k x y z t)).2.2.2.1], .int .i64 (gd (kR.f k x y z t)).2.2.2.2])
 | _ => none
set_option linter.unusedSimpArgs false in
open A in
theorem rgS_ok (k : Nat) : COk Tryz.prog 22 (rgS k) := by
 intro args p v hc hp w A hA
 unfold rgS at hc
 split at hc
 · rename_i x y z t
   simp only [Option.some.injEq, Prod.mk.injEq] at hc
   obtain ⟨rfl, rfl⟩ := hc
   rcases hf : kR.f k x y z t with _ | ⟨r1, r2, r3, r4, r5⟩
   · rw [hf] at hp; cases hp
   obtain rfl : A = [.agg #[.int .i64 x, .int .i64 y], .agg #[.int .i64 z, .int .i64 t]] := by simpa [kG, kK, kL, kH, kS, kM, jR] using hA
   exact kT (fn := Tryz.f22) Tryz.func22 (by kernel_rfl) (by kernel_rfl) (kR.calls _ _ _ _ _ _ _ _ _ _ w hf) (fun _ => by simp [kD, kG, kK, kL, kH, kS, kM, bU]) (fun _ h => h)
 · cases hc
open A in
noncomputable def rgG : Con
 | [.agg [.int .i64 x, .int .i64 y, .int .i64 z, .int .i64 t]] => some ((zL.f x y z t).isSome, .tup [.agg [.int .i64 (gd (zL.f x y z t)).1, .int .i64 (gd (zL.f x y z t)).2.1, .int .i64 (gd (zL.f x y z t)).2.2.1, .int .i64 (gd (zL.f x y z t)).2.2.2.1], .int .i64 (gd (zL.f x y z t)).2.2.2.2])
 | _ => none
set_option linter.unusedSimpArgs false in
open A in
theorem rgG_ok : COk Tryz.prog 59 (rgG) := by
 intro args p v hc hp w A hA
 unfold rgG at hc
 split at hc
 · rename_i x y z t
   simp only [Option.some.injEq, Prod.mk.injEq] at hc
   obtain ⟨rfl, rfl⟩ := hc
   rcases hf : zL.f x y z t with _ | ⟨r1, r2, r3, r4, r5⟩
   · rw [hf] at hp; cases hp
   obtain rfl : A = [.agg #[.int .i64 x, .int .i64 y, .int .i64 z, .int .i64 t]] := by simpa [kG, kK, kL, kH, kS, kM, jR] using hA
   exact kT (fn := Tryz.f59) Tryz.func59 (by kernel_rfl) (by kernel_rfl) (zL.calls _ _ _ _ _ _ _ _ _ w hf) (fun _ => by simp [kD, kG, kK, kL, kH, kS, kM, bU]) (fun _ h => h)
 · cases hc
open A in
def rgX : Con := fun _ => some (false, .undef)
open A in
theorem rgX_ok (g : FuncId) : COk Tryz.prog g rgX := by
 intro args p v hc hp
 simp only [rgX, Option.some.injEq, Prod.mk.injEq] at hc
 rw [← hc.1] at hp; cases hp
open A in
def rgEnd (k : Nat) (x y z t q : Int) (K : AV → Prop) : Prop := sgQ3 (jL.f k z t 0 q 0 0) fun a b _ => sgQ5 (kR.f k x y a b) fun i _ c d e => brc (e != 0) (sgK5 K 0 0 0 0 e) (sgK5 K i q c d 0)
open A in
def rgRnd (k : Nat) (x y z t q : Int) (K : AV → Prop) (R : Prop) : Prop := brc (decide (q > 0)) (sgQ3 (jL.f k z t 0 q 0 0) fun a b e => brc (e == 0) (sgQ1 (jT.f k a b x y) fun c => brc (decide (c ≤ 0)) (rgEnd k x y z t q K) R) R) (rgEnd k x y z t q K)
open A in
def rgAge (k : Nat) (x y z t : Int) (K : AV → Prop) (R : Prop) : Prop := sgQb (kA.f k x y) fun m0 => brc (!m0) (sgQ5 (kR.f k x y z t) (sgK5 K)) (sgQb (kA.f k z t) fun m1 => brc (!m1) (sgQ5 (kR.f k x y z t) (sgK5 K)) (brc (x != 0) (sgQ5 (kR.f k x y z t) (sgK5 K)) (brc (z != 0) (sgQ5 (kR.f k x y z t) (sgK5 K)) (sgQ1 (jT.f k x y z t) fun m2 => brc (decide (m2 < 0)) R (sgQ4 (kZ.f k x y) fun m3 m4 _ _ => sgQ4 (kZ.f k z t) fun m7 m8 _ _ => sgQ4 (jM.f k m3 m4) fun m11 m12 _ _ => sgQ4 (jM.f k m7 m8) fun m15 m16 _ _ => rgRnd k x y z t (IntKind.wrap .i64 (IntKind.wrap .i64 (IntKind.wrap .i64 (IntKind.wrap .i64 (12 * IntKind.wrap .i64 (m11 - m15)) + m12) - m16) + 1)) K (rgRnd k x y z t (IntKind.wrap .i64 ((IntKind.wrap .i64 (IntKind.wrap .i64 (IntKind.wrap .i64 (IntKind.wrap .i64 (12 * IntKind.wrap .i64 (m11 - m15)) + m12) - m16) + 1)) - 1)) K (rgRnd k x y z t (IntKind.wrap .i64 (IntKind.wrap .i64 ((IntKind.wrap .i64 (IntKind.wrap .i64 (IntKind.wrap .i64 (IntKind.wrap .i64 (12 * IntKind.wrap .i64 (m11 - m15)) + m12) - m16) + 1)) - 1) - 1)) K False)))))))
def rageEnd (k : Nat) (x y z t q : Int) : Option (Int × Int × Int × Int × Int) := (jL.f k z t 0 q 0 0).bind fun a => (kR.f k x y a.1 a.2.1).bind fun s => if s.2.2.2.2 = 0 then some (s.1, q, s.2.2.1, s.2.2.2.1, 0) else some (0, 0, 0, 0, s.2.2.2.2)
def rageRnd (k : Nat) (x y z t q : Int) (R : Option (Int × Int × Int × Int × Int)) : Option (Int × Int × Int × Int × Int) := if q > 0 then (jL.f k z t 0 q 0 0).bind fun a => (if a.2.2 = 0 then (jT.f k a.1 a.2.1 x y).bind fun c => (if c ≤ 0 then rageEnd k x y z t q else R) else R) else rageEnd k x y z t q
def rageG (k : Nat) (x y z t : Int) (R : Option (Int × Int × Int × Int × Int)) : Option (Int × Int × Int × Int × Int) :=
 (kA.f k x y).bind fun a => if a = true then ((kA.f k z t).bind fun b => if b = true then (if x = 0 then (if z = 0 then ((jT.f k x y z t).bind fun c => if c < 0 then R else
  (kZ.f k x y).bind fun o => (kZ.f k z t).bind fun u => (jM.f k o.1 o.2.1).bind fun p => (jM.f k u.1 u.2.1).bind fun q =>
  rageRnd k x y z t (wrap64 (wrap64 (wrap64 (wrap64 (12 * wrap64 (p.1 - q.1)) + p.2.1) - q.2.1) + 1)) (rageRnd k x y z t (wrap64 (wrap64 (wrap64 (wrap64 (wrap64 (12 * wrap64 (p.1 - q.1)) + p.2.1) - q.2.1) + 1) - 1)) (rageRnd k x y z t (wrap64 (wrap64 (wrap64 (wrap64 (wrap64 (wrap64 (12 * wrap64 (p.1 - q.1)) + p.2.1) - q.2.1) + 1) - 1) - 1)) none)))
  else kR.f k x y z t) else kR.f k x y z t) else kR.f k x y z t) else kR.f k x y z t
def qC.f (k : Nat) (x y z t : Int) : Option (Int × Int × Int × Int × Int) := rageG k x y z t none
def jH.f (k : Nat) (a0_0 : Int) (a0_1 : Int) (a1_0 : Int) (a1_1 : Int) : Option (Int × Int × Int × Int × Int) := rageG k a0_0 a0_1 a1_0 a1_1 ((qC.f k a1_0 a1_1 a0_0 a0_1).bind fun s => if s.2.2.2.2 = 0 then zL.f s.1 s.2.1 s.2.2.1 s.2.2.2.1 else some (0, 0, 0, 0, s.2.2.2.2))
theorem rgEnd_ok {k : Nat} {x y z t q r1 r2 r3 r4 r5 : Int} (h : rageEnd k x y z t q = some (r1, r2, r3, r4, r5)) : rgEnd k x y z t q (fun v => v = .tup [.agg [.int .i64 r1, .int .i64 r2, .int .i64 r3, .int .i64 r4], .int .i64 r5]) := by
 simp only [rageEnd, Option.bind_eq_some_iff] at h
 obtain ⟨⟨a1, a2, a3⟩, ha, ⟨s1, s2, s3, s4, s5⟩, hs, h⟩ := h
 refine sgQ3_ok ha (sgQ5_ok hs ?_)
 simp only at h
 by_cases h3 : s5 = 0
 · rw [if_pos h3] at h
   refine sgNo (by simp [h3]) ?_
   (simp only [Option.some.injEq, Prod.mk.injEq] at h; obtain ⟨rfl, rfl, rfl, rfl, rfl⟩ := h; rfl)
 · rw [if_neg h3] at h
   refine sgY (by simp [h3]) ?_
   (simp only [Option.some.injEq, Prod.mk.injEq] at h; obtain ⟨rfl, rfl, rfl, rfl, rfl⟩ := h; rfl)
theorem rgRnd_ok {k : Nat} {x y z t q r1 r2 r3 r4 r5 : Int} {R : Option (Int × Int × Int × Int × Int)} {S : Prop} (h : rageRnd k x y z t q R = some (r1, r2, r3, r4, r5)) (hR : R = some (r1, r2, r3, r4, r5) → S) : rgRnd k x y z t q (fun v => v = .tup [.agg [.int .i64 r1, .int .i64 r2, .int .i64 r3, .int .i64 r4], .int .i64 r5]) S := by
 unfold rageRnd at h
 by_cases h0 : q > 0
 · rw [if_pos h0] at h
   refine sgY (by simpa using h0) ?_
   simp only [Option.bind_eq_some_iff] at h
   obtain ⟨⟨a1, a2, a3⟩, ha, h⟩ := h
   refine sgQ3_ok ha ?_
   simp only at h
   by_cases h3 : a3 = 0
   · rw [if_pos h3] at h
     simp only [Option.bind_eq_some_iff] at h
     obtain ⟨c, hc, h⟩ := h
     refine sgY (by simp [h3]) (sgQ1_ok hc ?_)
     by_cases h4 : c ≤ 0
     · rw [if_pos h4] at h
       exact sgY (by simpa using h4) (rgEnd_ok h)
     · rw [if_neg h4] at h
       exact sgNo (by simpa using h4) (hR h)
   · rw [if_neg h3] at h
     exact sgNo (by simp [h3]) (hR h)
 · rw [if_neg h0] at h
   exact sgNo (by simpa using h0) (rgEnd_ok h)
theorem rgAge_ok {k : Nat} {x y z t r1 r2 r3 r4 r5 : Int} {R : Option (Int × Int × Int × Int × Int)} {S : Prop} (h : rageG k x y z t R = some (r1, r2, r3, r4, r5)) (hR : R = some (r1, r2, r3, r4, r5) → S) : rgAge k x y z t (fun v => v = .tup [.agg [.int .i64 r1, .int .i64 r2, .int .i64 r3, .int .i64 r4], .int .i64 r5]) S := by
 simp only [rageG, Option.bind_eq_some_iff] at h
 obtain ⟨a, ha, h⟩ := h
 refine sgQb_ok ha ?_
 cases a
 · rw [if_neg (by decide)] at h
   exact sgY rfl (sgQ5_ok h rfl)
 rw [if_pos rfl] at h
 refine sgNo rfl ?_
 simp only [Option.bind_eq_some_iff] at h
 obtain ⟨b, hb, h⟩ := h
 refine sgQb_ok hb ?_
 cases b
 · rw [if_neg (by decide)] at h
   exact sgY rfl (sgQ5_ok h rfl)
 rw [if_pos rfl] at h
 refine sgNo rfl ?_
 by_cases hx : x = 0
 case neg =>
  rw [if_neg hx] at h
  exact sgY (by simp [hx]) (sgQ5_ok h rfl)
 rw [if_pos hx] at h
 refine sgNo (by simp [hx]) ?_
 by_cases hz : z = 0
 case neg =>
  rw [if_neg hz] at h
  exact sgY (by simp [hz]) (sgQ5_ok h rfl)
 rw [if_pos hz] at h
 refine sgNo (by simp [hz]) ?_
 simp only [Option.bind_eq_some_iff] at h
 obtain ⟨c, hc, h⟩ := h
 refine sgQ1_ok hc ?_
 by_cases h0 : c < 0
 · rw [if_pos h0] at h
   exact sgY (by simpa using h0) (hR h)
 rw [if_neg h0] at h
 refine sgNo (by simpa using h0) ?_
 simp only [Option.bind_eq_some_iff] at h
 obtain ⟨⟨o1, o2, o3, o4⟩, ho, ⟨u1, u2, u3, u4⟩, hu, ⟨p1, p2, p3, p4⟩, hp, ⟨q1, q2, q3, q4⟩, hq, h⟩ := h
 refine sgQ4_ok ho (sgQ4_ok hu (sgQ4_ok hp (sgQ4_ok hq ?_)))
 simp only [A.wrap_i64]
 exact rgRnd_ok h fun h => rgRnd_ok h fun h => rgRnd_ok h fun h => by cases h
open A in
theorem computusref17_AgeUp_vc (k : Nat) (x y z t : Int) (K : AV → Prop) : afv PA Tryz.prog (tab [(30, rgR k), (58, rgC k), (60, rgF k), (61, rgP k), (59, rgG), (18, rgA k), (22, rgS k), (24, rgX)]) noLoops 3 24 [.agg [.int .i64 x, .int .i64 y], .agg [.int .i64 z, .int .i64 t]] K = (rgAge k x y z t K False) := by kernel_rfl
set_option linter.unusedSimpArgs false in
open A in
theorem qC.calls (k : Nat) (x : Int) (y : Int) (z : Int) (t : Int) (r1 : Int) (r2 : Int) (r3 : Int) (r4 : Int) (r5 : Int) (w : World) (h : qC.f k x y z t = some (r1, r2, r3, r4, r5)) :
 Calls Tryz.prog 24 #[.agg #[.int .i64 x, .int .i64 y], .agg #[.int .i64 z, .int .i64 t]] w fun e w' => e = .returned (.tuple #[.agg #[.int .i64 r1, .int .i64 r2, .int .i64 r3, .int .i64 r4], .int .i64 r5]) ∧ Below w.heap.size w w' := by
 have hT : TabOk Tryz.prog (tab [(30, rgR k), (58, rgC k), (60, rgF k), (61, rgP k), (59, rgG), (18, rgA k), (22, rgS k), (24, rgX)]) := kP (rgR_ok k) (kP (rgC_ok k) (kP (rgF_ok k) (kP (rgP_ok k) (kP (rgG_ok) (kP (rgA_ok k) (kP (rgS_ok k) (kP (rgX_ok _) (jV))))))))
 have hA : RL noNames w [.agg [.int .i64 x, .int .i64 y], .agg [.int .i64 z, .int .i64 t]] [.agg #[.int .i64 x, .int .i64 y], .agg #[.int .i64 z, .int .i64 t]] := by simp [kG, kK, kL, kM]
 have hV : ∀ ρ V', RV ρ w (AV.tup [.agg [.int .i64 r1, .int .i64 r2, .int .i64 r3, .int .i64 r4], .int .i64 r5]) V' → V' = .tuple #[.agg #[.int .i64 r1, .int .i64 r2, .int .i64 r3, .int .i64 r4], .int .i64 r5] := fun ρ V' hV => by simpa [kG, kK, kL, kM, bU] using hV
 refine bZ hT (n := 3) (g := 24) ?_ hA hV
 rw [computusref17_AgeUp_vc]
 exact rgAge_ok h fun h => by cases h
open A in
noncomputable def rgU (k : Nat) : Con
 | [.agg [.int .i64 x, .int .i64 y], .agg [.int .i64 z, .int .i64 t]] => some ((qC.f k x y z t).isSome, .tup [.agg [.int .i64 (gd (qC.f k x y z t)).1, .int .i64 (gd (qC.f k x y z t)).2.1, .int .i64 (gd (qC.f k x y z t)).2.2.1, .int .i64 (gd (qC.f k x y z t)).2.2.2.1], .int .i64 (gd (qC.f k x y z t)).2.2.2.2])
 | _ => none
set_option linter.unusedSimpArgs false in
open A in
theorem rgU_ok (k : Nat) : COk Tryz.prog 24 (rgU k) := by
 intro args p v hc hp w A hA
 unfold rgU at hc
 split at hc
 · rename_i x y z t
   simp only [Option.some.injEq, Prod.mk.injEq] at hc
   obtain ⟨rfl, rfl⟩ := hc
   rcases hf : qC.f k x y z t with _ | ⟨r1, r2, r3, r4, r5⟩
   · rw [hf] at hp; cases hp
   obtain rfl : A = [.agg #[.int .i64 x, .int .i64 y], .agg #[.int .i64 z, .int .i64 t]] := by simpa [kG, kK, kL, kH, kS, kM, jR] using hA
   exact kT (fn := Tryz.f24) Tryz.func24 (by kernel_rfl) (by kernel_rfl) (qC.calls _ _ _ _ _ _ _ _ _ _ w hf) (fun _ => by simp [kD, kG, kK, kL, kH, kS, kM, bU]) (fun _ h => h)
 · cases hc
open A in
theorem computusref17_Age_vc (k : Nat) (x y z t : Int) (K : AV → Prop) : afv PA Tryz.prog (tab [(30, rgR k), (58, rgC k), (60, rgF k), (61, rgP k), (59, rgG), (18, rgA k), (22, rgS k), (24, rgU k)]) noLoops 3 24 [.agg [.int .i64 x, .int .i64 y], .agg [.int .i64 z, .int .i64 t]] K = (rgAge k x y z t K (sgQ5 (qC.f k z t x y) fun a b c d e => brc (e != 0) (sgK5 K 0 0 0 0 e) (sgQ5 (zL.f a b c d) (sgK5 K)))) := by kernel_rfl
set_option linter.unusedSimpArgs false in
open A in
theorem jH.calls (k : Nat) (a0_0 : Int) (a0_1 : Int) (a1_0 : Int) (a1_1 : Int) (r1 : Int) (r2 : Int) (r3 : Int) (r4 : Int) (r5 : Int) (w : World) (h : jH.f k a0_0 a0_1 a1_0 a1_1 = some (r1, r2, r3, r4, r5)) :
 Calls Tryz.prog 24 #[.agg #[.int .i64 a0_0, .int .i64 a0_1], .agg #[.int .i64 a1_0, .int .i64 a1_1]] w fun e w' => e = .returned (.tuple #[.agg #[.int .i64 r1, .int .i64 r2, .int .i64 r3, .int .i64 r4], .int .i64 r5]) ∧ Below w.heap.size w w' := by
 have hT : TabOk Tryz.prog (tab [(30, rgR k), (58, rgC k), (60, rgF k), (61, rgP k), (59, rgG), (18, rgA k), (22, rgS k), (24, rgU k)]) := kP (rgR_ok k) (kP (rgC_ok k) (kP (rgF_ok k) (kP (rgP_ok k) (kP (rgG_ok) (kP (rgA_ok k) (kP (rgS_ok k) (kP (rgU_ok k) (jV))))))))
 have hA : RL noNames w [.agg [.int .i64 a0_0, .int .i64 a0_1], .agg [.int .i64 a1_0, .int .i64 a1_1]] [.agg #[.int .i64 a0_0, .int .i64 a0_1], .agg #[.int .i64 a1_0, .int .i64 a1_1]] := by simp [kG, kK, kL, kM]
 have hV : ∀ ρ V', RV ρ w (AV.tup [.agg [.int .i64 r1, .int .i64 r2, .int .i64 r3, .int .i64 r4], .int .i64 r5]) V' → V' = .tuple #[.agg #[.int .i64 r1, .int .i64 r2, .int .i64 r3, .int .i64 r4], .int .i64 r5] := fun ρ V' hV => by simpa [kG, kK, kL, kM, bU] using hV
 refine bZ hT (n := 3) (g := 24) ?_ hA hV
 rw [computusref17_Age_vc]
 refine rgAge_ok h fun h => ?_
 simp only [Option.bind_eq_some_iff] at h
 obtain ⟨⟨s1, s2, s3, s4, s5⟩, hs, h⟩ := h
 refine sgQ5_ok hs ?_
 simp only at h
 by_cases h5 : s5 = 0
 · rw [if_pos h5] at h
   exact sgNo (by simp [h5]) (sgQ5_ok h rfl)
 · rw [if_neg h5] at h
   refine sgY (by simp [h5]) ?_
   (simp only [Option.some.injEq, Prod.mk.injEq] at h; obtain ⟨rfl, rfl, rfl, rfl, rfl⟩ := h; rfl)
noncomputable def jH.con (k : Nat) : Con
 | [.agg [.int .i64 a0_0, .int .i64 a0_1], .agg [.int .i64 a1_0, .int .i64 a1_1]] => some ((jH.f k a0_0 a0_1 a1_0 a1_1).isSome, .tup [.agg [.int .i64 (gd (jH.f k a0_0 a0_1 a1_0 a1_1)).1, .int .i64 (gd (jH.f k a0_0 a0_1 a1_0 a1_1)).2.1, .int .i64 (gd (jH.f k a0_0 a0_1 a1_0 a1_1)).2.2.1, .int .i64 (gd (jH.f k a0_0 a0_1 a1_0 a1_1)).2.2.2.1], .int .i64 (gd (jH.f k a0_0 a0_1 a1_0 a1_1)).2.2.2.2])
 | _ => none
set_option maxRecDepth 100000 in
theorem jH.cok (k : Nat) : COk Tryz.prog 24 (jH.con k) := by
 intro args p v hc hp w A hA
 unfold jH.con at hc
 split at hc
 · rename_i a0_0 a0_1 a1_0 a1_1
   simp only [Option.some.injEq, Prod.mk.injEq] at hc
   obtain ⟨rfl, rfl⟩ := hc
   rcases hf : jH.f k a0_0 a0_1 a1_0 a1_1 with _ | ⟨r1, r2, r3, r4, r5⟩
   · rw [hf] at hp; cases hp
   obtain rfl : A = [.agg #[.int .i64 a0_0, .int .i64 a0_1], .agg #[.int .i64 a1_0, .int .i64 a1_1]] := by simpa [kG, kK, kL, kH, kS, kM, jR] using hA
   exact kT (fn := Tryz.f24) Tryz.func24 (by kernel_rfl) (by kernel_rfl) (jH.calls _ _ _ _ _ _ _ _ _ _ w hf) (fun _ => by simp [kD, kG, kK, kL, kH, kS, kM, bU]) (fun _ h => h)
 · cases hc
end Go.Proofs.YtimgphlfaninnaaGreat.P
namespace Go.Proofs.YtimgphlfaninnaaGreat.P
open Go.RowKit Go.Proofs.YtimgphlfaninnaaGreatW.PrintWords Go.Proofs.YtimgphlfaninnaaGreatW.PrintLast Go.Proofs.YtimgphlfaninnaaGreatW.PrintMore
open Go.Proofs.YtimgphlfaninnaaGreat.A
 attribute [local go_sem] jQ jP zB zC jE jD jO jN
set_option linter.unusedVariables false
set_option linter.unusedSimpArgs false
attribute [local go_sem high] eqA59
def jX.f (k : Nat) (a0_0 : Int) (a0_1 : Int) (a1_0 : Int) (a1_1 : Int) : Option (Bool) := (jY.f k a0_0 a0_1 a1_0 a1_1).bind fun bt1021 => ((kR.f k a0_0 a0_1 a1_0 a1_1).bind fun bt1027 => ((qQ.f k a0_0 a0_1 a1_0 a1_1).bind fun bt1033 => ((jH.f k a0_0 a0_1 a1_0 a1_1).bind fun bt1039 => (if (bt1021.1 == bt1027.1 && (bt1021.2.1 == bt1027.2.1 && (bt1021.2.2.1 == bt1027.2.2.1 && (bt1021.2.2.2.1 == bt1027.2.2.2.1)))) = true then (if bt1021.2.2.2.2 = bt1027.2.2.2.2 then (if (bt1033.1 == bt1039.1 && (bt1033.2.1 == bt1039.2.1 && (bt1033.2.2.1 == bt1039.2.2.1 && (bt1033.2.2.2.1 == bt1039.2.2.2.1)))) = true then (if bt1033.2.2.2.2 = bt1039.2.2.2.2 then ((zU.f).bind fun t1045 => (some t1045)) else (some false)) else (some false)) else (some false)) else (some false)))))
set_option maxRecDepth 100000 in
theorem jX.vc (k : Nat) (a0_0 : Int) (a0_1 : Int) (a1_0 : Int) (a1_1 : Int) (K : AV → Prop) : afv PA Tryz.prog (tab [(16, zU.con), (21, jY.con k), (22, kR.con k), (23, qQ.con k), (24, jH.con k)]) noLoops 2 5 [.agg [.int .i64 a0_0, .int .i64 a0_1], .agg [.int .i64 a1_0, .int .i64 a1_1]] K = (brc (Option.isSome (jY.f k a0_0 a0_1 a1_0 a1_1)) (∀ (m0 : Int), m0 = Prod.fst (gd (jY.f k a0_0 a0_1 a1_0 a1_1)) → ∀ (m1 : Int), m1 = Prod.fst (Prod.snd (gd (jY.f k a0_0 a0_1 a1_0 a1_1))) → ∀ (m2 : Int), m2 = Prod.fst (Prod.snd (Prod.snd (gd (jY.f k a0_0 a0_1 a1_0 a1_1)))) → ∀ (m3 : Int), m3 = Prod.fst (Prod.snd (Prod.snd (Prod.snd (gd (jY.f k a0_0 a0_1 a1_0 a1_1))))) → ∀ (m4 : Int), m4 = Prod.snd (Prod.snd (Prod.snd (Prod.snd (gd (jY.f k a0_0 a0_1 a1_0 a1_1))))) → brc (Option.isSome (kR.f k a0_0 a0_1 a1_0 a1_1)) (∀ (m5 : Int), m5 = Prod.fst (gd (kR.f k a0_0 a0_1 a1_0 a1_1)) → ∀ (m6 : Int), m6 = Prod.fst (Prod.snd (gd (kR.f k a0_0 a0_1 a1_0 a1_1))) → ∀ (m7 : Int), m7 = Prod.fst (Prod.snd (Prod.snd (gd (kR.f k a0_0 a0_1 a1_0 a1_1)))) → ∀ (m8 : Int), m8 = Prod.fst (Prod.snd (Prod.snd (Prod.snd (gd (kR.f k a0_0 a0_1 a1_0 a1_1))))) → ∀ (m9 : Int), m9 = Prod.snd (Prod.snd (Prod.snd (Prod.snd (gd (kR.f k a0_0 a0_1 a1_0 a1_1))))) → brc (Option.isSome (qQ.f k a0_0 a0_1 a1_0 a1_1)) (∀ (m10 : Int), m10 = Prod.fst (gd (qQ.f k a0_0 a0_1 a1_0 a1_1)) → ∀ (m11 : Int), m11 = Prod.fst (Prod.snd (gd (qQ.f k a0_0 a0_1 a1_0 a1_1))) → ∀ (m12 : Int), m12 = Prod.fst (Prod.snd (Prod.snd (gd (qQ.f k a0_0 a0_1 a1_0 a1_1)))) → ∀ (m13 : Int), m13 = Prod.fst (Prod.snd (Prod.snd (Prod.snd (gd (qQ.f k a0_0 a0_1 a1_0 a1_1))))) → ∀ (m14 : Int), m14 = Prod.snd (Prod.snd (Prod.snd (Prod.snd (gd (qQ.f k a0_0 a0_1 a1_0 a1_1))))) → brc (Option.isSome (jH.f k a0_0 a0_1 a1_0 a1_1)) (∀ (m15 : Int), m15 = Prod.fst (gd (jH.f k a0_0 a0_1 a1_0 a1_1)) → ∀ (m16 : Int), m16 = Prod.fst (Prod.snd (gd (jH.f k a0_0 a0_1 a1_0 a1_1))) → ∀ (m17 : Int), m17 = Prod.fst (Prod.snd (Prod.snd (gd (jH.f k a0_0 a0_1 a1_0 a1_1)))) → ∀ (m18 : Int), m18 = Prod.fst (Prod.snd (Prod.snd (Prod.snd (gd (jH.f k a0_0 a0_1 a1_0 a1_1))))) → ∀ (m19 : Int), m19 = Prod.snd (Prod.snd (Prod.snd (Prod.snd (gd (jH.f k a0_0 a0_1 a1_0 a1_1))))) → brc (m0 == m5 && (m1 == m6 && (m2 == m7 && (m3 == m8 && true)))) (brc (m4 == m9) (brc (m10 == m15 && (m11 == m16 && (m12 == m17 && (m13 == m18 && true)))) (brc (m14 == m19) (brc (decide (zU.f = some true)) (∀ (m20 : Bool), m20 = true → K (AV.bool m20)) False) (K (AV.bool false))) (K (AV.bool false))) (K (AV.bool false))) (K (AV.bool false))) False) False) False) False) := by kernel_rfl
set_option maxHeartbeats 1000000 in
set_option maxRecDepth 100000 in
theorem jX.calls (k : Nat) (a0_0 : Int) (a0_1 : Int) (a1_0 : Int) (a1_1 : Int) (r : Bool) (w : World) (h : jX.f k a0_0 a0_1 a1_0 a1_1 = some r) (hR : r = true) :
 Calls Tryz.prog 5 #[.agg #[.int .i64 a0_0, .int .i64 a0_1], .agg #[.int .i64 a1_0, .int .i64 a1_1]] w fun e w' => e = .returned (.bool r) ∧ Below w.heap.size w w' := by
 refine bZ (A := [.agg #[.int .i64 a0_0, .int .i64 a0_1], .agg #[.int .i64 a1_0, .int .i64 a1_1]]) (v := .bool r) (kP (zU.cok) (kP (jY.cok k) (kP (kR.cok k) (kP (qQ.cok k) (kP (jH.cok k) (jV)))))) ((jX.vc k a0_0 a0_1 a1_0 a1_1 _).mpr ?_) (by simp [kG, kK, kL, kH, kS, kM, jR]) (fun ρ V' hV => by simpa [kG, kK, kL, kH, kS, kM, bU] using hV)
 unfold jX.f at h
 (try simp only [bne, Option.bind_eq_some_iff, bS] at h)
 (try simp only [bne, zM, wrap_i64])
 first
  | grind (splits := 60) [kD]
  | ((repeat' (first | (have or_ : Or _ _ := h; clear or_; rcases h with h | h) | (have or_ : Exists _ := h; clear or_; obtain ⟨_, h⟩ := h) | (have or_ : And _ _ := h; clear or_; obtain ⟨hq_, h⟩ := h))) <;> (try simp only [Option.some.injEq, Prod.mk.injEq, reduceCtorEq] at h) <;> (try subst_vars) <;> first | (simp_all [kD] <;> (try omega) <;> rcases hb0 : decide (zU.f = some true) with _ | _ <;> simp_all [kD] <;> done) | grind (splits := 60) [kD])
  | (intros; subst_vars; simp_all [kD]; done)
def jX.Pure : Prop := ∀ (a0_0 : Int) (a0_1 : Int) (a1_0 : Int) (a1_1 : Int), (Lit.int .i64 a0_0).wf = true → (Lit.int .i64 a0_1).wf = true → (Lit.int .i64 a1_0).wf = true → (Lit.int .i64 a1_1).wf = true → ∃ k, jX.f k a0_0 a0_1 a1_0 a1_1 = some true
theorem jX.walk (P : jX.Pure) (a0_0 : Int) (a0_1 : Int) (a1_0 : Int) (a1_1 : Int) (w : World) (w0_0 : (Lit.int .i64 a0_0).wf = true) (w0_1 : (Lit.int .i64 a0_1).wf = true) (w1_0 : (Lit.int .i64 a1_0).wf = true) (w1_1 : (Lit.int .i64 a1_1).wf = true) :
 Calls Tryz.prog 5 #[.agg #[.int .i64 a0_0, .int .i64 a0_1], .agg #[.int .i64 a1_0, .int .i64 a1_1]] w fun e w' => e = .returned (.bool true) ∧ Below w.heap.size w w' := by
 obtain ⟨k, h⟩ := P a0_0 a0_1 a1_0 a1_1 w0_0 w0_1 w1_0 w1_1
 refine (jX.calls k a0_0 a0_1 a1_0 a1_1 true w h rfl).mono ?_
 rintro e w' ⟨rfl, hd⟩
 exact ⟨rfl, hd⟩
end Go.Proofs.YtimgphlfaninnaaGreat.P
namespace Go.Proofs.YtimgphlfaninnaaGreat.Civ
set_option linter.unusedVariables false
set_option linter.unusedSimpArgs false
def lp (y : Int) : Int := if y % 4 = 0 ∧ (y % 100 ≠ 0 ∨ y % 400 = 0) then 1 else 0
theorem lp_01 (y : Int) : 0 ≤ lp y ∧ lp y ≤ 1 := by unfold lp; split <;> omega
def dby (y : Int) : Int := 365 * (y - 2000) + (y - 1) / 4 - (y - 1) / 100 + (y - 1) / 400 - 484
theorem dby_succ (y : Int) : dby (y + 1) = dby y + 365 + lp y := by
 unfold dby lp; split <;> omega
theorem dby_era (y k : Int) : dby (y + 400 * k) = dby y + 146097 * k := by unfold dby; omega
theorem dby_far (a b : Int) (h : a ≤ b) : dby a + 365 * (b - a) ≤ dby b := by unfold dby; omega
theorem dby_near (a b : Int) (h : a ≤ b) : dby b ≤ dby a + 366 * (b - a) := by unfold dby; omega
theorem year_unique {a b n : Int} (h1 : dby a ≤ n) (h2 : n < dby (a + 1)) (h3 : dby b ≤ n) (h4 : n < dby (b + 1)) : a = b := by
 rcases Int.lt_trichotomy a b with h | h | h
 · have := dby_far (a + 1) b (by omega); omega
 · exact h
 · have := dby_far (b + 1) a (by omega); omega
def mlen (y m : Int) : Int := if m < 1 ∨ 12 < m then 0 else if m = 2 then 28 + lp y else if m = 4 ∨ m = 6 ∨ m = 9 ∨ m = 11 then 30 else 31
def cum (y m : Int) : Int :=
 if m ≤ 1 then 0 else if m = 2 then 31 else
 (if m = 3 then 59 else if m = 4 then 90 else if m = 5 then 120 else if m = 6 then 151 else if m = 7 then 181 else if m = 8 then 212 else if m = 9 then 243 else if m = 10 then 273 else if m = 11 then 304 else if m = 12 then 334 else 365) + lp y
theorem twelve {m : Int} (h1 : 1 ≤ m) (h2 : m ≤ 12) : m = 1 ∨ m = 2 ∨ m = 3 ∨ m = 4 ∨ m = 5 ∨ m = 6 ∨ m = 7 ∨ m = 8 ∨ m = 9 ∨ m = 10 ∨ m = 11 ∨ m = 12 := by omega
theorem cum_succ (y m : Int) (h1 : 1 ≤ m) (h2 : m ≤ 12) : cum y (m + 1) = cum y m + mlen y m := by
 have hl := lp_01 y
 rcases twelve h1 h2 with e | e | e | e | e | e | e | e | e | e | e | e <;> subst e <;> simp [cum, mlen] <;> omega
theorem cum_end (y m : Int) (h : 12 < m) : cum y m = 365 + lp y := by
 unfold cum
 rw [if_neg (by omega), if_neg (by omega), if_neg (by omega), if_neg (by omega), if_neg (by omega), if_neg (by omega), if_neg (by omega), if_neg (by omega), if_neg (by omega), if_neg (by omega), if_neg (by omega), if_neg (by omega)]
theorem cum_one (y : Int) : cum y 1 = 0 := rfl
theorem mlen_bd (y m : Int) (h1 : 1 ≤ m) (h2 : m ≤ 12) : 28 ≤ mlen y m ∧ mlen y m ≤ 31 := by
 have hl := lp_01 y
 rcases twelve h1 h2 with e | e | e | e | e | e | e | e | e | e | e | e <;> subst e <;> simp [mlen] <;> omega
theorem mlen_out (y m : Int) (h : m < 1 ∨ 12 < m) : mlen y m = 0 := by unfold mlen; rw [if_pos h]
theorem mlen_up (y m : Int) : 0 ≤ mlen y m ∧ mlen y m ≤ 31 := by
 by_cases h : m < 1 ∨ 12 < m
 · rw [mlen_out y m h]; omega
 · have := mlen_bd y m (by omega) (by omega); omega
theorem cum_step (y a b : Int) (h1 : 1 ≤ a) (h : a < b) (h2 : b ≤ 12) : cum y a + mlen y a ≤ cum y b := by
 have hl := lp_01 y
 rcases twelve h1 (by omega) with e | e | e | e | e | e | e | e | e | e | e | e <;> subst e <;>
 rcases twelve (by omega) h2 with e | e | e | e | e | e | e | e | e | e | e | e <;> subst e <;> simp [cum, mlen] <;> omega
theorem cum_bd (y m : Int) (h1 : 1 ≤ m) (h2 : m ≤ 12) : 0 ≤ cum y m ∧ cum y m + mlen y m ≤ 365 + lp y := by
 have hl := lp_01 y
 rcases twelve h1 h2 with e | e | e | e | e | e | e | e | e | e | e | e <;> subst e <;> simp [cum, mlen] <;> omega
def dnum (y m d : Int) : Int := dby y + cum y m + d - 1
structure IsDate (n y m d : Int) : Prop where
 m1 : 1 ≤ m
 m12 : m ≤ 12
 d1 : 1 ≤ d
 dl : d ≤ mlen y m
 num : dnum y m d = n
theorem IsDate.year {n y m d : Int} (h : IsDate n y m d) : dby y ≤ n ∧ n < dby (y + 1) := by
 have hs := dby_succ y
 have hc := cum_bd y m h.m1 h.m12
 have h1 := h.d1
 have h2 := h.dl
 have h3 := h.num
 unfold dnum at h3
 omega
theorem IsDate.unique {n y m d y' m' d' : Int} (h : IsDate n y m d) (k : IsDate n y' m' d') : y = y' ∧ m = m' ∧ d = d' := by
 have hy := h.year
 have ky := k.year
 have e : y = y' := year_unique hy.1 hy.2 ky.1 ky.2
 subst e
 have h1 := h.d1; have h2 := h.dl; have h3 := h.num; have h4 := h.m1; have h5 := h.m12
 have k1 := k.d1; have k2 := k.dl; have k3 := k.num; have k4 := k.m1; have k5 := k.m12
 unfold dnum at h3 k3
 rcases Int.lt_trichotomy m m' with hm | hm | hm
 · have := cum_step y m m' h4 hm k5; omega
 · subst hm; exact ⟨rfl, rfl, by omega⟩
 · have := cum_step y m' m k4 hm h5; omega
theorem IsDate.le_of {n y m d n' y' m' d' : Int} (h : IsDate n y m d) (k : IsDate n' y' m' d') (hle : n ≤ n') : y < y' ∨ y = y' ∧ (m < m' ∨ m = m' ∧ d ≤ d') := by
 have hy := h.year
 have ky := k.year
 rcases Int.lt_trichotomy y y' with e | e | e
 · exact .inl e
 · subst e
   refine .inr ⟨rfl, ?_⟩
   have h1 := h.d1; have h2 := h.dl; have h3 := h.num; have h4 := h.m1; have h5 := h.m12
   have k1 := k.d1; have k2 := k.dl; have k3 := k.num; have k4 := k.m1; have k5 := k.m12
   unfold dnum at h3 k3
   rcases Int.lt_trichotomy m m' with hm | hm | hm
   · exact .inl hm
   · subst hm; exact .inr ⟨rfl, by omega⟩
   · have := cum_step y m' m k4 hm h5; omega
 · have := dby_far (y' + 1) y (by omega); omega
theorem year_of (n : Int) : ∃ y, dby y ≤ n ∧ n < dby (y + 1) := by
 have base : ∀ k : Nat, ∀ n : Int, 0 ≤ n → n < dby (2000 + k) → ∃ y, 2000 ≤ y ∧ dby y ≤ n ∧ n < dby (y + 1) := by
  intro k
  induction k with
  | zero => intro n h0 h; exfalso; have : dby (2000 + ((0 : Nat) : Int)) = 0 := by decide
            omega
  | succ k ih =>
   intro n h0 h
   by_cases g : n < dby (2000 + k)
   · exact ih n h0 g
   · exact ⟨2000 + k, by omega, by omega, by have e : (2000 + ((k + 1 : Nat) : Int)) = 2000 + k + 1 := by omega
                                             rw [e] at h; exact h⟩
 obtain ⟨y, _, h1, h2⟩ := base 400 (n % 146097) (by omega) (by have : dby (2000 + ((400 : Nat) : Int)) = 146097 := by decide
                                                               omega)
 refine ⟨y + 400 * (n / 146097), ?_, ?_⟩
 · rw [dby_era]; omega
 · rw [show y + 400 * (n / 146097) + 1 = (y + 1) + 400 * (n / 146097) by omega, dby_era]; omega
theorem month_of (y left : Int) (h0 : 0 ≤ left) (h1 : left < 365 + lp y) : ∃ m, 1 ≤ m ∧ m ≤ 12 ∧ cum y m ≤ left ∧ left < cum y m + mlen y m := by
 have key : ∀ k : Nat, k ≤ 12 → left < cum y (1 + k) → ∃ m, 1 ≤ m ∧ m ≤ 12 ∧ cum y m ≤ left ∧ left < cum y m + mlen y m := by
  intro k
  induction k with
  | zero => intro _ h; exfalso; have : cum y (1 + ((0 : Nat) : Int)) = 0 := rfl
            omega
  | succ k ih =>
   intro hk h
   by_cases g : left < cum y (1 + k)
   · exact ih (by omega) g
   · refine ⟨1 + k, by omega, by omega, by omega, ?_⟩
     rw [← cum_succ y (1 + k) (by omega) (by omega), show (1 + (k : Int) + 1) = 1 + ((k + 1 : Nat) : Int) by omega]; exact h
 refine key 12 (by omega) ?_
 rw [cum_end y _ (by omega)]; exact h1
theorem date_of (n : Int) : ∃ y m d, IsDate n y m d := by
 obtain ⟨y, h1, h2⟩ := year_of n
 have hs := dby_succ y
 obtain ⟨m, a, b, c, e⟩ := month_of y (n - dby y) (by omega) (by omega)
 exact ⟨y, m, n - dby y - cum y m + 1, a, b, by omega, by omega, by unfold dnum; omega⟩
def CanDay (n : Int) : Prop := -2453698 ≤ n ∧ n ≤ 106754173
theorem dby_first : dby (-4718) = -2453698 := by decide
theorem dby_last : dby 294283 = 106754174 := by decide
theorem can_of_year {n y m d : Int} (h : IsDate n y m d) : CanDay n ↔ -4718 ≤ y ∧ y ≤ 294282 := by
 have hy := h.year
 have f := dby_first
 have l := dby_last
 unfold CanDay
 constructor
 · rintro ⟨h1, h2⟩
   constructor
   · rcases Int.lt_or_le y (-4718) with g | g
     · have := dby_far (y + 1) (-4718) (by omega); omega
     · exact g
   · rcases Int.lt_or_le 294282 y with g | g
     · have := dby_far 294283 y (by omega); omega
     · exact g
 · rintro ⟨h1, h2⟩
   have a := dby_far (-4718) y h1
   have b := dby_far (y + 1) 294283 (by omega)
   omega
end Go.Proofs.YtimgphlfaninnaaGreat.Civ
namespace Go.Proofs.YtimgphlfaninnaaGreat.Civ
set_option linter.unusedVariables false
set_option linter.unusedSimpArgs false
open Go.RowKit Go.Proofs.YtimgphlfaninnaaGreatW.PrintWords Go.Proofs.YtimgphlfaninnaaGreatW.PrintLast Go.Proofs.YtimgphlfaninnaaGreatW.PrintMore Go.Proofs.YtimgphlfaninnaaGreat.P
theorem floor_eq (a b : Int) (ha : I64 a) (hb : 1 < b) (hb2 : b ≤ 4611686018427387904) : zG.f a b = some (a / b, a % b) := by
 have c := cut_floor a (b := b) (by omega)
 have q := ediv_i64 (b := b) ha (by omega)
 have h1 := Int.emod_nonneg a (b := b) (by omega)
 have h2 := Int.emod_lt_of_pos a (b := b) (by omega)
 unfold zG.f
 rw [if_neg (by omega)]
 by_cases h : Int.tmod a b < 0
 · obtain ⟨c1, c2, _⟩ := c.1 h
   rw [if_pos h, c1, c2]
   have q2 : a / b + 1 ≤ 9223372036854775807 := by
    have : a / b ≤ 4611686018427387904 := by
     rcases Int.lt_or_le a 0 with g | g
     · have : a / b < 0 := Int.ediv_lt_of_lt_mul (by omega) (by omega)
       omega
     · have := Int.ediv_le_ediv (c := 2) (by omega) ha.2
       have h3 : a / b ≤ a / 2 := by
        rw [Int.le_ediv_iff_mul_le (by omega)]
        have e := Int.mul_ediv_add_emod a b
        have h4 := Int.emod_nonneg a (b := b) (by omega)
        have h5 : 0 ≤ a / b := Int.ediv_nonneg g (by omega)
        have h6 : a / b * 2 ≤ a / b * b := Int.mul_le_mul_of_nonneg_left (by omega) h5
        rw [Int.mul_comm b] at e
        omega
       omega
    omega
   rw [w64 (x := a / b + 1) (by omega) (by omega), w64 (by omega) (by omega), w64 (by omega) (by omega)]
   congr 2 <;> omega
 · obtain ⟨c1, c2⟩ := c.2 h
   rw [if_neg h, c1, c2, w64 q.1 q.2]
theorem leap_eq (y : Int) : civil_Leap.f y = some (decide (lp y = 1)) := by
 unfold civil_Leap.f lp
 simp only [tmod_zero_iff y (b := 4) (by omega), tmod_zero_iff y (b := 100) (by omega)]
 have e : (Int.tmod y 400 == 0) = decide (y % 400 = 0) := by
  have := tmod_zero_iff y (b := 400) (by omega)
  by_cases h : y % 400 = 0
  · rw [decide_eq_true h, beq_iff_eq.2 (this.2 h)]
  · rw [decide_eq_false h, beq_eq_false_iff_ne.2 (fun g => h (this.1 g))]
 rw [e]
 by_cases h1 : y % 4 = 0
 · rw [if_pos h1]
   by_cases h2 : y % 100 = 0
   · rw [if_pos h2]
     by_cases h3 : y % 400 = 0 <;> simp [h1, h2, h3]
   · rw [if_neg h2]; simp [h1, h2]
 · rw [if_neg h1]; simp [h1]
theorem len_eq (y m : Int) : qM.f y m = some (mlen y m) := by
 have hl := lp_01 y
 unfold qM.f
 by_cases h1 : m < 1
 · rw [if_pos h1, mlen_out y m (by omega)]
 · rw [if_neg h1]
   by_cases h2 : m > 12
   · rw [if_pos h2, mlen_out y m (by omega)]
   · rw [if_neg h2]
     rcases twelve (m := m) (by omega) (by omega) with e | e | e | e | e | e | e | e | e | e | e | e <;> subst e <;> simp [mlen, qM.t, leap_eq]
     by_cases h3 : lp y = 1
     · rw [if_pos h3, h3]; rfl
     · rw [if_neg h3, show lp y = 0 by omega]; rfl
def DateOk (y m d : Int) : Prop := -4718 ≤ y ∧ y ≤ 294282 ∧ 1 ≤ m ∧ m ≤ 12 ∧ 1 ≤ d ∧ d ≤ mlen y m
instance (y m d : Int) : Decidable (DateOk y m d) := inferInstanceAs (Decidable (_ ∧ _))
theorem right_eq (y m d : Int) : qN.f y m d = some (decide (DateOk y m d)) := by
 have hl := mlen_up y m
 unfold qN.f
 by_cases h1 : y ≥ -4718
 · rw [if_pos h1]
   by_cases h2 : y ≤ 294282
   · rw [if_pos h2]
     by_cases h3 : d ≥ 1
     · rw [if_pos h3, len_eq]
       simp only [Option.bind_some]
       have : decide (d ≤ mlen y m) = decide (DateOk y m d) := by
        apply decide_eq_decide.2
        unfold DateOk
        constructor
        · intro h
          rcases Int.lt_or_le m 1 with g | g
          · rw [mlen_out y m (by omega)] at h; omega
          · rcases Int.lt_or_le 12 m with g2 | g2
            · rw [mlen_out y m (by omega)] at h; omega
            · omega
        · omega
       rw [this]
     · rw [if_neg h3, decide_eq_false (by unfold DateOk; omega)]
   · rw [if_neg h2, decide_eq_false (by unfold DateOk; omega)]
 · rw [if_neg h1, decide_eq_false (by unfold DateOk; omega)]
theorem era_eq (y : Int) : y / 400 * 146097 + y % 400 * 365 + y % 400 / 4 - y % 400 / 100 = 365 * y + y / 4 - y / 100 + y / 400 := by omega
theorem day_eq (y m d : Int) (h1 : 1 ≤ m) (h2 : m ≤ 12) (hy : -2000000 ≤ y) (hy2 : y ≤ 2000000) (hd : -100 ≤ d) (hd2 : d ≤ 100) : qS.f y m d = some (dnum y m d) := by
 have hl := lp_01 y
 unfold qS.f
 by_cases hm : m ≤ 2
 · rw [if_pos hm, w64 (x := y - 1) (by omega) (by omega), floor_eq _ _ (by unfold I64; omega) (by omega) (by omega)]
   simp only [Option.bind_some]
   simp (disch := omega) only [w64, td_pos]
   have e := era_eq (y - 1)
   congr 1
   unfold dnum dby
   rcases (by omega : m = 1 ∨ m = 2) with e | e <;> subst e <;> simp [cum] <;> omega
 · rw [if_neg hm, floor_eq _ _ (by unfold I64; omega) (by omega) (by omega)]
   simp only [Option.bind_some]
   simp (disch := omega) only [w64, td_pos]
   have e := era_eq y
   have e2 := dby_succ y
   have e3 : dby (y + 1) = 365 * (y - 1999) + y / 4 - y / 100 + y / 400 - 484 := by unfold dby; omega
   congr 1
   unfold dnum
   have : cum y m = (153 * (m - 3) + 2) / 5 + 59 + lp y := by
    rcases (by omega : m = 3 ∨ m = 4 ∨ m = 5 ∨ m = 6 ∨ m = 7 ∨ m = 8 ∨ m = 9 ∨ m = 10 ∨ m = 11 ∨ m = 12) with e | e | e | e | e | e | e | e | e | e <;> subst e <;> simp [cum]
   omega
theorem days_eq (y m d : Int) : qP.f y m d = some (if DateOk y m d then (dnum y m d, 0) else (0, 10)) := by
 unfold qP.f
 rw [right_eq]
 simp only [Option.bind_some, decide_eq_true_eq]
 by_cases h : DateOk y m d
 · have hl := mlen_up y m
   have h' := h
   unfold DateOk at h'
   rw [if_pos h, if_pos h, day_eq y m d (by omega) (by omega) (by omega) (by omega) (by omega) (by omega)]
   rfl
 · rw [if_neg h, if_neg h]
theorem firstday_eq : civil_First.f = some (-2453698) := by
 unfold civil_First.f
 rw [day_eq _ _ _ (by omega) (by omega) (by omega) (by omega) (by omega) (by omega)]
 rfl
theorem lastday_eq : civil_Last.f = some 106754173 := by
 unfold civil_Last.f
 rw [day_eq _ _ _ (by omega) (by omega) (by omega) (by omega) (by omega) (by omega)]
 rfl
instance (n : Int) : Decidable (CanDay n) := inferInstanceAs (Decidable (_ ∧ _))
theorem can_eq (n : Int) : qV.f n = some (decide (CanDay n)) := by
 unfold qV.f
 rw [firstday_eq]
 simp only [Option.bind_some]
 by_cases h : n ≥ -2453698
 · rw [if_pos h, lastday_eq]
   simp only [Option.bind_some]
   congr 1
   apply decide_eq_decide.2
   unfold CanDay
   omega
 · rw [if_neg h, decide_eq_false (by unfold CanDay; omega)]
theorem march {n e c f k r : Int} (hc : 0 ≤ c ∧ c ≤ 3) (hf : 0 ≤ f ∧ f ≤ 24) (hk : 0 ≤ k ∧ k ≤ 3) (hn : n + 730425 = 146097 * e + 36524 * c + 1461 * f + 365 * k + r) :
 dby (400 * e + 100 * c + 4 * f + k + 1) = n + 306 - r := by unfold dby; omega
theorem march_leap {e c f : Int} (hc : 0 ≤ c ∧ c ≤ 3) (hf : 0 ≤ f ∧ f ≤ 24) (h : f < 24 ∨ c = 3) : lp (400 * e + 100 * c + 4 * f + 3 + 1) = 1 := by
 unfold lp; rw [if_pos (by omega)]
theorem parts_eq {n y m d : Int} (h : IsDate n y m d) (hb : -2000000000 ≤ n ∧ n ≤ 2000000000) : zP.f n = some (y, m, d) := by
 unfold zP.f
 rw [w64 (x := n + 730425) (by omega) (by omega), floor_eq _ _ (by unfold I64; omega) (by omega) (by omega)]
 simp only [Option.bind_some]
 have hn : n + 730425 = 146097 * ((n + 730425) / 146097) + (n + 730425) % 146097 := by omega
 have h0 : 0 ≤ (n + 730425) % 146097 ∧ (n + 730425) % 146097 < 146097 := by omega
 have he : -20000 ≤ (n + 730425) / 146097 ∧ (n + 730425) / 146097 ≤ 20000 := by omega
 generalize (n + 730425) / 146097 = e at *
 generalize (n + 730425) % 146097 = r0 at *
 rw [td_pos (a := r0) h0.1, w64 (x := r0 / 36524) (by omega) (by omega)]
 have hc : 0 ≤ mn (r0 / 36524) 3 ∧ mn (r0 / 36524) 3 ≤ 3 ∧ 0 ≤ r0 - mn (r0 / 36524) 3 * 36524 ∧ r0 - mn (r0 / 36524) 3 * 36524 ≤ 36524 ∧ (r0 - mn (r0 / 36524) 3 * 36524 = 36524 → mn (r0 / 36524) 3 = 3) := by
  unfold mn; split <;> omega
 generalize mn (r0 / 36524) 3 = c at *
 obtain ⟨hc0, hc1, hc2, hc3, hc4⟩ := hc
 rw [w64 (x := c * 36524) (by omega) (by omega), w64 (x := r0 - c * 36524) (by omega) (by omega)]
 obtain ⟨r1, hr1⟩ : ∃ r1, r1 = r0 - c * 36524 := ⟨_, rfl⟩
 rw [← hr1] at hc2 hc3 hc4 ⊢
 rw [td_pos (a := r1) hc2, w64 (x := r1 / 1461) (by omega) (by omega)]
 have hf : 0 ≤ r1 / 1461 ∧ r1 / 1461 ≤ 24 ∧ 0 ≤ r1 - r1 / 1461 * 1461 ∧ r1 - r1 / 1461 * 1461 ≤ 1460 ∧ (r1 - r1 / 1461 * 1461 = 1460 → r1 / 1461 < 24 ∨ c = 3) := by omega
 generalize r1 / 1461 = f at *
 obtain ⟨hf0, hf1, hf2, hf3, hf4⟩ := hf
 rw [w64 (x := f * 1461) (by omega) (by omega), w64 (x := r1 - f * 1461) (by omega) (by omega)]
 obtain ⟨r2, hr2⟩ : ∃ r2, r2 = r1 - f * 1461 := ⟨_, rfl⟩
 rw [← hr2] at hf2 hf3 hf4 ⊢
 rw [td_pos (a := r2) hf2, w64 (x := r2 / 365) (by omega) (by omega)]
 have hk : 0 ≤ mn (r2 / 365) 3 ∧ mn (r2 / 365) 3 ≤ 3 ∧ 0 ≤ r2 - mn (r2 / 365) 3 * 365 ∧ (r2 - mn (r2 / 365) 3 * 365 ≤ 364 ∨ r2 - mn (r2 / 365) 3 * 365 = 365 ∧ r2 = 1460 ∧ mn (r2 / 365) 3 = 3) := by
  unfold mn; split <;> omega
 generalize mn (r2 / 365) 3 = k at *
 obtain ⟨hk0, hk1, hk2, hk3⟩ := hk
 rw [w64 (x := k * 365) (by omega) (by omega), w64 (x := r2 - k * 365) (by omega) (by omega)]
 obtain ⟨r3, hr3⟩ : ∃ r3, r3 = r2 - k * 365 := ⟨_, rfl⟩
 rw [← hr3] at hk2 hk3 ⊢
 have hn' : n + 730425 = 146097 * e + 36524 * c + 1461 * f + 365 * k + r3 := by omega
 have hY := march ⟨hc0, hc1⟩ ⟨hf0, hf1⟩ ⟨hk0, hk1⟩ hn'
 have hL : r3 = 365 → lp (400 * e + 100 * c + 4 * f + k + 1) = 1 := by
  intro hr
  have e1 : k = 3 := by omega
  subst e1
  exact march_leap ⟨hc0, hc1⟩ ⟨hf0, hf1⟩ (by omega)
 have hlb := lp_01 (400 * e + 100 * c + 4 * f + k + 1)
 have hY2 := dby_succ (400 * e + 100 * c + 4 * f + k)
 have h365 : r3 ≤ 365 := by omega
 clear hr1 hr2 hr3 hn' hn hk3 hf4 hc4
 rw [w64 (x := 5 * r3) (by omega) (by omega), w64 (x := 5 * r3 + 2) (by omega) (by omega), td_pos (a := 5 * r3 + 2) (by omega), w64 (x := (5 * r3 + 2) / 153) (by omega) (by omega)]
 have hm : 0 ≤ (5 * r3 + 2) / 153 ∧ (5 * r3 + 2) / 153 ≤ 11 ∧ 153 * ((5 * r3 + 2) / 153) ≤ 5 * r3 + 2 ∧ 5 * r3 + 2 < 153 * ((5 * r3 + 2) / 153) + 153 := by omega
 generalize (5 * r3 + 2) / 153 = m' at *
 obtain ⟨hm0, hm1, hm2, hm3⟩ := hm
 rw [w64 (x := e * 400) (by omega) (by omega), w64 (x := c * 100) (by omega) (by omega), w64 (x := f * 4) (by omega) (by omega), w64 (x := e * 400 + c * 100) (by omega) (by omega), w64 (x := e * 400 + c * 100 + f * 4) (by omega) (by omega), w64 (x := e * 400 + c * 100 + f * 4 + k) (by omega) (by omega)]
 rw [w64 (x := 153 * m') (by omega) (by omega), w64 (x := 153 * m' + 2) (by omega) (by omega), td_pos (a := 153 * m' + 2) (by omega), w64 (x := (153 * m' + 2) / 5) (by omega) (by omega), w64 (x := r3 - (153 * m' + 2) / 5) (by omega) (by omega), w64 (x := r3 - (153 * m' + 2) / 5 + 1) (by omega) (by omega)]
 have ey : e * 400 + c * 100 + f * 4 + k = 400 * e + 100 * c + 4 * f + k := by omega
 rw [ey]
 have hyb : -9000000 ≤ 400 * e + 100 * c + 4 * f + k ∧ 400 * e + 100 * c + 4 * f + k ≤ 9000000 := by omega
 clear ey hc0 hc1 hc2 hc3 hf0 hf1 hf2 hf3 hk0 hk1 he h0
 generalize 400 * e + 100 * c + 4 * f + k = Y at *
 by_cases hge : m' ≥ 10
 · rw [if_pos hge, w64 (x := Y + 1) (by omega) (by omega), w64 (x := m' - 9) (by omega) (by omega)]
   have key : IsDate n (Y + 1) (m' - 9) (r3 - (153 * m' + 2) / 5 + 1) := by
    rcases (by omega : m' = 10 ∨ m' = 11) with e1 | e1 <;> subst e1
    · exact ⟨by omega, by omega, by omega, by simp [mlen]; omega, by simp [dnum, cum]; omega⟩
    · refine ⟨by omega, by omega, by omega, ?_, by simp [dnum, cum]; omega⟩
      simp only [mlen]
      by_cases g : r3 = 365
      · rw [hL g, g]; decide
      · rw [if_neg (by omega), if_pos (by omega)]; omega
   obtain ⟨rfl, rfl, rfl⟩ := h.unique key
   rfl
 · rw [if_neg hge, w64 (x := m' + 3) (by omega) (by omega)]
   have key : IsDate n Y (m' + 3) (r3 - (153 * m' + 2) / 5 + 1) := by
    rcases (by omega : m' = 0 ∨ m' = 1 ∨ m' = 2 ∨ m' = 3 ∨ m' = 4 ∨ m' = 5 ∨ m' = 6 ∨ m' = 7 ∨ m' = 8 ∨ m' = 9) with e1 | e1 | e1 | e1 | e1 | e1 | e1 | e1 | e1 | e1 <;> subst e1 <;>
     exact ⟨by omega, by omega, by omega, by simp [mlen]; omega, by simp [dnum, cum]; omega⟩
   obtain ⟨rfl, rfl, rfl⟩ := h.unique key
   rfl
theorem date_eq {n y m d : Int} (h : IsDate n y m d) (hc : CanDay n) : zD.f n = some (y, m, d, 0) := by
 unfold zD.f
 rw [can_eq]
 simp only [Option.bind_some, decide_eq_true_eq]
 have hc' := hc
 unfold CanDay at hc'
 rw [if_pos hc, parts_eq h (by omega)]
 rfl
theorem date_no {n : Int} (hc : ¬ CanDay n) : zD.f n = some (0, 0, 0, 10) := by
 unfold zD.f
 rw [can_eq]
 simp only [Option.bind_some, decide_eq_true_eq]
 rw [if_neg hc]
def shY (y m k : Int) : Int := (12 * y + m - 1 + k) / 12
def shM (y m k : Int) : Int := (12 * y + m - 1 + k) % 12 + 1
def shD (y m d k : Int) : Int := if mlen (shY y m k) (shM y m k) < d then mlen (shY y m k) (shM y m k) else d
theorem shM_bd (y m k : Int) : 1 ≤ shM y m k ∧ shM y m k ≤ 12 := by unfold shM; omega
def MonthsOk (k : Int) : Prop := -3600000 ≤ k ∧ k ≤ 3600000
instance (k : Int) : Decidable (MonthsOk k) := inferInstanceAs (Decidable (_ ∧ _))
theorem shift_eq {n y m d k : Int} (h : IsDate n y m d) (hc : CanDay n) (hk : MonthsOk k) (r : Nat) :
 bY.f (r + 1) n k = some (if DateOk (shY y m k) (shM y m k) (shD y m d k) then (dnum (shY y m k) (shM y m k) (shD y m d k), 0) else (0, 10)) := by
 have hc' := hc
 unfold CanDay at hc'
 unfold MonthsOk at hk
 have hy := (can_of_year h).1 hc
 have h1 := h.m1
 have h2 := h.m12
 unfold bY.f
 rw [can_eq]
 simp only [Option.bind_some, decide_eq_true_eq]
 rw [if_pos hc, if_neg (by omega), decide_eq_false (by omega)]
 simp only [bY.j0]
 rw [if_neg (by simp), parts_eq h (by omega)]
 simp only [Option.bind_some]
 rw [w64 (x := 12 * y) (by omega) (by omega), w64 (x := 12 * y + m) (by omega) (by omega), w64 (x := 12 * y + m - 1) (by omega) (by omega), w64 (x := 12 * y + m - 1 + k) (by omega) (by omega), floor_eq _ _ (by unfold I64; omega) (by omega) (by omega)]
 simp only [Option.bind_some]
 rw [w64 (x := (12 * y + m - 1 + k) % 12 + 1) (by omega) (by omega), len_eq]
 simp only [Option.bind_some]
 rw [days_eq]
 simp only [Option.bind_some]
 have e : mn d (mlen ((12 * y + m - 1 + k) / 12) ((12 * y + m - 1 + k) % 12 + 1)) = shD y m d k := rfl
 rw [e]
 rfl
theorem shift_no {n k : Int} (h : ¬ CanDay n ∨ ¬ MonthsOk k) (r : Nat) : bY.f (r + 1) n k = some (0, 10) := by
 unfold bY.f
 rw [can_eq]
 simp only [Option.bind_some, decide_eq_true_eq]
 by_cases hc : CanDay n
 · have hk := h.resolve_left (fun f => f hc)
   unfold MonthsOk at hk
   rw [if_pos hc]
   by_cases h1 : k > 3600000
   · rw [if_pos h1]; simp only [bY.j0]; rfl
   · rw [if_neg h1, decide_eq_true (by omega)]; simp only [bY.j0]; rfl
 · rw [if_neg hc]; simp only [bY.j0]; rfl
theorem rmod_eq (a b : Int) (hb : 0 < b) (hb2 : b ≤ 4611686018427387904) : bT.f a b = some (a % b) := by
 have c := cut_floor a (b := b) (by omega)
 have h1 := Int.emod_nonneg a (b := b) (by omega)
 have h2 := Int.emod_lt_of_pos a (b := b) (by omega)
 unfold bT.f
 rw [if_neg (by omega)]
 by_cases h : Int.tmod a b < 0
 · obtain ⟨c1, c2, _⟩ := c.1 h
   rw [if_pos h, c2, w64 (by omega) (by omega)]
   congr 1; omega
 · obtain ⟨c1, c2⟩ := c.2 h
   rw [if_neg h, c2]
theorem rdiv_eq (a b : Int) (ha : I64 a) (hb : 1 < b) (hb2 : b ≤ 4611686018427387904) : zV.f a b = some (a / b) := by
 have e := floor_eq a b ha hb hb2
 unfold zG.f at e
 unfold zV.f
 rw [if_neg (by omega)] at e ⊢
 by_cases h : Int.tmod a b < 0
 · rw [if_pos h] at e ⊢; injection e with e; injection e with e1 _; rw [e1]
 · rw [if_neg h] at e ⊢; injection e with e; injection e with e1 _; rw [e1]
theorem rleap_eq (y : Int) : zE.f y = some (decide (lp y = 1)) := by
 unfold zE.f
 rw [rmod_eq _ _ (by omega) (by omega), rmod_eq _ _ (by omega) (by omega), rmod_eq _ _ (by omega) (by omega)]
 simp only [Option.bind_some]
 have e : (y % 400 == 0) = decide (y % 400 = 0) := rfl
 rw [e]
 unfold lp
 by_cases h1 : y % 4 = 0
 · rw [if_pos h1]
   by_cases h2 : y % 100 = 0
   · rw [if_pos h2]
     by_cases h3 : y % 400 = 0 <;> simp [h1, h2, h3]
   · rw [if_neg h2]; simp [h1, h2]
 · rw [if_neg h1]; simp [h1]
theorem rlen_eq (k : Nat) (y m : Int) : kC.f (k + 2) y m = some (mlen y m) := by
 have hl := lp_01 y
 by_cases h : m < 1 ∨ 12 < m
 · rw [mlen_out y m h]
   unfold kC.f
   rw [if_neg (by omega), if_neg (by omega), if_neg (by omega), if_neg (by omega), if_neg (by omega), if_neg (by omega), beq_eq_false_iff_ne.2 (by omega : m ≠ 12)]
   simp only [kC.j0]
   rw [if_neg (by simp), if_neg (by omega), if_neg (by omega), if_neg (by omega), beq_eq_false_iff_ne.2 (by omega : m ≠ 11)]
   simp only [kC.j1]
   rw [if_neg (by simp), if_neg (by omega)]
 · rcases twelve (m := m) (by omega) (by omega) with e | e | e | e | e | e | e | e | e | e | e | e <;> subst e <;> simp [kC.f, kC.j0, kC.j1, mlen, rleap_eq]
   by_cases h3 : lp y = 1
   · rw [if_pos h3, h3]; rfl
   · rw [if_neg h3, show lp y = 0 by omega]; rfl
theorem rlen_ev (y m : Int) : Ev (fun k => kC.f k y m) (mlen y m) := Ev.at2 fun k => rlen_eq k y m
theorem rright_eq (k : Nat) (y m d : Int) : zK.f (k + 2) y m d = some (decide (DateOk y m d)) := by
 unfold zK.f
 rw [rlen_eq]
 by_cases h1 : y ≥ -4718
 · rw [if_pos h1]
   by_cases h2 : y ≤ 294282
   · rw [if_pos h2]
     by_cases h4 : m ≥ 1
     · rw [if_pos h4]
       by_cases h5 : m ≤ 12
       · rw [if_pos h5]
         by_cases h3 : d ≥ 1
         · rw [if_pos h3]
           simp only [Option.bind_some]
           congr 1
           apply decide_eq_decide.2
           unfold DateOk
           omega
         · rw [if_neg h3, decide_eq_false (by unfold DateOk; omega)]
       · rw [if_neg h5, decide_eq_false (by unfold DateOk; omega)]
     · rw [if_neg h4, decide_eq_false (by unfold DateOk; omega)]
   · rw [if_neg h2, decide_eq_false (by unfold DateOk; omega)]
 · rw [if_neg h1, decide_eq_false (by unfold DateOk; omega)]
theorem rright_ev (y m d : Int) : Ev (fun k => zK.f k y m d) (decide (DateOk y m d)) := Ev.at2 fun k => rright_eq k y m d
theorem rstart_loop (y : Int) (hy : -100000000 ≤ y ∧ y ≤ 100000000) (d : Nat) : ∀ i n : Int, 0 ≤ i → i ≤ (y - 2000) % 400 → (y - 2000) % 400 - i = d → n = dby (2000 + i) + 146097 * ((y - 2000) / 400) →
 Ev (fun k => bF.l0 k y n i) (dby y) := by
 induction d with
 | zero =>
  intro i n h0 h1 hd hn
  refine Ev.at1 fun k => ?_
  simp only [bF.l0]
  rw [w64 (by omega) (by omega), rmod_eq _ _ (by omega) (by omega)]
  simp only [Option.bind_some]
  rw [if_neg (by omega)]
  congr 1
  rw [hn, ← dby_era, show 2000 + i + 400 * ((y - 2000) / 400) = y by omega]
 | succ d ih =>
  intro i n h0 h1 hd hn
  have hs := dby_succ (2000 + i)
  have hb : -1000000 ≤ dby (2000 + i) ∧ dby (2000 + i) ≤ 1000000 := by
   have a := dby_far 2000 (2000 + i) (by omega)
   have b := dby_near 2000 (2000 + i) (by omega)
   have c : dby 2000 = 0 := by decide
   omega
  have hl := lp_01 (2000 + i)
  refine Ev.step (f := fun k => bF.l0 k y (n + 365 + lp (2000 + i)) (i + 1)) (fun k => ?_) (ih (i + 1) _ (by omega) (by omega) (by omega) ?_)
  · simp only [bF.l0]
    rw [w64 (x := y - 2000) (by omega) (by omega), rmod_eq _ _ (by omega) (by omega)]
    simp only [Option.bind_some]
    rw [if_pos (by omega), w64 (x := 2000 + i) (by omega) (by omega), rleap_eq]
    simp only [Option.bind_some, decide_eq_true_eq]
    rw [w64 (x := i + 1) (by omega) (by omega), w64 (x := n + 365) (by omega) (by omega)]
    by_cases hp : lp (2000 + i) = 1
    · rw [if_pos hp, w64 (by omega) (by omega), hp]
    · rw [if_neg hp, show lp (2000 + i) = 0 by omega, Int.add_zero]
  · rw [show 2000 + (i + 1) = 2000 + i + 1 by omega, hs]; omega
theorem rstart_ev (y : Int) (hy : -100000000 ≤ y ∧ y ≤ 100000000) : Ev (fun k => bF.f k y) (dby y) := by
 unfold bF.f
 rw [w64 (by omega) (by omega), rdiv_eq _ _ (by unfold I64; omega) (by omega) (by omega)]
 simp only [Option.bind_some]
 refine rstart_loop y hy ((y - 2000) % 400).toNat 0 _ (by omega) (by omega) (by omega) ?_
 rw [w64 (by omega) (by omega)]
 have c : dby (2000 + 0) = 0 := by decide
 omega
theorem rday_loop (y m : Int) (hm : m ≤ 12) (d : Nat) : ∀ i n : Int, 1 ≤ i → i ≤ m → m - i = d → -1000000000000 ≤ n ∧ n ≤ 1000000000000 + 31 * i →
 Ev (fun k => bH.l0 k y m n i) (n + cum y m - cum y i) := by
 induction d with
 | zero =>
  intro i n h0 h1 hd hn
  refine Ev.at1 fun k => ?_
  simp only [bH.l0]
  rw [if_neg (by omega)]
  congr 1
  have : i = m := by omega
  subst this; omega
 | succ d ih =>
  intro i n h0 h1 hd hn
  have hc := cum_succ y i h0 (by omega)
  have hl := mlen_bd y i h0 (by omega)
  refine Ev.step (f := fun k => (kC.f k y i).bind fun t => bH.l0 k y m (wrap64 (n + t)) (wrap64 (i + 1))) (fun k => ?_) (Ev.bind (rlen_ev y i) ?_)
  · simp only [bH.l0]
    rw [if_pos (by omega)]
  · rw [w64 (x := n + mlen y i) (by omega) (by omega), w64 (x := i + 1) (by omega) (by omega)]
    exact Ev.cast (ih (i + 1) _ (by omega) (by omega) (by omega) (by omega)) (by omega)
theorem dby_bd (y : Int) (hy : -100000000 ≤ y ∧ y ≤ 100000000) : -40000000000 ≤ dby y ∧ dby y ≤ 40000000000 := by
 have c : dby 2000 = 0 := by decide
 rcases Int.le_total y 2000 with h | h
 · have a := dby_far y 2000 h
   have b := dby_near y 2000 h
   omega
 · have a := dby_far 2000 y h
   have b := dby_near 2000 y h
   omega
theorem rday_ev (y m d : Int) (hy : -100000000 ≤ y ∧ y ≤ 100000000) (h1 : 1 ≤ m) (h2 : m ≤ 12) (hd : -1000 ≤ d ∧ d ≤ 1000) : Ev (fun k => bH.f k y m d) (dnum y m d) := by
 have hb := dby_bd y hy
 unfold bH.f
 refine Ev.bind (rstart_ev y hy) ?_
 rw [w64 (x := dby y + d) (by omega) (by omega), w64 (by omega) (by omega)]
 refine Ev.cast (rday_loop y m h2 (m - 1).toNat 1 _ (by omega) (by omega) (by omega) (by omega)) ?_
 unfold dnum
 rw [cum_one]; omega
theorem rfirst_ev : Ev (fun k => zW.f k) (-2453698) := by
 unfold zW.f
 exact Ev.bind (rday_ev _ _ _ (by omega) (by omega) (by omega) (by omega)) (Ev.now _)
theorem rlast_ev : Ev (fun k => zZ.f k) 106754173 := by
 unfold zZ.f
 exact Ev.bind (rday_ev _ _ _ (by omega) (by omega) (by omega) (by omega)) (Ev.now _)
theorem rcan_ev (n : Int) : Ev (fun k => jW.f k n) (decide (CanDay n)) := by
 unfold jW.f
 refine Ev.bind rfirst_ev ?_
 by_cases h : n ≥ -2453698
 · simp only [if_pos h]
   refine Ev.bind rlast_ev ?_
   have e : decide (n ≤ 106754173) = decide (CanDay n) := decide_eq_decide.2 (by unfold CanDay; omega)
   rw [e]; exact Ev.now _
 · simp only [if_neg h]
   rw [decide_eq_false (by unfold CanDay; omega : ¬ CanDay n)]; exact Ev.now _
theorem rdays_ev (y m d : Int) : Ev (fun k => jA.f k y m d) (if DateOk y m d then (dnum y m d, 0) else (0, 10)) := by
 unfold jA.f
 refine Ev.bind (rright_ev y m d) ?_
 simp only [decide_eq_true_eq]
 by_cases h : DateOk y m d
 · simp only [if_pos h]
   have hl := mlen_up y m
   unfold DateOk at h
   exact Ev.bind (rday_ev y m d (by omega) (by omega) (by omega) (by omega)) (Ev.now _)
 · simp only [if_neg h]; exact Ev.now _
theorem rdate_months (y : Int) (left : Int) (m d : Int) (h12 : m ≤ 12) (hd0 : 1 ≤ d) (hd1 : d ≤ mlen y m) (j : Nat) : ∀ i l : Int, 1 ≤ i → i ≤ m → m - i = j → l = cum y m + d - 1 - cum y i →
 Ev (fun k => kB.l1 k y l i) (y, m, d, 0) := by
 induction j with
 | zero =>
  intro i l h0 h1 hj hl
  have e : i = m := by omega
  subst e
  refine Ev.step (f := fun k => (kC.f k y i).bind fun t => if l ≥ t then (kC.f k y i).bind fun t' => kB.l1 k y (wrap64 (l - t')) (wrap64 (i + 1)) else some (y, i, wrap64 (l + 1), 0)) (fun k => by simp only [kB.l1]) (Ev.bind (rlen_ev y i) ?_)
  have hb := mlen_bd y i h0 h12
  simp only [if_neg (show ¬ l ≥ mlen y i by omega)]
  rw [w64 (by omega) (by omega), show l + 1 = d by omega]
  exact Ev.now _
 | succ j ih =>
  intro i l h0 h1 hj hl
  have hb := mlen_bd y i h0 (by omega)
  have hb2 := mlen_bd y m (by omega) h12
  have hcm := cum_bd y m (by omega) h12
  have hci := cum_bd y i h0 (by omega)
  have hlp := lp_01 y
  have hst := cum_step y i m h0 (by omega) h12
  have hs := cum_succ y i h0 (by omega)
  refine Ev.step (f := fun k => (kC.f k y i).bind fun t => if l ≥ t then (kC.f k y i).bind fun t' => kB.l1 k y (wrap64 (l - t')) (wrap64 (i + 1)) else some (y, i, wrap64 (l + 1), 0)) (fun k => by simp only [kB.l1]) (Ev.bind (rlen_ev y i) ?_)
  simp only [if_pos (show l ≥ mlen y i by omega)]
  refine Ev.bind (rlen_ev y i) ?_
  rw [w64 (x := l - mlen y i) (by omega) (by omega), w64 (x := i + 1) (by omega) (by omega)]
  exact ih (i + 1) _ (by omega) (by omega) (by omega) (by omega)
theorem rdate_years {n y m d : Int} (h : IsDate n y m d) (hy : -100000000 ≤ y ∧ y ≤ 100000000) (j : Nat) : ∀ i l : Int, i ≤ y → -200000000 ≤ i → y - i = j → dby i + l = n → l ≤ 10000000 →
 Ev (fun k => kB.l0 k i l) (y, m, d, 0) := by
 have hh := h.year
 have hs := dby_succ y
 have hl := lp_01 y
 have hm := h.m1
 have hm2 := h.m12
 have hnum := h.num
 unfold dnum at hnum
 have hcm := cum_bd y m hm hm2
 induction j with
 | zero =>
  intro i l h0 h00 hj hn hle
  have e : i = y := by omega
  subst e
  refine Ev.step (f := fun k => kB.j1 k i l) (fun k => ?_) (Ev.step (f := fun k => kB.l1 k i l 1) (fun k => by simp only [kB.j1]) (rdate_months i l m d hm2 h.d1 h.dl (m - 1).toNat 1 l (by omega) hm (by omega) (by rw [cum_one]; omega)))
  simp only [kB.l0]
  rw [rleap_eq]
  simp only [Option.bind_some, decide_eq_true_eq]
  by_cases hp : lp i = 1
  · rw [if_pos hp, if_pos (by omega)]
  · rw [if_neg hp, if_pos (by omega)]
 | succ j ih =>
  intro i l h0 h00 hj hn hle
  have hsi := dby_succ i
  have hli := lp_01 i
  have hf := dby_far (i + 1) y (by omega)
  refine Ev.step (f := fun k => kB.l0 k (i + 1) (l - 365 - lp i)) (fun k => ?_) (ih (i + 1) _ (by omega) (by omega) (by omega) (by omega) (by omega))
  simp only [kB.l0]
  rw [rleap_eq]
  simp only [Option.bind_some, decide_eq_true_eq]
  by_cases hp : lp i = 1
  · rw [if_pos hp, if_neg (by omega), w64 (x := i + 1) (by omega) (by omega), w64 (x := l - 366) (by omega) (by omega), show l - 366 = l - 365 - lp i by omega]
  · rw [if_neg hp, if_neg (by omega), w64 (x := i + 1) (by omega) (by omega), w64 (x := l - 365) (by omega) (by omega), show lp i = 0 by omega, Int.sub_zero]
theorem rdate_ev {n y m d : Int} (h : IsDate n y m d) (hc : CanDay n) : Ev (fun k => kB.f k n) (y, m, d, 0) := by
 have hy := (can_of_year h).1 hc
 have hyr := h.year
 unfold kB.f
 refine Ev.bind (rcan_ev n) ?_
 simp only [decide_eq_true_eq, if_pos hc]
 unfold CanDay at hc
 rw [rdiv_eq _ _ (by unfold I64; omega) (by omega) (by omega), rmod_eq _ _ (by omega) (by omega)]
 simp only [Option.bind_some]
 rw [w64 (x := n / 146097 * 400) (by omega) (by omega), w64 (by omega) (by omega)]
 have e : dby (2000 + n / 146097 * 400) = n / 146097 * 146097 := by
  have := dby_era 2000 (n / 146097)
  have c : dby 2000 = 0 := by decide
  rw [show 2000 + n / 146097 * 400 = 2000 + 400 * (n / 146097) by omega, this, c]; omega
 have hle : 2000 + n / 146097 * 400 ≤ y := by
  rcases Int.lt_or_le y (2000 + n / 146097 * 400) with g | g
  · have := dby_far (y + 1) (2000 + n / 146097 * 400) (by omega)
    omega
  · exact g
 exact rdate_years h (by omega) (y - (2000 + n / 146097 * 400)).toNat _ _ hle (by omega) (by omega) (by rw [e]; omega) (by omega)
theorem rdate_no {n : Int} (hc : ¬ CanDay n) : Ev (fun k => kB.f k n) (0, 0, 0, 10) := by
 unfold kB.f
 refine Ev.bind (rcan_ev n) ?_
 simp only [decide_eq_true_eq, if_neg hc]
 exact Ev.now _
theorem rshift_ev {n y m d q : Int} (h : IsDate n y m d) (hc : CanDay n) (hk : MonthsOk q) :
 Ev (fun k => kV.f k n q) (if DateOk (shY y m q) (shM y m q) (shD y m d q) then (dnum (shY y m q) (shM y m q) (shD y m d q), 0) else (0, 10)) := by
 have hk' := hk
 unfold MonthsOk at hk'
 have hy := (can_of_year h).1 hc
 have h1 := h.m1
 have h2 := h.m12
 unfold kV.f
 refine Ev.bind (rdate_ev h hc) ?_
 simp only [if_true]
 simp only [if_neg (show ¬ q > 3600000 by omega), decide_eq_false (show ¬ q < -3600000 by omega)]
 refine Ev.step (f := fun k => (kC.f k (shY y m q) (shM y m q)).bind fun t => if d > t then (kC.f k (shY y m q) (shM y m q)).bind fun t' => (jA.f k (shY y m q) (shM y m q) t').bind fun b => some (b.1, b.2) else (jA.f k (shY y m q) (shM y m q) d).bind fun b => some (b.1, b.2)) (fun k => ?_) ?_
 · simp only [kV.j0]
   rw [if_neg (by simp)]
   rw [w64 (x := 12 * y) (by omega) (by omega), w64 (x := 12 * y + m) (by omega) (by omega), w64 (x := 12 * y + m - 1) (by omega) (by omega), w64 (x := 12 * y + m - 1 + q) (by omega) (by omega), rdiv_eq _ _ (by unfold I64; omega) (by omega) (by omega), rmod_eq _ _ (by omega) (by omega)]
   simp only [Option.bind_some]
   rw [w64 (x := (12 * y + m - 1 + q) % 12 + 1) (by omega) (by omega)]
   rfl
 · refine Ev.bind (rlen_ev _ _) ?_
   unfold shD
   by_cases hd : mlen (shY y m q) (shM y m q) < d
   · simp only [if_pos (show d > mlen (shY y m q) (shM y m q) from hd), if_pos hd]
     exact Ev.bind (rlen_ev _ _) (Ev.bind (rdays_ev _ _ _) (Ev.now _))
   · simp only [if_neg (show ¬ d > mlen (shY y m q) (shM y m q) from hd), if_neg hd]
     exact Ev.bind (rdays_ev _ _ _) (Ev.now _)
theorem rshift_no {n q : Int} (h : ¬ CanDay n ∨ ¬ MonthsOk q) : Ev (fun k => kV.f k n q) (0, 10) := by
 by_cases hc : CanDay n
 · have hk := h.resolve_left (fun f => f hc)
   unfold MonthsOk at hk
   obtain ⟨y1, m1, d1, hd⟩ := date_of n
   unfold kV.f
   refine Ev.bind (rdate_ev hd hc) ?_
   simp only [if_true]
   by_cases h1 : q > 3600000
   · simp only [if_pos h1]
     exact Ev.at1 fun k => by simp only [kV.j0]; rfl
   · simp only [if_neg h1, decide_eq_true (show q < -3600000 by omega)]
     exact Ev.at1 fun k => by simp only [kV.j0]; rfl
 · unfold kV.f
   refine Ev.bind (rdate_no hc) ?_
   exact Ev.at1 fun k => by simp only [kV.j0]; rfl
theorem radd_ev (a b : Int) (ha : I64 a) (hb : I64 b) : Ev (fun k => bV.f k a b) (out (a + b)) :=
 Ev.at0 fun k => by unfold bV.f wdRes; rw [if_pos ⟨decide_eq_true ha, decide_eq_true hb⟩]; rfl
theorem rsub_ev (a b : Int) (ha : I64 a) (hb : I64 b) : Ev (fun k => bL.f k a b) (out (a - b)) :=
 Ev.at0 fun k => by unfold bL.f wdRes; rw [if_pos ⟨decide_eq_true ha, decide_eq_true hb⟩]; rfl
theorem rdiv64_ev (a b : Int) (ha : I64 a) (hb : I64 b) (h0 : b ≠ 0) : Ev (fun k => qK.f k a b) (out (fl a b)) :=
 Ev.at0 fun k => by unfold qK.f wdRes; rw [if_neg h0, if_pos ⟨decide_eq_true ha, decide_eq_true hb⟩]; rfl
theorem rmod64_ev (a b : Int) (ha : I64 a) (hb : I64 b) (h0 : b ≠ 0) : Ev (fun k => qH.f k a b) (md a b, 0) :=
 Ev.at0 fun k => by unfold qH.f wdRes; rw [if_neg h0, if_pos ⟨decide_eq_true ha, decide_eq_true hb⟩]; rfl
theorem cmp64_eq (a b : Int) : vD.f a b = some (sgn a b) := by
 unfold vD.f zI.f sgn
 simp only [Option.bind_some, bne_self_eq_false, Bool.false_eq_true, if_false]
 by_cases h : a < b
 · rw [if_pos h, if_pos h]
 · rw [if_neg h, if_neg h]
   by_cases g : a > b
   · rw [if_pos g, if_pos g]
   · rw [if_neg g, if_neg (show ¬ b < a from g)]
theorem cmpi_eq (a b : Int) : cmp_Compare_int.f a b = some (sgn a b) := by
 unfold cmp_Compare_int.f qB.f sgn
 simp only [Option.bind_some, bne_self_eq_false, Bool.false_eq_true, if_false]
 by_cases h : a < b
 · rw [if_pos h, if_pos h]
 · rw [if_neg h, if_neg h]
   by_cases g : a > b
   · rw [if_pos g, if_pos g]
   · rw [if_neg g, if_neg (show ¬ b < a from g)]
theorem or_ev (a b : Int) : Ev (fun k => zN.f k [a, b]) (if a = 0 then b else a) := by
 refine Ev.of (zN.mono [a, b]) (k := 3) ?_
 have e0 : rd [a, b] 0 = a := rfl
 have e1 : rd [a, b] 1 = b := rfl
 have w1 : wrap64 1 = 1 := w64 (by omega) (by omega)
 have w2 : wrap64 2 = 2 := w64 (by omega) (by omega)
 unfold zN.f
 by_cases h : a = 0
 · subst h
   by_cases g : b = 0
   · subst g
     simp [zN.l0, e0, e1, w1, w2]
   · simp [zN.l0, e0, e1, w1, w2, g]
 · simp [zN.l0, e0, h]
def DIn (n : Int) : Prop := -2451507 ≤ n ∧ n ≤ 106751982
instance (n : Int) : Decidable (DIn n) := inferInstanceAs (Decidable (_ ∧ _))
theorem dby_lo : dby (-4712) = -2451507 := by decide
theorem dby_hi : dby 294277 = 106751983 := by decide
theorem din_year {n y m d : Int} (h : IsDate n y m d) : (-4712 ≤ y ∧ y ≤ 294276) ↔ DIn n := by
 have g := h.year
 have a := dby_lo
 have b := dby_hi
 unfold DIn
 constructor
 · intro f
   have p := dby_far (-4712) y (by omega)
   have q := dby_far (y + 1) 294277 (by omega)
   omega
 · intro f
   constructor
   · rcases Int.lt_or_le y (-4712) with z | z
     · have p := dby_far (y + 1) (-4712) (by omega)
       omega
     · exact z
   · rcases Int.lt_or_le 294276 y with z | z
     · have p := dby_far 294277 y (by omega)
       omega
     · exact z
theorem din_can {n : Int} (h : DIn n) : CanDay n := by unfold DIn at h; unfold CanDay; omega
theorem din_i64 {n : Int} (h : DIn n) : I64 n := by unfold DIn at h; unfold I64; omega
theorem inside_eq (n : Int) : zY.f n = some (decide (DIn n)) := by
 unfold zY.f
 by_cases hc : CanDay n
 · obtain ⟨y, m, d, h⟩ := date_of n
   rw [date_eq h hc]
   have e := din_year h
   simp only [Option.bind_some, if_true]
   by_cases g : y ≥ -4712
   · rw [if_pos g]; congr 1; apply decide_eq_decide.2; rw [← e]; omega
   · rw [if_neg g, decide_eq_false]; rw [← e]; omega
 · rw [date_no hc]
   simp only [Option.bind_some]
   rw [if_neg (by decide), decide_eq_false (fun f => hc (din_can f))]
theorem rinside_ev (n : Int) : Ev (fun k => kJ.f k n) (decide (DIn n)) := by
 unfold kJ.f
 by_cases hc : CanDay n
 · obtain ⟨y, m, d, h⟩ := date_of n
   have e := din_year h
   refine Ev.bind (rdate_ev h hc) ?_
   refine Ev.pos rfl ?_
   by_cases g : y ≥ -4712
   · refine Ev.pos g (Ev.cast (Ev.now _) ?_)
     apply decide_eq_decide.2; rw [← e]; show y ≤ 294276 ↔ _; omega
   · refine Ev.neg g (Ev.cast (Ev.now _) ?_)
     rw [decide_eq_false]; rw [← e]; omega
 · refine Ev.bind (rdate_no hc) ?_
   refine Ev.neg (by decide) (Ev.cast (Ev.now _) ?_)
   rw [decide_eq_false (fun f => hc (din_can f))]
def made (n : Int) : Int × Int × Int := if DIn n then (0, n, 0) else (0, 0, 10)
def madeE (n e : Int) : Int × Int × Int := if e = 0 then made n else (0, 0, 10)
theorem finite_eq (n e : Int) : zT.f n e = some (madeE n e) := by
 unfold zT.f madeE made
 by_cases h : e = 0
 · rw [if_pos h, if_pos h, inside_eq]
   simp only [Option.bind_some, decide_eq_true_eq]
   split <;> rfl
 · rw [if_neg h, if_neg h]
theorem rmade_ev (n e : Int) : Ev (fun k => bK.f k n e) (madeE n e) := by
 unfold bK.f madeE made
 by_cases h : e = 0
 · rw [if_pos h]
   refine Ev.pos h (Ev.bind (rinside_ev n) ?_)
   by_cases g : DIn n
   · rw [if_pos g]; exact Ev.pos (decide_eq_true g) (Ev.now _)
   · rw [if_neg g]; exact Ev.neg (by rw [decide_eq_false g]; simp) (Ev.now _)
 · refine Ev.neg h ?_; rw [if_neg h]; exact Ev.now _
theorem madeE_out (z : Int) : madeE (out z).1 (out z).2 = made z := by
 by_cases h : I64 z
 · rw [out_in h]; rfl
 · rw [out_no h]
   unfold madeE made
   rw [if_neg (by decide), if_neg (fun f => h (din_i64 f))]
def DR (i n : Int) : Prop := (i = 0 ∧ DIn n) ∨ ((i = -1 ∨ i = 1) ∧ n = 0)
instance (i n : Int) : Decidable (DR i n) := inferInstanceAs (Decidable (_ ∨ _))
theorem dr_fin {n : Int} : DR 0 n ↔ DIn n := by unfold DR DIn; omega
theorem dright_eq (i n : Int) : zX.f i n = some (decide (DR i n)) := by
 unfold zX.f
 simp only [Bool.and_eq_true, beq_iff_eq]
 by_cases h1 : i = -1 ∧ n = 0
 · rw [if_pos h1, decide_eq_true (show DR i n from .inr ⟨.inl h1.1, h1.2⟩)]
 · rw [if_neg h1]
   by_cases h2 : i = 1 ∧ n = 0
   · rw [if_pos h2, decide_eq_true (show DR i n from .inr ⟨.inr h2.1, h2.2⟩)]
   · rw [if_neg h2]
     by_cases h3 : i = 0
     · subst h3
       rw [if_pos rfl, inside_eq]
       simp only [Option.bind_some]
       congr 1; exact decide_eq_decide.2 dr_fin.symm
     · rw [if_neg h3, decide_eq_false (show ¬ DR i n by unfold DR; omega)]
theorem rdright_ev (i n : Int) : Ev (fun k => kN.f k i n) (decide (DR i n)) := by
 unfold kN.f
 have e : (n == 0) = decide (n = 0) := rfl
 by_cases h : i = 0
 · subst h
   refine Ev.pos rfl (Ev.bind (rinside_ev n) (Ev.cast (Ev.now _) ?_))
   exact decide_eq_decide.2 dr_fin.symm
 · refine Ev.neg h ?_
   by_cases h1 : i = -1
   · refine Ev.pos h1 (Ev.cast (Ev.now _) ?_)
     rw [e]; apply decide_eq_decide.2; unfold DR; omega
   · refine Ev.neg h1 ?_
     by_cases h2 : i = 1
     · refine Ev.pos h2 (Ev.cast (Ev.now _) ?_)
       rw [e]; apply decide_eq_decide.2; unfold DR; omega
     · refine Ev.neg h2 (Ev.cast (Ev.now _) ?_)
       rw [decide_eq_false (show ¬ DR i n by unfold DR; omega)]
theorem dparts_ev (i n : Int) : ∃ r, vA.f i n = some r ∧ Ev (fun k => jM.f k i n) r := by
 by_cases h : DR i n
 · by_cases g : i = 0
   · have hn : DIn n := by subst g; exact dr_fin.1 h
     obtain ⟨y, m, d, hd⟩ := date_of n
     refine ⟨(y, m, d, 0), ?_, ?_⟩
     · unfold vA.f
       rw [dright_eq, decide_eq_true h]
       simp only [Option.bind_some, if_true]
       rw [if_pos g, date_eq hd (din_can hn)]; rfl
     · unfold jM.f
       refine Ev.bind (rdright_ev i n) (Ev.pos (decide_eq_true h) (Ev.pos g (Ev.bind (rdate_ev hd (din_can hn)) (Ev.now _))))
   · refine ⟨(0, 0, 0, 10), ?_, ?_⟩
     · unfold vA.f
       rw [dright_eq, decide_eq_true h]
       simp only [Option.bind_some, if_true]
       rw [if_neg g]
     · unfold jM.f
       exact Ev.bind (rdright_ev i n) (Ev.pos (decide_eq_true h) (Ev.neg g (Ev.now _)))
 · refine ⟨(0, 0, 0, 1), ?_, ?_⟩
   · unfold vA.f
     rw [dright_eq, decide_eq_false h]
     rfl
   · unfold jM.f
     exact Ev.bind (rdright_ev i n) (Ev.neg (by rw [decide_eq_false h]; simp) (Ev.now _))
def addD (i n q : Int) : Int × Int × Int := if DR i n then (if i = 0 then made (n + q) else (i, n, 0)) else (0, 0, 1)
theorem dr_i64 {i n : Int} (h : DR i n) : I64 n := by unfold DR DIn at h; unfold I64; omega
theorem addD_eq (i n q : Int) (hq : I64 q) : qU.f i n q = some (addD i n q) := by
 unfold qU.f jS.f addD
 rw [dright_eq]
 by_cases h : DR i n
 · rw [decide_eq_true h, if_pos h]
   simp only [Option.bind_some, if_true]
   by_cases g : i = 0
   · rw [if_pos g, if_pos g, add_eq n q (dr_i64 h) hq]
     simp only [Option.bind_some]
     rw [finite_eq, madeE_out]
     rfl
   · rw [if_neg g, if_neg g]; rfl
 · rw [decide_eq_false h, if_neg h]; rfl
theorem raddD_ev (i n q : Int) (hq : I64 q) : Ev (fun k => bE.f k i n q) (addD i n q) := by
 unfold bE.f addD
 refine Ev.bind (rdright_ev i n) ?_
 by_cases h : DR i n
 · rw [if_pos h]
   refine Ev.pos (decide_eq_true h) ?_
   by_cases g : i = 0
   · rw [if_pos g]
     refine Ev.pos g (Ev.bind (radd_ev n q (dr_i64 h) hq) ?_)
     refine Ev.bind (rmade_ev _ _) ?_
     rw [madeE_out]
     exact Ev.now _
   · refine Ev.neg g ?_; rw [if_neg g]; exact Ev.now _
 · rw [if_neg h]
   exact Ev.neg (by rw [decide_eq_false h]; simp) (Ev.now _)
def lex (i n j m : Int) : Int := if sgn i j = 0 then sgn n m else sgn i j
theorem rorder_ev (i n j m : Int) : Ev (fun k => bN.f k i j n m) (lex i n j m) := by
 unfold bN.f lex
 rcases Int.lt_trichotomy i j with h | h | h
 · rw [sgn_lt h, if_neg (by decide)]
   refine Ev.pos h (Ev.succ ?_)
   simp only [bN.j0, if_true]
   exact Ev.now _
 · rw [sgn_eq h, if_pos rfl]
   refine Ev.neg (by omega) (Ev.pos h (Ev.succ ?_))
   rcases Int.lt_trichotomy n m with g | g | g
   · rw [sgn_lt g, decide_eq_true g]
     simp only [bN.j0, if_true]
     exact Ev.now _
   · rw [sgn_eq g, decide_eq_false (by omega)]
     simp only [bN.j0, Bool.false_eq_true, if_false]
     exact Ev.neg (by omega) (Ev.neg (by omega) (Ev.now _))
   · rw [sgn_gt g, decide_eq_false (by omega)]
     simp only [bN.j0, Bool.false_eq_true, if_false]
     exact Ev.neg (by omega) (Ev.pos g (Ev.now _))
 · rw [sgn_gt h, if_neg (by decide)]
   refine Ev.neg (by omega) (Ev.neg (by omega) (Ev.succ ?_))
   simp only [bN.j0, Bool.false_eq_true, if_false]
   exact Ev.pos h (Ev.now _)
def DRS (i u : Int) : Prop := (i = 0 ∧ DIn (u / 86400000000)) ∨ ((i = -1 ∨ i = 1) ∧ u = 0)
instance (i u : Int) : Decidable (DRS i u) := inferInstanceAs (Decidable (_ ∨ _))
theorem drs_fin {u : Int} : DRS 0 u ↔ DIn (u / 86400000000) := by unfold DRS DIn; omega
theorem drightS_ev (i u : Int) (hu : I64 u) : Ev (fun k => kU.f k i u) (decide (DRS i u)) := by
 unfold kU.f
 refine Ev.bind (Ev.at1 fun k => split_eq k u hu) ?_
 simp only [Bool.and_eq_true, beq_iff_eq]
 by_cases h1 : i = -1 ∧ u = 0
 · exact Ev.pos h1 (Ev.cast (Ev.now _) (decide_eq_true (show DRS i u from .inr ⟨.inl h1.1, h1.2⟩)).symm)
 · refine Ev.neg h1 ?_
   by_cases h2 : i = 1 ∧ u = 0
   · exact Ev.pos h2 (Ev.cast (Ev.now _) (decide_eq_true (show DRS i u from .inr ⟨.inr h2.1, h2.2⟩)).symm)
   · refine Ev.neg h2 ?_
     by_cases h3 : i = 0
     · subst h3
       refine Ev.pos rfl (Ev.bind0 (inside_eq _) (Ev.cast (Ev.now _) ?_))
       exact decide_eq_decide.2 drs_fin.symm
     · refine Ev.neg h3 (Ev.cast (Ev.now _) ?_)
       rw [decide_eq_false (show ¬ DRS i u by unfold DRS; omega)]
theorem rsplit_ev (u : Int) (hu : I64 u) : Ev (fun k => bM.f k u) (u / 86400000000, u % 86400000000) := by
 have hb : I64 86400000000 := by unfold I64; omega
 unfold bM.f
 refine Ev.bind (rdiv64_ev u 86400000000 hu hb (by decide)) ?_
 refine Ev.bind (rmod64_ev u 86400000000 hu hb (by decide)) ?_
 refine Ev.cast (Ev.now _) ?_
 rw [fl_pos (by decide), md_pos (by decide), out_in (by unfold I64 at *; omega)]
theorem vH (i u : Int) (hu : I64 u) : Ev (fun k => kA.f k i u) (decide (DRS i u)) := by
 unfold kA.f
 have e : (u == 0) = decide (u = 0) := rfl
 by_cases h : i = 0
 · subst h
   refine Ev.pos rfl (Ev.bind (rsplit_ev u hu) (Ev.bind (rinside_ev _) (Ev.cast (Ev.now _) ?_)))
   exact decide_eq_decide.2 drs_fin.symm
 · refine Ev.neg h ?_
   by_cases h1 : i = -1
   · refine Ev.pos h1 (Ev.cast (Ev.now _) ?_)
     rw [e]; apply decide_eq_decide.2; unfold DRS; omega
   · refine Ev.neg h1 ?_
     by_cases h2 : i = 1
     · refine Ev.pos h2 (Ev.cast (Ev.now _) ?_)
       rw [e]; apply decide_eq_decide.2; unfold DRS; omega
     · refine Ev.neg h2 (Ev.cast (Ev.now _) ?_)
       rw [decide_eq_false (show ¬ DRS i u by unfold DRS; omega)]
def ofD (i u : Int) : Int × Int × Int × Int := if DRS i u then (if i = 0 then (0, u / 86400000000, u % 86400000000, 0) else (i, 0, 0, 0)) else (0, 0, 0, 1)
theorem ofD_ev (i u : Int) (hu : I64 u) : Ev (fun k => qF.f k i u) (ofD i u) := by
 unfold qF.f ofD
 refine Ev.bind (drightS_ev i u hu) ?_
 by_cases h : DRS i u
 · rw [if_pos h]
   refine Ev.pos (decide_eq_true h) ?_
   by_cases g : i = 0
   · refine Ev.pos g ?_; rw [if_pos g]; exact Ev.bind (Ev.at1 fun k => split_eq k u hu) (Ev.now _)
   · refine Ev.neg g ?_; rw [if_neg g]; exact Ev.now _
 · rw [if_neg h]
   exact Ev.neg (by rw [decide_eq_false h]; simp) (Ev.now _)
theorem rofD_ev (i u : Int) (hu : I64 u) : Ev (fun k => kZ.f k i u) (ofD i u) := by
 unfold kZ.f ofD
 refine Ev.bind (vH i u hu) ?_
 by_cases h : DRS i u
 · rw [if_pos h]
   refine Ev.pos (decide_eq_true h) ?_
   by_cases g : i = 0
   · refine Ev.pos g ?_; rw [if_pos g]; exact Ev.bind (rsplit_ev u hu) (Ev.now _)
   · refine Ev.neg g ?_; rw [if_neg g]; exact Ev.now _
 · rw [if_neg h]
   exact Ev.neg (by rw [decide_eq_false h]; simp) (Ev.now _)
def cmpT (i u j v : Int) : Int := if DRS i u ∧ DRS j v then lex i u j v else 0
theorem cmpT_ev (i u j v : Int) (hu : I64 u) (hv : I64 v) : Ev (fun k => jJ.f k i u j v) (cmpT i u j v) := by
 unfold jJ.f cmpT
 refine Ev.bind (drightS_ev i u hu) ?_
 by_cases h : DRS i u
 · refine Ev.pos (decide_eq_true h) (Ev.bind (drightS_ev j v hv) (Ev.succ ?_))
   by_cases g : DRS j v
   · rw [if_pos ⟨h, g⟩, decide_eq_true g]
     simp only [jJ.j0, Bool.not_true, Bool.false_eq_true, if_false]
     exact Ev.bind0 (cmpi_eq i j) (Ev.bind0 (cmp64_eq u v) (Ev.bind (or_ev _ _) (Ev.now _)))
   · rw [if_neg (fun f => g f.2), decide_eq_false g]
     simp only [jJ.j0, Bool.not_false, if_true]
     exact Ev.now _
 · rw [if_neg (fun f => h f.1)]
   refine Ev.neg (by rw [decide_eq_false h]; simp) (Ev.succ ?_)
   simp only [jJ.j0, if_true]
   exact Ev.now _
theorem rcmpT_ev (i u j v : Int) (hu : I64 u) (hv : I64 v) : Ev (fun k => jT.f k i u j v) (cmpT i u j v) := by
 unfold jT.f cmpT
 refine Ev.bind (vH i u hu) ?_
 by_cases h : DRS i u
 · refine Ev.pos (decide_eq_true h) (Ev.bind (vH j v hv) ?_)
   by_cases g : DRS j v
   · rw [if_pos ⟨h, g⟩]
     exact Ev.pos (decide_eq_true g) (Ev.bind (rorder_ev i u j v) (Ev.now _))
   · rw [if_neg (fun f => g f.2)]
     exact Ev.neg (by rw [decide_eq_false g]; simp) (Ev.now _)
 · rw [if_neg (fun f => h f.1)]
   exact Ev.neg (by rw [decide_eq_false h]; simp) (Ev.now _)
def stampD (i n t : Int) : Int × Int × Int :=
 if DR i n ∧ 0 ≤ t ∧ t ≤ 86400000000 then (if i = 0 then (if DIn ((n * 86400000000 + t) / 86400000000) then (0, n * 86400000000 + t, 0) else (0, 0, 10)) else (i, 0, 0)) else (0, 0, 1)
theorem stampD_j0 (i n t : Int) (h : DR i n ∧ 0 ≤ t ∧ t ≤ 86400000000) : Ev (fun k => bO.j0 k t false i n) (stampD i n t) := by
 obtain ⟨h, h0, h1⟩ := h
 unfold stampD
 rw [if_pos ⟨h, h0, h1⟩]
 refine Ev.succ ?_
 simp only [bO.j0, Bool.false_eq_true, if_false]
 by_cases g : i = 0
 · rw [if_pos g]
   have hn : DIn n := by subst g; exact dr_fin.1 h
   have b : -211810204800000000 ≤ n * 86400000000 ∧ n * 86400000000 ≤ 9223371244800000000 := by unfold DIn at hn; omega
   refine Ev.pos g (Ev.bind (Ev.at1 fun k => mul_eq k n 86400000000 (din_i64 hn) (by unfold I64; omega)) ?_)
   rw [out_in (z := n * 86400000000) (by unfold I64; omega)]
   refine Ev.pos rfl (Ev.bind0 (add_eq _ t (by unfold I64; omega) (by unfold I64; omega)) ?_)
   rw [out_in (z := n * 86400000000 + t) (by unfold I64; omega)]
   refine Ev.pos rfl (Ev.bind (drightS_ev 0 _ (by unfold I64; omega)) ?_)
   by_cases z : DIn ((n * 86400000000 + t) / 86400000000)
   · rw [if_pos z]
     exact Ev.pos (decide_eq_true (.inl ⟨rfl, z⟩)) (Ev.now _)
   · rw [if_neg z]
     refine Ev.neg ?_ (Ev.now _)
     rw [decide_eq_false]
     · simp
     · intro f
       rcases f with f | f
       · exact z f.2
       · omega
 · refine Ev.neg g ?_
   rw [if_neg g]
   exact Ev.now _
theorem stampD_ev (i n t : Int) : Ev (fun k => bO.f k i n t) (stampD i n t) := by
 unfold bO.f
 refine Ev.bind0 (dright_eq i n) ?_
 have no : ¬ (DR i n ∧ 0 ≤ t ∧ t ≤ 86400000000) → Ev (fun k => bO.j0 k t true i n) (stampD i n t) := by
  intro f
  unfold stampD
  rw [if_neg f]
  refine Ev.succ ?_
  simp only [bO.j0, if_true]
  exact Ev.now _
 by_cases h : DR i n
 · refine Ev.pos (decide_eq_true h) ?_
   by_cases h0 : t < 0
   · exact Ev.pos h0 (no (by omega))
   · refine Ev.neg h0 ?_
     by_cases h1 : t > 86400000000
     · rw [decide_eq_true h1]; exact no (by omega)
     · rw [decide_eq_false h1]; exact stampD_j0 i n t ⟨h, by omega, by omega⟩
 · exact Ev.neg (by rw [decide_eq_false h]; simp) (no (fun f => h f.1))
theorem rstampD_j0 (i n t : Int) (h : DR i n ∧ 0 ≤ t ∧ t ≤ 86400000000) : Ev (fun k => kI.j0 k t false i n) (stampD i n t) := by
 obtain ⟨h, h0, h1⟩ := h
 unfold stampD
 rw [if_pos ⟨h, h0, h1⟩]
 refine Ev.succ ?_
 simp only [kI.j0, Bool.false_eq_true, if_false]
 by_cases g : i = 0
 · rw [if_pos g]
   have hn : DIn n := by subst g; exact dr_fin.1 h
   have b : -211810204800000000 ≤ n * 86400000000 ∧ n * 86400000000 ≤ 9223371244800000000 := by unfold DIn at hn; omega
   refine Ev.pos g ?_
   by_cases y : t = 86400000000
   · refine Ev.pos y ?_
     have e1 : wrap64 (n + 1) = n + 1 := by unfold DIn at hn; rw [w64 (by omega) (by omega)]
     have e2 : wrap64 (wrap64 ((n + 1) * 86400000000)) = n * 86400000000 + t := by
      rw [w64 (x := (n + 1) * 86400000000) (by omega) (by omega), w64 (by omega) (by omega)]; omega
     have e3 : (n * 86400000000 + t) / 86400000000 = n + 1 := by omega
     rw [e1, e2, e3]
     refine Ev.bind (rinside_ev _) ?_
     by_cases z : DIn (n + 1)
     · rw [if_pos z]; exact Ev.pos (decide_eq_true z) (Ev.now _)
     · rw [if_neg z]; exact Ev.neg (by rw [decide_eq_false z]; simp) (Ev.now _)
   · refine Ev.neg y ?_
     have e2 : wrap64 (wrap64 (n * 86400000000) + t) = n * 86400000000 + t := by
      rw [w64 (x := n * 86400000000) (by omega) (by omega), w64 (by omega) (by omega)]
     have e3 : (n * 86400000000 + t) / 86400000000 = n := by omega
     rw [e2, e3, if_pos hn]
     exact Ev.bind (rinside_ev _) (Ev.pos (decide_eq_true hn) (Ev.now _))
 · refine Ev.neg g ?_
   rw [if_neg g]
   exact Ev.now _
theorem rstampD_ev (i n t : Int) : Ev (fun k => kI.f k i n t) (stampD i n t) := by
 unfold kI.f
 refine Ev.bind (rdright_ev i n) ?_
 have no : ¬ (DR i n ∧ 0 ≤ t ∧ t ≤ 86400000000) → Ev (fun k => kI.j0 k t true i n) (stampD i n t) := by
  intro f
  unfold stampD
  rw [if_neg f]
  refine Ev.succ ?_
  simp only [kI.j0, if_true]
  exact Ev.now _
 by_cases h : DR i n
 · refine Ev.pos (decide_eq_true h) ?_
   by_cases h0 : t < 0
   · exact Ev.pos h0 (no (by omega))
   · refine Ev.neg h0 ?_
     by_cases h1 : t > 86400000000
     · rw [decide_eq_true h1]; exact no (by omega)
     · rw [decide_eq_false h1]; exact rstampD_j0 i n t ⟨h, by omega, by omega⟩
 · exact Ev.neg (by rw [decide_eq_false h]; simp) (no (fun f => h f.1))
def SOk (i m d u : Int) : Prop :=
 (i = 0 ∧ -2147483647 ≤ m ∧ m ≤ 2147483647 ∧ -2147483647 ≤ d ∧ d ≤ 2147483647 ∧ -9223372036854775807 ≤ u ∧ u ≤ 9223372036854775807) ∨ ((i = -1 ∨ i = 1) ∧ m = 0 ∧ d = 0 ∧ u = 0)
instance (i m d u : Int) : Decidable (SOk i m d u) := inferInstanceAs (Decidable (_ ∨ _))
theorem within_eq (n : Int) : qO.f n = some (decide (-2147483647 ≤ n ∧ n ≤ 2147483647)) := by
 unfold qO.f
 by_cases h : n ≥ -2147483647
 · rw [if_pos h]; congr 1; apply decide_eq_decide.2; omega
 · rw [if_neg h, decide_eq_false (by omega)]
theorem rwithin_eq (n L : Int) (h0 : 0 ≤ L) (h1 : L ≤ 9223372036854775807) : jC.f n L = some (decide (-L ≤ n ∧ n ≤ L)) := by
 unfold jC.f
 rw [w64 (by omega) (by omega)]
 by_cases h : n ≥ -L
 · rw [if_pos h]; congr 1; apply decide_eq_decide.2; omega
 · rw [if_neg h, decide_eq_false (by omega)]
theorem zeros_iff (m d u : Int) : ((m == 0 && (d == 0 && (u == 0))) = true) ↔ (m = 0 ∧ d = 0 ∧ u = 0) := by simp
theorem sright_eq (i m d u : Int) (hu : I64 u) : qG.f i m d u = some (decide (SOk i m d u)) := by
 unfold qG.f
 by_cases h : i = 0
 · rw [if_pos h, neg_eq u hu, within_eq, within_eq]
   simp only [Option.bind_some, decide_eq_true_eq]
   have e : ((out (-u)).2 == 0) = decide (-9223372036854775807 ≤ u) := by
    unfold I64 at hu
    by_cases g : -9223372036854775807 ≤ u
    · rw [decide_eq_true g, out_in (by unfold I64; omega)]; rfl
    · rw [decide_eq_false g, out_no (by unfold I64; omega)]; rfl
   unfold I64 at hu
   by_cases h1 : -2147483647 ≤ m ∧ m ≤ 2147483647
   · rw [if_pos h1]
     by_cases h2 : -2147483647 ≤ d ∧ d ≤ 2147483647
     · rw [if_pos h2, e]; congr 1; apply decide_eq_decide.2; unfold SOk; omega
     · rw [if_neg h2, decide_eq_false (by unfold SOk; omega)]
   · rw [if_neg h1, decide_eq_false (by unfold SOk; omega)]
 · rw [if_neg h]
   by_cases h1 : m = 0 ∧ d = 0 ∧ u = 0
   · rw [if_pos ((zeros_iff m d u).2 h1)]
     by_cases h2 : i ≥ -1
     · rw [if_pos h2]; congr 1; apply decide_eq_decide.2; unfold SOk; omega
     · rw [if_neg h2, decide_eq_false (by unfold SOk; omega)]
   · rw [if_neg (fun f => h1 ((zeros_iff m d u).1 f)), decide_eq_false (by unfold SOk; omega)]
theorem rsright_eq (i m d u : Int) : jB.f i m d u = some (decide (SOk i m d u)) := by
 unfold jB.f
 rw [rwithin_eq m _ (by omega) (by omega), rwithin_eq d _ (by omega) (by omega), rwithin_eq u _ (by omega) (by omega)]
 simp only [Option.bind_some, decide_eq_true_eq]
 have e : (u == 0) = decide (u = 0) := rfl
 by_cases h : i = 0
 · rw [if_pos h]
   by_cases h1 : -2147483647 ≤ m ∧ m ≤ 2147483647
   · rw [if_pos h1]
     by_cases h2 : -2147483647 ≤ d ∧ d ≤ 2147483647
     · rw [if_pos h2]; congr 1; apply decide_eq_decide.2; unfold SOk; omega
     · rw [if_neg h2, decide_eq_false (by unfold SOk; omega)]
   · rw [if_neg h1, decide_eq_false (by unfold SOk; omega)]
 · rw [if_neg h, e]
   have three : ∀ (j : Int), (j = -1 ∨ j = 1) → i = j → (if m = 0 then (if d = 0 then some (decide (u = 0)) else some false) else some false) = some (decide (SOk i m d u)) := by
    intro j hj hi
    by_cases h1 : m = 0
    · rw [if_pos h1]
      by_cases h2 : d = 0
      · rw [if_pos h2]; congr 1; apply decide_eq_decide.2; unfold SOk; omega
      · rw [if_neg h2, decide_eq_false (by unfold SOk; omega)]
    · rw [if_neg h1, decide_eq_false (by unfold SOk; omega)]
   by_cases h1 : i = -1
   · rw [if_pos h1]; exact three (-1) (.inl rfl) h1
   · rw [if_neg h1]
     by_cases h2 : i = 1
     · rw [if_pos h2]; exact three 1 (.inr rfl) h2
     · rw [if_neg h2, decide_eq_false (by unfold SOk; omega)]
end Go.Proofs.YtimgphlfaninnaaGreat.Civ
