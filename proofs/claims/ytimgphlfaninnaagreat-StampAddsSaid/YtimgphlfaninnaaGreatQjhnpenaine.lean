import Derived.Test.YtimgphlfaninnaaGreatQdnpmmldpid
import Derived.Test.YtimgphlfaninnaaGreatQjnpockodeo
import Derived.Test.YtimgphlfaninnaaGreatQkdfigepdkg
import Derived.Test.YtimgphlfaninnaaGreatQciogboaici
import Derived.Test.YtimgphlfaninnaaGreatQdfoehbdgao
namespace Go.Proofs.YtimgphlfaninnaaGreat.Zn
set_option linter.unusedVariables false
set_option linter.unusedSimpArgs false
open Go Go.Proofs.YtimgphlfaninnaaGreat.Civ Go.Proofs.YtimgphlfaninnaaGreat.Ft
structure Zt where
 nm : ByteArray
 at0 : Int
 off0 : Int
 d0 : Bool
 b0 : ByteArray
 n : Nat
 ta : Nat → Int
 tf : Nat → Int
 td : Nat → Bool
 tb : Nat → ByteArray
 F : Ft
def RowOk (z : Zt) (j : Nat) : Prop := (-57600 ≤ z.tf j ∧ z.tf j ≤ 57600) ∧ (-1125899906842624 ≤ z.ta j ∧ z.ta j ≤ 1125899906842624) ∧ (0 < j → z.ta (j - 1) < z.ta j)
def RowsOk (z : Zt) (i : Nat) : Prop := ∀ j, i ≤ j → j < z.n → RowOk z j
def HalfNo (h : Hf) : Prop := h.m = 0 ∧ h.k = 0 ∧ h.w = 0 ∧ h.n = 0 ∧ h.s = 0 ∧ h.c = 0 ∧ h.v = 0 ∧ h.ab.toList = ByteArray.toList ⟨#[]⟩
def FootNo (F : Ft) : Prop := F.fr = 0 ∧ F.off = 0 ∧ HalfNo F.a ∧ HalfNo F.b
def FootYes (z : Zt) : Prop := AskOk z.F z.F.fr ∧ (sI z.F (ix z.F z.F.fr)).t = z.F.fr ∧ 1800 ≤ yAt z.F.fr ∧ yAt z.F.fr ≤ 2110 ∧ (z.n = 0 ∨ z.ta (z.n - 1) < z.F.fr)
def ZtOk (z : Zt) : Prop := (-57600 ≤ z.off0 ∧ z.off0 ≤ 57600) ∧ z.at0 = 0 ∧ z.n ≤ 8192 ∧ RowsOk z 0 ∧ (if z.F.z = true then FootYes z else FootNo z.F)
noncomputable instance (z : Zt) : Decidable (ZtOk z) := Classical.propDecidable _
noncomputable instance (z : Zt) (i : Nat) : Decidable (RowsOk z i) := Classical.propDecidable _
def Asked (u : Int) : Prop := -4714 ≤ yAt u ∧ yAt u ≤ 294278
noncomputable instance (u : Int) : Decidable (Asked u) := inferInstanceAs (Decidable (_ ∧ _))
def kz (z : Zt) (u : Int) : Nat → Nat
 | 0 => 0
 | k + 1 => if z.ta k ≤ u then k + 1 else kz z u k
theorem kz_le (z : Zt) (u : Int) : ∀ n, kz z u n ≤ n
 | 0 => Nat.le_refl _
 | n + 1 => by
  unfold kz
  split
  · exact Nat.le_refl _
  · exact Nat.le_succ_of_le (kz_le z u n)
theorem rows_lt {z : Zt} (h : RowsOk z 0) : ∀ (d i : Nat), i + d + 1 < z.n → z.ta i < z.ta (i + d + 1)
 | 0, i, hi => (h (i + 1) (by omega) (by omega)).2.2 (by omega)
 | d + 1, i, hi => by
  have a := rows_lt h d i (by omega)
  have b := (h (i + d + 2) (by omega) (by omega)).2.2 (by omega)
  simp only [show i + d + 2 - 1 = i + d + 1 by omega] at b
  rw [show i + (d + 1) + 1 = i + d + 2 by omega]
  omega
theorem rows_lt' {z : Zt} (h : RowsOk z 0) {i j : Nat} (hij : i < j) (hj : j < z.n) : z.ta i < z.ta j := by
 have := rows_lt h (j - i - 1) i (by omega)
 rwa [show i + (j - i - 1) + 1 = j by omega] at this
theorem kz_iff {z : Zt} (h : RowsOk z 0) (u : Int) : ∀ (n j : Nat), n ≤ z.n → j < n → (j < kz z u n ↔ z.ta j ≤ u)
 | n + 1, j, hn, hj => by
  unfold kz
  split
  · rename_i hu
    refine ⟨fun _ => ?_, fun _ => by omega⟩
    by_cases e : j = n
    · subst e; exact hu
    · have := rows_lt' h (i := j) (j := n) (by omega) (by omega); omega
  · rename_i hu
    by_cases e : j = n
    · subst e
      have := kz_le z u j
      exact ⟨fun g => by omega, fun g => (hu g).elim⟩
    · exact kz_iff h u n j (by omega) (by omega)
theorem kz_is {z : Zt} (h : RowsOk z 0) {u : Int} {k : Nat} (hk : k ≤ z.n) (h1 : k = 0 ∨ z.ta (k - 1) ≤ u) (h2 : k < z.n → u < z.ta k) : kz z u z.n = k := by
 have hle := kz_le z u z.n
 rcases Nat.lt_trichotomy (kz z u z.n) k with g | g | g
 · have a := kz_iff h u z.n (k - 1) (Nat.le_refl _) (by omega)
   have : k - 1 < kz z u z.n := a.2 (by rcases h1 with e | e; omega; exact e)
   omega
 · exact g
 · have a := (kz_iff h u z.n k (Nat.le_refl _) (by omega)).1 g
   have := h2 (by omega)
   omega
def rowTr (z : Zt) (k : Nat) : Tr := if k = 0 then ⟨z.at0, z.off0, z.d0, z.b0⟩ else ⟨z.ta (k - 1), z.tf (k - 1), z.td (k - 1), z.tb (k - 1)⟩
noncomputable def atZ (z : Zt) (u : Int) : Tr := if z.F.z = true ∧ z.F.fr ≤ u then sI z.F (ix z.F u) else rowTr z (kz z u z.n)
noncomputable def zErr (z : Zt) (u : Int) : Int := if ZtOk z then (if Asked u then 0 else 10) else 1
noncomputable def atE (z : Zt) (u : Int) : Tr := ⟨if zErr z u = 0 then (atZ z u).t else 0, if zErr z u = 0 then (atZ z u).off else 0, if zErr z u = 0 then (atZ z u).dst else false, if zErr z u = 0 then (atZ z u).ab else ⟨#[]⟩⟩
theorem yAt_low {u : Int} (h : -4714 ≤ yAt u) : -1125899906842624 ≤ u := by
 unfold yAt at h
 split at h
 · omega
 · rename_i g; unfold dOf at g; omega
theorem foot_off {F : Ft} (h : FtOk F) (i : Int) : -50400 ≤ (sI F i).off ∧ (sI F i).off ≤ 57600 := by
 have key : ∀ {a b : Hf} {y : Int}, HfOk a → HfOk b → -50400 ≤ (tran a b F.off y).off ∧ (tran a b F.off y).off ≤ 57600 := fun ha hb => by
  have h1 := ha.2.2.2.2.1
  have h2 := ha.2.2.2.2.2
  have h3 := h.2.2.2.1
  have h4 := h.2.2.2.2.1
  unfold tran
  simp only
  omega
 unfold sI tr
 split
 · exact key h.fst h.snd
 · exact key h.snd h.fst
theorem ZtOk.foot {z : Zt} (h : ZtOk z) (hz : z.F.z = true) : FootYes z := by have := h.2.2.2.2; rwa [if_pos hz] at this
theorem ZtOk.rows {z : Zt} (h : ZtOk z) : RowsOk z 0 := h.2.2.2.1
theorem atZ_off {z : Zt} (h : ZtOk z) (u : Int) : -57600 ≤ (atZ z u).off ∧ (atZ z u).off ≤ 57600 := by
 unfold atZ
 split
 · rename_i hz
   have := foot_off (h.foot hz.1).1.1 (ix z.F u)
   omega
 · unfold rowTr
   split
   · exact h.1
   · rename_i hk
     have := kz_le z u z.n
     exact (h.rows (kz z u z.n - 1) (by omega) (by omega)).1
theorem yOf_mono {m n : Int} (h : m ≤ n) : yOf m ≤ yOf n := by
 obtain ⟨a1, a2⟩ := yOf_spec m
 obtain ⟨b1, b2⟩ := yOf_spec n
 rcases Int.lt_or_le (yOf n) (yOf m) with g | g
 · have := dby_far (yOf n + 1) (yOf m) (by omega)
   omega
 · exact g
theorem asked_bd {u : Int} (h : Asked u) : -300000000000000 ≤ u ∧ u ≤ 10000000000000 := by
 obtain ⟨h1, h2⟩ := h
 obtain ⟨_, a, b⟩ := yAt_in (u := u) (by omega) (by omega)
 unfold dOf at a b
 omega
theorem asked_mid {a b u : Int} (ha : Asked a) (hb : Asked b) (h1 : a ≤ u) (h2 : u ≤ b) : Asked u := by
 obtain ⟨a0, a1, a2⟩ := yAt_in (u := a) (by have := ha.1; omega) (by have := ha.2; omega)
 obtain ⟨b0, b1, b2⟩ := yAt_in (u := b) (by have := hb.1; omega) (by have := hb.2; omega)
 have d1 : dOf a ≤ dOf u := by unfold dOf; omega
 have d2 : dOf u ≤ dOf b := by unfold dOf; omega
 have e : yAt u = yOf (dOf u) := by unfold yAt; rw [if_neg (by omega), if_neg (by omega)]
 have m1 := yOf_mono d1
 have m2 := yOf_mono d2
 have := ha.1
 have := hb.2
 unfold Asked
 rw [e]
 omega
theorem ix_mono {F : Ft} (h : FtOk F) {u v : Int} (huv : u ≤ v) : ix F u ≤ ix F v := by
 obtain ⟨a1, a2⟩ := ix_spec h u
 obtain ⟨b1, b2⟩ := ix_spec h v
 rcases Int.lt_or_le (ix F v) (ix F u) with g | g
 · have := sI_le h (i := ix F v + 1) (j := ix F u) (by omega); omega
 · exact g
theorem next_le {F : Ft} (h : FtOk F) (u v : Int) : (sI F (ix F u + 1)).t ≤ v ↔ ix F u + 1 ≤ ix F v := by
 obtain ⟨b1, b2⟩ := ix_spec h v
 constructor
 · intro g
   rcases Int.lt_or_le (ix F v) (ix F u + 1) with q | q
   · have := sI_le h (i := ix F v + 1) (j := ix F u + 1) (by omega); omega
   · exact q
 · intro g
   have := sI_le h g
   omega
theorem ix_next {F : Ft} (h : FtOk F) (u : Int) : ix F (sI F (ix F u + 1)).t = ix F u + 1 := ix_is h (Int.le_refl _) (sI_lt h (by omega))
end Go.Proofs.YtimgphlfaninnaaGreat.Zn
namespace Go.Proofs.YtimgphlfaninnaaGreat.P
open Go.RowKit Go.Proofs.YtimgphlfaninnaaGreat.Ft Go.Proofs.YtimgphlfaninnaaGreat.Zn
set_option linter.unusedVariables false
set_option linter.unusedSimpArgs false
open A
def iOf : AV → Int
 | .int _ n => n
 | _ => 0
def bOf : AV → Bool
 | .bool b => b
 | _ => false
def sOf : AV → ByteArray
 | .str s => s
 | _ => ⟨#[]⟩
def znRow (z : Zt) : Nat → Nat → AV := fun i k => match k with
 | 0 => .int .i64 (z.ta i)
 | 1 => .int .i64 (z.tf i)
 | 2 => .bool (z.td i)
 | _ => .str (z.tb i)
def avZ (z : Zt) : List AV := [.str z.nm, .int .i64 z.at0, .int .i64 z.off0, .bool z.d0, .str z.b0, .csl 4 z.n (znRow z), .bool z.F.z, .int .i64 z.F.fr, .int .i64 z.F.off, .int .i64 z.F.a.m, .int .i64 z.F.a.k, .int .i64 z.F.a.w, .int .i64 z.F.a.n, .int .i64 z.F.a.s, .int .u8 z.F.a.c, .int .i64 z.F.a.v, .str z.F.a.ab, .int .i64 z.F.b.m, .int .i64 z.F.b.k, .int .i64 z.F.b.w, .int .i64 z.F.b.n, .int .i64 z.F.b.s, .int .u8 z.F.b.c, .int .i64 z.F.b.v, .str z.F.b.ab]
noncomputable def tyR (n : Nat) (c : Nat → Nat → AV) : Bool := @decide (∀ i, i < n → c i 0 = .int .i64 (iOf (c i 0)) ∧ c i 1 = .int .i64 (iOf (c i 1)) ∧ c i 2 = .bool (bOf (c i 2)) ∧ c i 3 = .str (sOf (c i 3))) (Classical.propDecidable _)
noncomputable def bdZ (F : Ft) : Bool := decide (-9223372036854775808 ≤ F.fr ∧ F.fr ≤ 9223372036854775807 ∧ -9223372036854775808 ≤ F.a.m ∧ F.a.m ≤ 9223372036854775807 ∧ -9223372036854775808 ≤ F.b.m ∧ F.b.m ≤ 9223372036854775807)
noncomputable def rdZ : List AV → Option (Bool × Zt)
 | [.str nm, .int .i64 at0, .int .i64 off0, .bool d0, .str b0, .csl 4 n c, .bool z, .int .i64 fr, .int .i64 off, .int .i64 m1, .int .i64 k1, .int .i64 w1, .int .i64 n1, .int .i64 s1, .int .u8 c1, .int .i64 v1, .str b1, .int .i64 m2, .int .i64 k2, .int .i64 w2, .int .i64 n2, .int .i64 s2, .int .u8 c2, .int .i64 v2, .str b2] =>
  some (tyR n c && bdZ ⟨z, fr, off, ⟨m1, k1, w1, n1, s1, c1, v1, b1⟩, ⟨m2, k2, w2, n2, s2, c2, v2, b2⟩⟩, ⟨nm, at0, off0, d0, b0, n, fun i => iOf (c i 0), fun i => iOf (c i 1), fun i => bOf (c i 2), fun i => sOf (c i 3), ⟨z, fr, off, ⟨m1, k1, w1, n1, s1, c1, v1, b1⟩, ⟨m2, k2, w2, n2, s2, c2, v2, b2⟩⟩⟩)
 | [.str nm, .int .i64 at0, .int .i64 off0, .bool d0, .str b0, .nilsl, .bool z, .int .i64 fr, .int .i64 off, .int .i64 m1, .int .i64 k1, .int .i64 w1, .int .i64 n1, .int .i64 s1, .int .u8 c1, .int .i64 v1, .str b1, .int .i64 m2, .int .i64 k2, .int .i64 w2, .int .i64 n2, .int .i64 s2, .int .u8 c2, .int .i64 v2, .str b2] =>
  some (bdZ ⟨z, fr, off, ⟨m1, k1, w1, n1, s1, c1, v1, b1⟩, ⟨m2, k2, w2, n2, s2, c2, v2, b2⟩⟩, ⟨nm, at0, off0, d0, b0, 0, fun _ => 0, fun _ => 0, fun _ => false, fun _ => ⟨#[]⟩, ⟨z, fr, off, ⟨m1, k1, w1, n1, s1, c1, v1, b1⟩, ⟨m2, k2, w2, n2, s2, c2, v2, b2⟩⟩⟩)
 | _ => none
noncomputable def zyRight : Con
 | [.agg l] => match rdZ l with
  | some (p, z) => some (p, .bool (decide (ZtOk z)))
  | none => none
 | _ => none
noncomputable def znFrom (z : Zt) (i : Nat) : Bool := decide (RowsOk z i)
def znEnd (z : Zt) : St := ⟨(((List.replicate 120 none).set 1 (some (.ptr 0 0 0 0))).set 2 (some (.bool false))), [some (.cells (avZ z))], []⟩
def zrH (z : Zt) : Heap := [some (.cells (avZ z)), some (.cells [.int .i64 z.at0, .int .i64 z.off0, .bool z.d0, .str z.b0])]
def zrEnd (z : Zt) (l : Int) : St := ⟨(((List.replicate 100 none).set 1 (some (.ptr 0 0 0 0))).set 2 (some (.bool false))).set 3 (some (.int .i64 l)), zrH z, []⟩
def zrLast (z : Zt) (i : Nat) : Int := match i with
 | 0 => -1125899906842625
 | i + 1 => z.ta i
noncomputable def zySearch : Con
 | [.int .i64 n, .fn (.func g) [] [.cp l 0, .cp [.int .i64 u] 0]] =>
  if g = 120 ∨ g = 151 then
   match rdZ l with
   | some (p, z) => some (p && decide (RowsOk z 0 ∧ n = z.n ∧ z.n ≤ 8192), .int .i64 (kz z u z.n))
   | none => none
  else none
 | _ => none
noncomputable def zyAt0 : Con
 | [.agg l, .int .i64 u] => match rdZ l with
  | some (p, z) => some (p && decide (ZtOk z ∧ Asked u ∧ -9223372036854775808 ≤ u ∧ u ≤ 9223372036854775807), .agg (avT (atZ z u)))
  | none => none
 | _ => none
noncomputable def zyAt : Con
 | [.agg l, .int .i64 u] => match rdZ l with
  | some (p, z) => some (p && decide (-9223372036854775808 ≤ u ∧ u ≤ 9223372036854775807), .tup [.agg (avT (atE z u)), .int .i64 (zErr z u)])
  | none => none
 | _ => none
def raH (z : Zt) (x : Tr) : Heap := [some (.cells (avZ z)), some (.cells [.int .i64 0, .int .i64 0, .bool false, .str ⟨#[]⟩]), some (.cells (avT x))]
def raEnd (z : Zt) (x : Tr) : St := ⟨((List.replicate 57 none).set 4 (some (.ptr 1 0 0 0))).set 6 (some (.ptr 2 0 0 0)), raH z x, []⟩
@[irreducible] def AFL (T : Tab) (LT : LTab Prop) (n g : Nat) (args : List AV) (K : AV → Prop) : Prop := afn PA Tryz.prog T LT n g args fun u h => nuK h u K
theorem afl_con {T : Tab} (hT : TabOk Tryz.prog T) {g : Nat} (hn : (Tryz.prog.funcs[g]?).any (fun fn => !(fn.name == "runtime.NumGoroutine")) = true) {con : Con}
 (h : ∀ args p v, con args = some (p, v) → p = true → ∃ args' n LT, (∀ w A, RL noNames w args A → RL noNames w args' A) ∧ LtOk Tryz.prog g LT ∧ AFL T LT n g args' (Res v)) : COk Tryz.prog g con := by
 intro args p v hc hp w A hA
 obtain ⟨args', n, LT, h1, h2, h3⟩ := h args p v hc hp
 refine givesL_ok mixed hT hn h2 (n := n) ?_ (h1 w A hA)
 unfold AFL at h3
 with_reducible exact h3
theorem csl_move {ρ : Names} {W : World} {s n : Nat} {c d : Nat → Nat → AV} {V : Value} (hcd : ∀ i j, i < n → j < s → c i j = d i j) (h : RV ρ W (.csl s n c) V) : RV ρ W (.csl s n d) V := by
 cases h with
 | csl0 => exact .csl0 _ _
 | csl s len cap c V hb hl hc hr => exact .csl s n cap d V hb hl hc fun i j hi hj => by rw [← hcd i j hi hj]; exact hr i j hi hj
theorem tyR_of {n : Nat} {c : Nat → Nat → AV} (h : tyR n c = true) : ∀ i, i < n → c i 0 = .int .i64 (iOf (c i 0)) ∧ c i 1 = .int .i64 (iOf (c i 1)) ∧ c i 2 = .bool (bOf (c i 2)) ∧ c i 3 = .str (sOf (c i 3)) := @of_decide_eq_true _ (Classical.propDecidable _) h
theorem tyR_row (z : Zt) : tyR z.n (znRow z) = true := @decide_eq_true _ (Classical.propDecidable _) fun i _ => ⟨rfl, rfl, rfl, rfl⟩
theorem rdZ_move {l : List AV} {z : Zt} (e : rdZ l = some (true, z)) : bdZ z.F = true ∧ ∀ {ρ : Names} {W : World} {V : Value}, RV ρ W (.agg l) V → RV ρ W (.agg (avZ z)) V := by
 unfold rdZ at e
 split at e
 case h_3 => cases e
 case h_2 =>
  simp only [Option.some.injEq, Prod.mk.injEq] at e
  obtain ⟨h2, rfl⟩ := e
  refine ⟨h2, fun {ρ W V} hv => ?_⟩
  cases hv with | agg hv =>
  refine .agg ?_
  unfold avZ
  cases hv with | cons a0 hv =>
  cases hv with | cons a1 hv =>
  cases hv with | cons a2 hv =>
  cases hv with | cons a3 hv =>
  cases hv with | cons a4 hv =>
  cases hv with | cons a5 hv =>
  refine .cons a0 (.cons a1 (.cons a2 (.cons a3 (.cons a4 (.cons ?_ hv)))))
  cases a5 with | nilsl => exact .csl0 _ _
 simp only [Option.some.injEq, Prod.mk.injEq, Bool.and_eq_true] at e
 obtain ⟨⟨h1, h2⟩, rfl⟩ := e
 refine ⟨h2, fun {ρ W V} hv => ?_⟩
 have ht := tyR_of h1
 cases hv with | agg hv =>
 refine .agg ?_
 unfold avZ
 cases hv with | cons a0 hv =>
 cases hv with | cons a1 hv =>
 cases hv with | cons a2 hv =>
 cases hv with | cons a3 hv =>
 cases hv with | cons a4 hv =>
 cases hv with | cons a5 hv =>
 refine .cons a0 (.cons a1 (.cons a2 (.cons a3 (.cons a4 (.cons (csl_move (fun i j hi hj => ?_) a5) hv)))))
 obtain ⟨g0, g1, g2, g3⟩ := ht i hi
 match j, hj with
 | 0, _ => exact g0
 | 1, _ => exact g1
 | 2, _ => exact g2
 | 3, _ => exact g3
theorem rl_1 {w : World} {a a' : AV} {r : List AV} (h : ∀ V, RV noNames w a V → RV noNames w a' V) {A : List Value} (hA : RL noNames w (a :: r) A) : RL noNames w (a' :: r) A := by
 cases hA with | cons h1 h2 => exact .cons (h _ h1) h2
def znKeep : List Bool := ((((((List.replicate 120 false).set 1 true).set 2 true).set 27 true).set 28 true).set 29 true)
def znKeepX : List Bool := (((List.replicate 120 false).set 1 true).set 2 true)
def znCS : CS := { m := 1, keep := znKeep }
def znCX : CS := { m := 1, keep := znKeepX }
def znHead' (z : Zt) (i : Int) : St := ⟨(((((List.replicate 120 none).set 1 (some (.ptr 0 0 0 0))).set 2 (some (.bool false))).set 27 (some (.csl 4 z.n (znRow z)))).set 28 (some (.int .i64 z.n))).set 29 (some (.int .i64 i)), [some (.cells (avZ z))], []⟩
def znHead (z : Zt) (i : Nat) : St := znHead' z (i : Int)
def znMu (z : Zt) (i : Nat) : Nat := z.n - i
set_option maxRecDepth 100000 in
theorem zn_round (z : Zt) (i : Int) (R : Option St → Prop) (Q : Ex → Option St → Prop) : aroundN PA Tryz.prog (tab []) noLoops 6 (loopOf Tryz.prog 49 0) (znHead' z i) (fun st => R (canon znCS st)) (fun e st => Q e (canon znCX st)) =
 brc (decide (i < z.n)) (brc (decide (0 ≤ i) && decide (i < z.n)) (brc (decide (z.tf (Int.toNat i) ≥ IntKind.wrap .i64 (0 - 57600))) (brc (!decide (z.tf (Int.toNat i) ≤ 57600)) (Q .ret (some (znEnd z))) (brc (decide (z.ta (Int.toNat i) ≥ IntKind.wrap .i64 (0 - 1125899906842624))) (brc (!decide (z.ta (Int.toNat i) ≤ 1125899906842624)) (Q .ret (some (znEnd z))) (brc (decide (i > 0)) (brc (decide (0 ≤ IntKind.wrap .i64 (i - 1)) && decide (IntKind.wrap .i64 (i - 1) < z.n)) (brc (decide (z.ta (Int.toNat i) ≤ z.ta (Int.toNat (IntKind.wrap .i64 (i - 1))))) (Q .ret (some (znEnd z))) (R (some (znHead' z (IntKind.wrap .i64 (i + 1)))))) False) (R (some (znHead' z (IntKind.wrap .i64 (i + 1))))))) (Q .ret (some (znEnd z))))) (Q .ret (some (znEnd z)))) False) (Q (.exit 0) (some (znEnd z))) := by kernel_rfl
theorem znFrom_iff {z : Zt} {i : Nat} : znFrom z i = true ↔ RowsOk z i := by unfold znFrom; exact decide_eq_true_iff
def znG (z : Zt) (i : Nat) (Q : Ex → St → Prop) : Prop := (i ≤ z.n ∧ z.n ≤ 8192) ∧ brc (znFrom z i) (Q (.exit 0) (znEnd z)) (Q .ret (znEnd z))
theorem jU {x : Int} (h : -9223372036854775808 ≤ x ∧ x ≤ 9223372036854775807) : IntKind.wrap .i64 x = x := by
 rw [wrap_i64]; unfold wrap64; omega
set_option maxRecDepth 100000 in
theorem zn_noloops : Code.loops (loopOf Tryz.prog 49 0) = [] := by kernel_rfl
attribute [local irreducible] aroundN
theorem zn_hround (z : Zt) (i : Nat) (Q : Ex → St → Prop) (hG : znG z i Q) : aroundN PA Tryz.prog (tab []) noLoops 6 (loopOf Tryz.prog 49 0) (znHead z i) (fun st' => again (znHead z) (znMu z) (znG z) i Q (canon znCS st')) (fun e st' => left Q e (canon znCX st')) := by
 rw [show znHead z i = znHead' z (i : Int) from rfl]
 have hv := zn_round z i (again (znHead z) (znMu z) (znG z) i Q) (left Q)
 refine Eq.mpr hv ?_
 obtain ⟨⟨hi, hn⟩, hq⟩ := hG
 have nx : i < z.n → RowOk z i → again (znHead z) (znMu z) (znG z) i Q (some (znHead' z (IntKind.wrap .i64 ((i : Int) + 1)))) := fun h hr => by
  refine ⟨i + 1, by unfold znMu; omega, ⟨⟨by omega, hn⟩, ?_⟩, ?_⟩
  · have e : znFrom z (i + 1) = znFrom z i := by
     rw [Bool.eq_iff_iff, znFrom_iff, znFrom_iff]
     refine ⟨fun g j h1 h2 => ?_, fun g j h1 h2 => g j (by omega) h2⟩
     by_cases k : j = i
     · subst k; exact hr
     · exact g j (by omega) h2
    rw [e]; exact hq
  · rw [jU (by omega)]; rfl
 have bad : i < z.n → ¬ RowOk z i → left Q .ret (some (znEnd z)) := fun h hr => by
  have e : znFrom z i = false := by
   rw [← Bool.not_eq_true, znFrom_iff]; exact fun g => hr (g i (Nat.le_refl _) h)
  rw [e] at hq
  exact ⟨_, rfl, hq⟩
 have ti : Int.toNat (i : Int) = i := by omega
 rw [show IntKind.wrap .i64 (0 - 57600) = -57600 by decide, show IntKind.wrap .i64 (0 - 1125899906842624) = -1125899906842624 by decide, ti]
 refine kB (fun g => ?_) fun g => ?_
 · have g : i < z.n := by have := of_decide_eq_true g; omega
   refine kB (fun _ => ?_) fun k => absurd k (by simp; omega)
   refine kB (fun a => ?_) fun a => bad g fun k => of_decide_eq_false a k.1.1
   refine kB (fun b => bad g fun k => by simp at b; exact absurd k.1.2 (by omega)) fun b => ?_
   refine kB (fun c => ?_) fun c => bad g fun k => of_decide_eq_false c k.2.1.1
   refine kB (fun d => bad g fun k => by simp at d; exact absurd k.2.1.2 (by omega)) fun d => ?_
   have a := of_decide_eq_true a
   have c := of_decide_eq_true c
   simp at b d
   refine kB (fun e => ?_) fun e => ?_
   · have e := of_decide_eq_true e
     rw [jU (by omega), show Int.toNat ((i : Int) - 1) = i - 1 by omega]
     refine kB (fun _ => ?_) fun k => absurd k (by simp; omega)
     refine kB (fun f => bad g fun k => ?_) fun f => nx g ⟨⟨a, b⟩, ⟨c, d⟩, fun _ => ?_⟩
     · have f := of_decide_eq_true f
       have := k.2.2 (by omega)
       omega
     · have f := of_decide_eq_false f
       omega
   · have e := of_decide_eq_false e
     exact nx g ⟨⟨a, b⟩, ⟨c, d⟩, fun k => by omega⟩
 · have e : znFrom z i = true := znFrom_iff.2 fun j h1 h2 => by have := of_decide_eq_false g; omega
   rw [e] at hq
   exact ⟨_, rfl, hq⟩
theorem zn_lc (z : Zt) (i : Nat) : LcOk Tryz.prog (loopOf Tryz.prog 49 0) (lcOf znCS (znHead z) (znG z) i) :=
 lc_ok (T := tab []) mixed bE (LT := noLoops) (n := 6) (noLoops_in zn_noloops) (c := znCS) (cX := znCX) rfl (zn_hround z) i
def SHOWright (z : Zt) (P : Prop) : Prop := isH (some (znHead z 0)) (znHead z 0) ∧ ((0 ≤ z.n ∧ z.n ≤ 8192) ∧ P)
set_option maxRecDepth 100000 in
theorem loops_right : loopsOf Tryz.prog 49 = [loopOf Tryz.prog 49 0] := by kernel_rfl
set_option maxRecDepth 100000 in
theorem zright_vc (z : Zt) (K : AV → Prop) : AFL (tab [(92, cyYear), (93, cyStand 0)]) (fun k => if k = 5 then some (lcOf znCS (znHead z) (znG z) 0) else none) 6 49 [.agg (avZ z)] K =
 (brc (decide (Zt.off0 z ≥ IntKind.wrap .i64 (0 - 57600))) (brc (!decide (Zt.off0 z ≤ 57600)) (K (AV.bool false)) (brc (Zt.at0 z != 0) (K (AV.bool false)) (brc (decide (((Zt.n z : Nat) : Int) > 8192)) (K (AV.bool false)) (SHOWright z (brc (znFrom z 0) (brc (!Ft.z (Zt.F z)) (K (AV.bool (Ft.z (Zt.F z) == false && (Ft.fr (Zt.F z) == 0 && (Ft.off (Zt.F z) == 0 && (Hf.m (Ft.a (Zt.F z)) == 0 && (Hf.k (Ft.a (Zt.F z)) == 0 && (Hf.w (Ft.a (Zt.F z)) == 0 && (Hf.n (Ft.a (Zt.F z)) == 0 && true)) && (Hf.s (Ft.a (Zt.F z)) == 0 && (Hf.c (Ft.a (Zt.F z)) == 0 && true) && (Hf.v (Ft.a (Zt.F z)) == 0 && (ByteArray.toList (Hf.ab (Ft.a (Zt.F z))) == ByteArray.toList (ByteArray.mk #[]) && true)))) && (Hf.m (Ft.b (Zt.F z)) == 0 && (Hf.k (Ft.b (Zt.F z)) == 0 && (Hf.w (Ft.b (Zt.F z)) == 0 && (Hf.n (Ft.b (Zt.F z)) == 0 && true)) && (Hf.s (Ft.b (Zt.F z)) == 0 && (Hf.c (Ft.b (Zt.F z)) == 0 && true) && (Hf.v (Ft.b (Zt.F z)) == 0 && (ByteArray.toList (Hf.ab (Ft.b (Zt.F z))) == ByteArray.toList (ByteArray.mk #[]) && true)))) && true))))))) (brc (decide (-9223372036854775808 ≤ Ft.fr (Zt.F z) ∧ Ft.fr (Zt.F z) ≤ 9223372036854775807)) (∀ m0 : Int, m0 = yAt (Ft.fr (Zt.F z)) → brc (decide (-9223372036854775808 ≤ Ft.fr (Zt.F z) ∧ Ft.fr (Zt.F z) ≤ 9223372036854775807 ∧ -9223372036854775808 ≤ Hf.m (Ft.a (Zt.F z)) ∧ Hf.m (Ft.a (Zt.F z)) ≤ 9223372036854775807 ∧ -9223372036854775808 ≤ Hf.m (Ft.b (Zt.F z)) ∧ Hf.m (Ft.b (Zt.F z)) ≤ 9223372036854775807)) (∀ m1 : Int, m1 = Tr.t (tZ (Zt.F z) (Ft.fr (Zt.F z)) (ix (Zt.F z) (Ft.fr (Zt.F z)) + 0)) → ∀ m2 : Int, m2 = Tr.off (tZ (Zt.F z) (Ft.fr (Zt.F z)) (ix (Zt.F z) (Ft.fr (Zt.F z)) + 0)) → ∀ m3 : Bool, m3 = Tr.dst (tZ (Zt.F z) (Ft.fr (Zt.F z)) (ix (Zt.F z) (Ft.fr (Zt.F z)) + 0)) → ∀ m4 : Int, m4 = err2 (Zt.F z) (Ft.fr (Zt.F z)) → brc (m4 == 0) (brc (m1 == Ft.fr (Zt.F z)) (brc (decide (m0 ≥ 1800)) (brc (decide (m0 ≤ 2110)) (brc (((Zt.n z : Nat) : Int) == 0) (K (AV.bool true)) (brc (decide (0 ≤ IntKind.wrap .i64 (((Zt.n z : Nat) : Int) - 1)) && decide (IntKind.wrap .i64 (((Zt.n z : Nat) : Int) - 1) < ((Zt.n z : Nat) : Int))) (K (AV.bool (decide (Ft.fr (Zt.F z) > Zt.ta z (Int.toNat (IntKind.wrap .i64 (((Zt.n z : Nat) : Int) - 1))))))) False)) (K (AV.bool false))) (K (AV.bool false))) (K (AV.bool false))) (K (AV.bool false))) False) False)) (K (AV.bool false))))))) (K (AV.bool false))) := by kernel_rfl
theorem zn_pred {z : Zt} (h : 0 < z.n) (h2 : z.n ≤ 8192) : IntKind.wrap .i64 ((z.n : Int) - 1) = ((z.n - 1 : Nat) : Int) := by
 rw [jU (by omega)]; omega
theorem err_zero {F : Ft} {u : Int} : err2 F u = 0 ↔ AskOk F u := by
 unfold err2 AskOk
 by_cases h1 : FtOk F
 · by_cases h2 : -4714 ≤ yAt u ∧ yAt u ≤ 294278
   · simp [h1, h2]
   · rw [if_pos h1, if_neg h2]; exact ⟨fun e => by omega, fun e => (h2 e.2).elim⟩
 · rw [if_neg h1]; exact ⟨fun e => by omega, fun e => (h1 e.1).elim⟩
theorem zright_ok {z : Zt} (hb : bdZ z.F = true) : AFL (tab [(92, cyYear), (93, cyStand 0)]) (fun k => if k = 5 then some (lcOf znCS (znHead z) (znG z) 0) else none) 6 49 [.agg (avZ z)] (Res (.bool (decide (ZtOk z)))) := by
 rw [zright_vc]
 obtain ⟨b1, b2, b3, b4, b5, b6⟩ := of_decide_eq_true hb
 have no : ¬ ZtOk z → Res (.bool (decide (ZtOk z))) (.bool false) := fun h => by rw [decide_eq_false h]; exact zN rfl
 have yes : ∀ b : Bool, (b = true ↔ ZtOk z) → Res (.bool (decide (ZtOk z))) (.bool b) := fun b h => by
  have e : b = decide (ZtOk z) := by rw [Bool.eq_iff_iff, decide_eq_true_iff]; exact h
  rw [e]; exact zN rfl
 rw [show IntKind.wrap .i64 (0 - 57600) = -57600 by decide]
 refine kB (fun a1 => ?_) fun a1 => no fun k => of_decide_eq_false a1 k.1.1
 refine kB (fun a2 => no fun k => by simp at a2; have := k.1.2; omega) fun a2 => ?_
 refine kB (fun a3 => no fun k => by simp at a3; exact a3 k.2.1) fun a3 => ?_
 refine kB (fun a4 => no fun k => by simp at a4; have := k.2.2.1; omega) fun a4 => ?_
 have a1 := of_decide_eq_true a1
 simp at a2 a3 a4
 refine ⟨isH_rfl _, ⟨Nat.zero_le _, by omega⟩, ?_⟩
 refine kB (fun a5 => ?_) fun a5 => no fun k => by
  have := znFrom_iff.2 k.rows
  rw [a5] at this; cases this
 have a5 := znFrom_iff.1 a5
 refine kB (fun a6 => ?_) fun a6 => ?_
 · refine yes _ ?_
   have hz : z.F.z = false := by simpa using a6
   unfold ZtOk
   rw [if_neg (by rw [hz]; simp)]
   unfold FootNo HalfNo
   simp only [hz, beq_self_eq_true, Bool.true_and, Bool.and_true, Bool.and_eq_true, beq_iff_eq, and_assoc]
   constructor
   · rintro ⟨h1, h2, h3, h4, h5, h6, h7, h8, h9, h10, h11, h12, h13, h14, h15, h16, h17, h18⟩
     exact ⟨a1, by omega, a3, by omega, a5, h1, h2, h3, h4, h5, h6, h7, h8, h9, h10, h11, h12, h13, h14, h15, h16, h17, h18⟩
   · rintro ⟨_, _, _, _, _, h1, h2, h3, h4, h5, h6, h7, h8, h9, h10, h11, h12, h13, h14, h15, h16, h17, h18⟩
     exact ⟨h1, h2, h3, h4, h5, h6, h7, h8, h9, h10, h11, h12, h13, h14, h15, h16, h17, h18⟩
 · have hz : z.F.z = true := by simpa using a6
   have fy : ZtOk z → FootYes z := fun k => k.foot hz
   refine brcT (decide_eq_true ⟨b1, b2⟩) ?_
   rintro _ rfl
   refine brcT (decide_eq_true ⟨b1, b2, b3, b4, b5, b6⟩) ?_
   rintro _ rfl _ rfl _ rfl _ rfl
   refine kB (fun c1 => ?_) fun c1 => no fun k => by
    have := err_zero.2 (fy k).1
    rw [this] at c1; cases c1
   have ha : AskOk z.F z.F.fr := err_zero.1 (by simpa using c1)
   have ht : (tZ z.F z.F.fr (ix z.F z.F.fr + 0)).t = (sI z.F (ix z.F z.F.fr)).t := by
    unfold tZ; simp only [if_pos ha]; rw [Int.add_zero]
   rw [ht]
   refine kB (fun c2 => ?_) fun c2 => no fun k => by simp at c2; exact c2 (fy k).2.1
   refine kB (fun c3 => ?_) fun c3 => no fun k => of_decide_eq_false c3 (fy k).2.2.1
   refine kB (fun c4 => ?_) fun c4 => no fun k => of_decide_eq_false c4 (fy k).2.2.2.1
   have mk : (z.n = 0 ∨ z.ta (z.n - 1) < z.F.fr) → ZtOk z := fun h => ⟨⟨a1, by omega⟩, a3, by omega, a5, by rw [if_pos hz]; exact ⟨ha, by simpa using c2, of_decide_eq_true c3, of_decide_eq_true c4, h⟩⟩
   refine kB (fun c5 => ?_) fun c5 => ?_
   · simp at c5
     exact yes _ ⟨fun _ => mk (.inl (by omega)), fun _ => rfl⟩
   · simp at c5
     have hpos : 0 < z.n := by omega
     rw [zn_pred hpos (by omega)]
     refine brcT (by simp; omega) (yes _ ?_)
     rw [decide_eq_true_iff, Int.toNat_natCast]
     exact ⟨fun h => mk (.inr h), fun k => by rcases (fy k).2.2.2.2 with e | e; omega; exact e⟩
theorem zyRight_ok : COk Tryz.prog 49 zyRight := afl_con (kD cyYear_ok (kD cyAtF_ok bE)) (by kernel_rfl) fun args p v hc hp => by
 unfold zyRight at hc
 split at hc
 case h_2 => cases hc
 split at hc
 case h_2 => cases hc
 rename_i l _ q z hl
 simp only [Option.some.injEq, Prod.mk.injEq] at hc
 obtain ⟨rfl, rfl⟩ := hc
 subst hp
 obtain ⟨h1, h2⟩ := rdZ_move hl
 exact ⟨_, _, _, fun w A hA => rl_1 (fun V h => h2 h) hA, lt_of loops_right (zn_lc z 0), zright_ok h1⟩
end Go.Proofs.YtimgphlfaninnaaGreat.P
namespace Go.Proofs.YtimgphlfaninnaaGreat.P
open Go Go.RowKit Go.Proofs.YtimgphlfaninnaaGreat.Civ Go.Proofs.YtimgphlfaninnaaGreat.Ft
set_option linter.unusedVariables false
set_option linter.unusedSimpArgs false
section
open A
set_option maxRecDepth 100000 in
theorem ryear_vc (F : Ft) (y : Int) (K : AV → Prop) : AF (tab [(145, cyCan), (154, cyRshift)]) 6 118 [.agg (avF F), .int .i64 y] K =
 (brc (decide (-9223372036854775808 ≤ Hf.m (Ft.a F) ∧ Hf.m (Ft.a F) ≤ 9223372036854775807 ∧ -9223372036854775808 ≤ Hf.m (Ft.b F) ∧ Hf.m (Ft.b F) ≤ 9223372036854775807)) (∀ m0 : Bool, m0 = decide (FtOk F) → brc (!m0) (K (AV.tup [.nilsl, .int .i64 1])) (brc (decide (y ≤ -4718)) (K (AV.tup [.nilsl, .int .i64 10])) (brc (decide (y ≥ 294282)) (K (AV.tup [.nilsl, .int .i64 10])) (brc (decide (HfOk (Ft.a F) ∧ HfOk (Ft.b F) ∧ -50400 ≤ Ft.off F ∧ Ft.off F ≤ 50400 ∧ -4718 < y ∧ y < 294282)) (∀ m1 : Int, m1 = Tr.t (tran (Ft.a F) (Ft.b F) (Ft.off F) y) → ∀ m2 : Int, m2 = Tr.off (tran (Ft.a F) (Ft.b F) (Ft.off F) y) → ∀ m3 : Bool, m3 = Tr.dst (tran (Ft.a F) (Ft.b F) (Ft.off F) y) → brc (decide (HfOk (Ft.b F) ∧ HfOk (Ft.a F) ∧ -50400 ≤ Ft.off F ∧ Ft.off F ≤ 50400 ∧ -4718 < y ∧ y < 294282)) (∀ m4 : Int, m4 = Tr.t (tran (Ft.b F) (Ft.a F) (Ft.off F) y) → ∀ m5 : Int, m5 = Tr.off (tran (Ft.b F) (Ft.a F) (Ft.off F) y) → ∀ m6 : Bool, m6 = Tr.dst (tran (Ft.b F) (Ft.a F) (Ft.off F) y) → brc (decide (Hf.m (Ft.a F) < Hf.m (Ft.b F))) (K (AV.tup [.nu 23 4 2 [.int .i64 m1, .int .i64 m2, .bool m3, .str (Tr.ab (tran (Ft.a F) (Ft.b F) (Ft.off F) y)), .int .i64 m4, .int .i64 m5, .bool m6, .str (Tr.ab (tran (Ft.b F) (Ft.a F) (Ft.off F) y))], .int .i64 0])) (K (AV.tup [.nu 23 4 2 [.int .i64 m4, .int .i64 m5, .bool m6, .str (Tr.ab (tran (Ft.b F) (Ft.a F) (Ft.off F) y)), .int .i64 m1, .int .i64 m2, .bool m3, .str (Tr.ab (tran (Ft.a F) (Ft.b F) (Ft.off F) y))], .int .i64 0]))) False) False)))) False) := by kernel_rfl
theorem cyRyear_ok : COk Tryz.prog 118 cyRyear := af_con (kD cyCanR_ok (kD cyRshift_ok bE)) (by kernel_rfl) fun args p v hc hp => by
 unfold cyRyear at hc
 split at hc
 case h_2 => cases hc
 split at hc
 case h_2 => cases hc
 rename_i y _ F hl
 simp only [Option.some.injEq, Prod.mk.injEq] at hc
 obtain ⟨rfl, rfl⟩ := hc
 obtain ⟨h, h5, h6⟩ := of_decide_eq_true hp
 rw [rdF_ok hl]
 refine ⟨rfl, 6, ?_⟩
 rw [ryear_vc]
 obtain ⟨_, h1, h2, h3, h4, _⟩ := id h
 refine brcT (decide_eq_true (by have := h1.1; have := h1.2.1; have := h2.1; have := h2.2.1; omega)) ?_
 rintro _ rfl
 refine brcF (by simp [h]) (brcF (decide_eq_false (by omega)) (brcF (decide_eq_false (by omega)) (brcT (decide_eq_true ⟨h1, h2, h3, h4, h5, h6⟩) ?_)))
 rintro _ rfl _ rfl _ rfl
 refine brcT (decide_eq_true ⟨h2, h1, h3, h4, h5, h6⟩) ?_
 rintro _ rfl _ rfl _ rfl
 refine kB (fun hm => ?_) fun hm => ?_
 · have hm := of_decide_eq_true hm
   have e1 : tr F true y = tran F.a F.b F.off y := by simp [tr, fstH, sndH, hm]
   have e2 : tr F false y = tran F.b F.a F.off y := by simp [tr, fstH, sndH, hm]
   rw [e1, e2]; rfl
 · have hm := of_decide_eq_false hm
   have e1 : tr F true y = tran F.b F.a F.off y := by simp [tr, fstH, sndH, hm]
   have e2 : tr F false y = tran F.a F.b F.off y := by simp [tr, fstH, sndH, hm]
   rw [e1, e2]; rfl
def yrQ (F : Ft) (Y : Int) (C : Int → Int → Bool → Int → Int → Bool → Prop) : Prop := brc (decide (FtOk F ∧ -4718 < Y ∧ Y < 294282)) (∀ e : Int, e = 0 → ∀ m : Int, m = (tr F true Y).t → ∀ o : Int, o = (tr F true Y).off → ∀ d : Bool, d = (tr F true Y).dst → ∀ m' : Int, m' = (tr F false Y).t → ∀ o' : Int, o' = (tr F false Y).off → ∀ d' : Bool, d' = (tr F false Y).dst → C m o d m' o' d') False
def outL (c : Nat) (C : List AV) : AV := match c with
 | 0 => .nilsl
 | c => .nu 23 4 c C
def goY (F : Ft) (Z : Int) (K : AV → Prop) : Nat → Int → Nat → List AV → Prop
 | 0, Y, c, C => brc (decide (Y ≤ Z)) (yrQ F Y fun _ _ _ _ _ _ => False) (K (.tup [outL c C, .int .i64 0]))
 | n + 1, Y, c, C => brc (decide (Y ≤ Z)) (yrQ F Y fun m o d m' o' d' => goY F Z K n (IntKind.wrap .i64 (Y + 1)) (c + 2) (C ++ ([.int .i64 m, .int .i64 o, .bool d, .str (tr F true Y).ab] ++ [.int .i64 m', .int .i64 o', .bool d', .str (tr F false Y).ab]))) (K (.tup [outL c C, .int .i64 0]))
set_option maxRecDepth 100000 in
theorem near_vc (F : Ft) (u : Int) (K : AV → Prop) : AF (tab [(63, cyYear), (145, cyCan), (118, cyRyear)]) 7 109 [.agg (avF F), .int .i64 u] K =
 brc (bdF F) (∀ m0 : Bool, m0 = decide (FtOk F) → brc (!m0) (K (.tup [.nilsl, .int .i64 1])) (brc (bdU u) (∀ m1 : Int, m1 = yAt u → brc (decide (m1 < -4714)) (K (.tup [.nilsl, .int .i64 10])) (brc (decide (m1 > 294278)) (K (.tup [.nilsl, .int .i64 10])) (goY F (IntKind.wrap .i64 (m1 + 2)) K 6 (IntKind.wrap .i64 (m1 - 2)) 0 []))) False)) False := by kernel_rfl
theorem goY_step {F : Ft} {Z Y : Int} {K : AV → Prop} {n c : Nat} {C : List AV} (h : FtOk F) (h1 : -4718 < Y) (h2 : Y < 294282) (h3 : Y ≤ Z) (hC : goY F Z K n (Y + 1) (c + 2) (C ++ (avT (tr F true Y) ++ avT (tr F false Y)))) : goY F Z K (n + 1) Y c C := by
 refine brcT (decide_eq_true h3) (brcT (decide_eq_true ⟨h, h1, h2⟩) ?_)
 rintro _ rfl _ rfl _ rfl _ rfl _ rfl _ rfl _ rfl
 rw [wv (by omega) (by omega)]
 exact hC
theorem cyNear_ok : COk Tryz.prog 109 cyNear := af_con (kD cyYearR_ok (kD cyCanR_ok (kD cyRyear_ok bE))) (by kernel_rfl) fun args p v hc hp => by
 unfold cyNear at hc
 split at hc
 case h_2 => cases hc
 split at hc
 case h_2 => cases hc
 rename_i u _ F hl
 simp only [Option.some.injEq, Prod.mk.injEq] at hc
 obtain ⟨rfl, rfl⟩ := hc
 rw [Bool.and_eq_true] at hp
 have ha := of_decide_eq_true hp.1
 have hu : bdU u = true := hp.2
 rw [rdF_ok hl]
 obtain ⟨_, e1, e2, e3, e4⟩ := ask_year ha
 obtain ⟨h, h1, h2⟩ := id ha
 refine ⟨rfl, 7, ?_⟩
 rw [near_vc]
 obtain ⟨_, g1, g2, _⟩ := id h
 refine brcT (decide_eq_true (by have := g1.1; have := g1.2.1; have := g2.1; have := g2.2.1; omega)) ?_
 rintro _ rfl
 refine brcF (by simp [h]) (brcT hu ?_)
 rintro _ rfl
 refine brcF (decide_eq_false (by omega)) (brcF (decide_eq_false (by omega)) ?_)
 rw [e3, e4]
 refine goY_step h (by omega) (by omega) (by omega) (goY_step h (by omega) (by omega) (by omega) (goY_step h (by omega) (by omega) (by omega) (goY_step h (by omega) (by omega) (by omega) (goY_step h (by omega) (by omega) (by omega) ?_))))
 refine brcF (decide_eq_false (by omega)) ?_
 rfl
set_option maxRecDepth 100000 in
theorem ratno_vc (F : Ft) (u : Int) (K : AV → Prop) : AF (tab [(63, cyYear), (145, cyCan)]) 2 64 [.agg (avF F), .int .i64 u] K =
 (brc (decide (-9223372036854775808 ≤ Hf.m (Ft.a F) ∧ Hf.m (Ft.a F) ≤ 9223372036854775807 ∧ -9223372036854775808 ≤ Hf.m (Ft.b F) ∧ Hf.m (Ft.b F) ≤ 9223372036854775807)) (∀ m0 : Bool, m0 = decide (FtOk F) → brc (!m0) (K (AV.tup [.agg [.int .i64 0, .int .i64 0, .bool false, .str (ByteArray.mk #[])], .int .i64 1])) (brc (decide (-9223372036854775808 ≤ u ∧ u ≤ 9223372036854775807)) (∀ m1 : Int, m1 = yAt u → brc (decide (m1 < -4714)) (K (AV.tup [.agg [.int .i64 0, .int .i64 0, .bool false, .str (ByteArray.mk #[])], .int .i64 10])) (brc (decide (m1 > 294278)) (K (AV.tup [.agg [.int .i64 0, .int .i64 0, .bool false, .str (ByteArray.mk #[])], .int .i64 10])) False)) False)) False) := by kernel_rfl
def goM (F : Ft) (u : Int) (K : AV → Prop) : Nat → Int → Prop → Prop
 | 0, Y, S => S
 | n + 1, Y, S => ∀ m : Int, m = (tr F true Y).t → ∀ o : Int, o = (tr F true Y).off → ∀ d : Bool, d = (tr F true Y).dst → ∀ m' : Int, m' = (tr F false Y).t → ∀ o' : Int, o' = (tr F false Y).off → ∀ d' : Bool, d' = (tr F false Y).dst →
  goM F u K n (Y + 1) (brc (decide (m' ≤ u)) (kT K m' o' d' (tr F false Y).ab 0) (brc (decide (m ≤ u)) (kT K m o d (tr F true Y).ab 0) S))
set_option maxRecDepth 100000 in
theorem raty_vc (F : Ft) (u : Int) (K : AV → Prop) : AF (tab [(109, cyNear)]) 13 64 [.agg (avF F), .int .i64 u] K =
 brc (decide (AskOk F u) && bdU u) (∀ m0 : Int, m0 = 0 → goM F u K 5 (yAt u - 2) (kT K 0 0 false ⟨#[]⟩ m0)) False := by kernel_rfl
theorem goM_ok {F : Ft} {u : Int} (ha : AskOk F u) : ∀ (n : Nat) (Y : Int) (S : Prop), (ix F u < 2 * Y → S) → ix F u < 2 * (Y + n) → goM F u (fun x => x = stV F u (ix F u)) n Y S := by
 have h := ha.1
 intro n
 induction n with
 | zero => intro Y S hS hn; exact hS (by omega)
 | succ n ih =>
  intro Y S hS hn
  rintro _ rfl _ rfl _ rfl _ rfl _ rfl _ rfl
  refine ih (Y + 1) _ (fun hlt => ?_) (by omega)
  refine kB (fun q => ?_) fun q => kB (fun g => ?_) fun g => ?_
  · have q := of_decide_eq_true q
    rw [← sI_odd] at q
    have := ix_ge h q
    exact kT_ok ha (by rw [show ix F u = 2 * Y + 1 by omega, sI_odd])
  · have q := of_decide_eq_false q
    rw [← sI_odd] at q
    have := ix_lt h (i := 2 * Y + 1) (u := u) (by omega)
    have g := of_decide_eq_true g
    rw [← sI_even] at g
    have := ix_ge h g
    exact kT_ok ha (by rw [show ix F u = 2 * Y by omega, sI_even])
  · have g := of_decide_eq_false g
    rw [← sI_even] at g
    exact hS (ix_lt h (by omega))
theorem no_head {F : Ft} {u i : Int} (hu : bdU u = true) (hF : bdF F = true) (ha : ¬ AskOk F u) :
 brc (bdF F) (∀ m0 : Bool, m0 = decide (FtOk F) → brc (!m0) (AV.tup [.agg [.int .i64 0, .int .i64 0, .bool false, .str ⟨#[]⟩], .int .i64 1] = stV F u i) (brc (bdU u) (∀ m1 : Int, m1 = yAt u → brc (decide (m1 < -4714)) (AV.tup [.agg [.int .i64 0, .int .i64 0, .bool false, .str ⟨#[]⟩], .int .i64 10] = stV F u i) (brc (decide (m1 > 294278)) (AV.tup [.agg [.int .i64 0, .int .i64 0, .bool false, .str ⟨#[]⟩], .int .i64 10] = stV F u i) False)) False)) False := by
 refine brcT hF ?_
 rintro _ rfl
 by_cases h : FtOk F
 · refine brcF (by simp [h]) (brcT hu ?_)
   rintro _ rfl
   refine kB (fun g => ?_) fun g => kB (fun q => ?_) fun q => ?_
   · have g := of_decide_eq_true g
     exact st_far h (by omega)
   · have q := of_decide_eq_true q
     exact st_far h (by omega)
   · have g := of_decide_eq_false g
     have q := of_decide_eq_false q
     exact ha ⟨h, by omega, by omega⟩
 · exact brcT (by simp [h]) (st_no h)
theorem cyAtR_ok : COk Tryz.prog 64 (cyStand 0) := by
 intro args p v hc hp w A hA
 obtain ⟨F, u, rfl, rfl, hu, hF⟩ := st_open hc hp
 rw [show ix F u + 0 = ix F u by omega]
 by_cases ha : AskOk F u
 · refine af_gives (kD cyNear_ok bE) (by kernel_rfl) rfl (n := 13) ?_ hA
   rw [raty_vc]
   refine brcT (by rw [hu, decide_eq_true ha]; rfl) ?_
   rintro _ rfl
   obtain ⟨_, e1, e2, _⟩ := ask_year ha
   exact goM_ok ha 5 _ _ (fun e => by omega) (by omega)
 · refine af_gives (kD cyYearR_ok (kD cyCanR_ok bE)) (by kernel_rfl) rfl (n := 2) ?_ hA
   rw [ratno_vc]
   exact no_head hu hF ha
end
end Go.Proofs.YtimgphlfaninnaaGreat.P
namespace Go.Proofs.YtimgphlfaninnaaGreat.P
open Go.RowKit Go.Proofs.YtimgphlfaninnaaGreat.Ft Go.Proofs.YtimgphlfaninnaaGreat.Zn
set_option linter.unusedVariables false
set_option linter.unusedSimpArgs false
open A
def zrKeep : List Bool := ((((List.replicate 100 false).set 1 true).set 2 true).set 3 true).set 4 true
def zrKeepX : List Bool := (((List.replicate 100 false).set 1 true).set 2 true).set 3 true
def zrCS : CS := { m := 2, keep := zrKeep }
def zrCX : CS := { m := 2, keep := zrKeepX }
def zrHead' (z : Zt) (i l : Int) : St := ⟨((((List.replicate 100 none).set 1 (some (.ptr 0 0 0 0))).set 2 (some (.bool false))).set 3 (some (.int .i64 l))).set 4 (some (.int .i64 i)), zrH z, []⟩
def zrHead (z : Zt) (i : Nat) : St := zrHead' z (i : Int) (zrLast z i)
set_option maxRecDepth 100000 in
theorem zr_round (z : Zt) (i l : Int) (R : Option St → Prop) (Q : Ex → Option St → Prop) : aroundN PA Tryz.prog (tab []) noLoops 6 (loopOf Tryz.prog 25 0) (zrHead' z i l) (fun st => R (canon zrCS st)) (fun e st => Q e (canon zrCX st)) =
 brc (decide (i < z.n)) (brc (decide (0 ≤ i) && decide (i < z.n)) (brc (decide (z.tf (Int.toNat i) ≥ -57600)) (brc (!decide (z.tf (Int.toNat i) ≤ 57600)) (Q .ret (some (zrEnd z l))) (brc (decide (z.ta (Int.toNat i) ≤ l)) (Q .ret (some (zrEnd z l))) (brc (decide (z.ta (Int.toNat i) > 1125899906842624)) (Q .ret (some (zrEnd z l))) (R (some (zrHead' z (IntKind.wrap .i64 (i + 1)) (z.ta (Int.toNat i)))))))) (Q .ret (some (zrEnd z l)))) False) (Q (.exit 0) (some (zrEnd z l))) := by kernel_rfl
def zrRowOk (z : Zt) (j : Nat) : Prop := (-57600 ≤ z.tf j ∧ z.tf j ≤ 57600) ∧ zrLast z j < z.ta j ∧ z.ta j ≤ 1125899906842624
noncomputable def zrFrom (z : Zt) (i : Nat) : Bool := @decide (∀ j, i ≤ j → j < z.n → zrRowOk z j) (Classical.propDecidable _)
theorem zrFrom_iff {z : Zt} {i : Nat} : zrFrom z i = true ↔ ∀ j, i ≤ j → j < z.n → zrRowOk z j :=
 ⟨fun h => @of_decide_eq_true _ (Classical.propDecidable _) h, fun h => @decide_eq_true _ (Classical.propDecidable _) h⟩
def zrG (z : Zt) (i : Nat) (Q : Ex → St → Prop) : Prop := (i ≤ z.n ∧ z.n ≤ 8192) ∧ brc (zrFrom z i) (Q (.exit 0) (zrEnd z (zrLast z z.n))) (∀ l, Q .ret (zrEnd z l))
set_option maxRecDepth 100000 in
theorem zr_noloops : Code.loops (loopOf Tryz.prog 25 0) = [] := by kernel_rfl
attribute [local irreducible] aroundN
theorem zr_hround (z : Zt) (i : Nat) (Q : Ex → St → Prop) (hG : zrG z i Q) : aroundN PA Tryz.prog (tab []) noLoops 6 (loopOf Tryz.prog 25 0) (zrHead z i) (fun st' => again (zrHead z) (znMu z) (zrG z) i Q (canon zrCS st')) (fun e st' => left Q e (canon zrCX st')) := by
 rw [show zrHead z i = zrHead' z (i : Int) (zrLast z i) from rfl]
 have hv := zr_round z i (zrLast z i) (again (zrHead z) (znMu z) (zrG z) i Q) (left Q)
 refine Eq.mpr hv ?_
 obtain ⟨⟨hi, hn⟩, hq⟩ := hG
 have ti : Int.toNat (i : Int) = i := by omega
 rw [ti]
 have nx : i < z.n → zrRowOk z i → again (zrHead z) (znMu z) (zrG z) i Q (some (zrHead' z (IntKind.wrap .i64 ((i : Int) + 1)) (z.ta i))) := fun h hr => by
  refine ⟨i + 1, by unfold znMu; omega, ⟨⟨by omega, hn⟩, ?_⟩, ?_⟩
  · have e : zrFrom z (i + 1) = zrFrom z i := by
     rw [Bool.eq_iff_iff, zrFrom_iff, zrFrom_iff]
     refine ⟨fun g j h1 h2 => ?_, fun g j h1 h2 => g j (by omega) h2⟩
     by_cases k : j = i
     · subst k; exact hr
     · exact g j (by omega) h2
    rw [e]; exact hq
  · rw [jU (by omega)]; rfl
 have bad : i < z.n → ¬ zrRowOk z i → left Q .ret (some (zrEnd z (zrLast z i))) := fun h hr => by
  have e : zrFrom z i = false := by
   rw [← Bool.not_eq_true, zrFrom_iff]; exact fun g => hr (g i (Nat.le_refl _) h)
  rw [e] at hq
  exact ⟨_, rfl, hq _⟩
 refine kB (fun g => ?_) fun g => ?_
 · have g : i < z.n := by have := of_decide_eq_true g; omega
   refine kB (fun _ => ?_) fun k => absurd k (by simp; omega)
   refine kB (fun a => ?_) fun a => bad g fun k => of_decide_eq_false a k.1.1
   refine kB (fun b => bad g fun k => by simp at b; exact absurd k.1.2 (by omega)) fun b => ?_
   refine kB (fun c => bad g fun k => by have := of_decide_eq_true c; exact absurd k.2.1 (by omega)) fun c => ?_
   refine kB (fun d => bad g fun k => by have := of_decide_eq_true d; exact absurd k.2.2 (by omega)) fun d => ?_
   have a := of_decide_eq_true a
   have c := of_decide_eq_false c
   have d := of_decide_eq_false d
   simp at b
   exact nx g ⟨⟨a, b⟩, by omega, by omega⟩
 · have g := of_decide_eq_false g
   have e : zrFrom z i = true := zrFrom_iff.2 fun j h1 h2 => by omega
   rw [e] at hq
   obtain rfl : i = z.n := by omega
   exact ⟨_, rfl, hq⟩
theorem zr_lc (z : Zt) (i : Nat) : LcOk Tryz.prog (loopOf Tryz.prog 25 0) (lcOf zrCS (zrHead z) (zrG z) i) :=
 lc_ok (T := tab []) mixed bE (LT := noLoops) (n := 6) (noLoops_in zr_noloops) (c := zrCS) (cX := zrCX) rfl (zr_hround z) i
theorem zr_same {z : Zt} : zrFrom z 0 = true ↔ RowsOk z 0 := by
 rw [zrFrom_iff]
 constructor
 · intro h j _ hj
   have low : ∀ k, k < z.n → -1125899906842624 ≤ z.ta k := by
    intro k
    induction k with
    | zero => intro hk; have := (h 0 (by omega) hk).2.1; rw [show zrLast z 0 = -1125899906842625 from rfl] at this; omega
    | succ k ih => intro hk; have := (h (k + 1) (by omega) hk).2.1; have := ih (by omega); rw [show zrLast z (k + 1) = z.ta k from rfl] at *; omega
   obtain ⟨a, b, c⟩ := h j (by omega) hj
   refine ⟨a, ⟨low j hj, c⟩, fun hp => ?_⟩
   cases j with
   | zero => omega
   | succ j => exact b
 · intro h j _ hj
   obtain ⟨a, b, c⟩ := h j (by omega) hj
   refine ⟨a, ?_, b.2⟩
   cases j with
   | zero => rw [show zrLast z 0 = -1125899906842625 from rfl]; omega
   | succ j => exact c (by omega)
def SHOWrright (z : Zt) (A B : Prop) : Prop := isH (some (zrHead z 0)) (zrHead z 0) ∧ ((0 ≤ z.n ∧ z.n ≤ 8192) ∧ brc (zrFrom z 0) A (∀ l : Int, B))
set_option maxRecDepth 100000 in
theorem loops_rright : loopsOf Tryz.prog 25 = [loopOf Tryz.prog 25 0] := by kernel_rfl
set_option maxRecDepth 100000 in
theorem rzright_vc (z : Zt) (K : AV → Prop) : AFL (tab [(63, cyYear), (64, cyStand 0)]) (fun k => if k = 6 then some (lcOf zrCS (zrHead z) (zrG z) 0) else none) 6 25 [.agg (avZ z)] K =
 (brc (decide (Zt.off0 z ≥ -57600)) (brc (!decide (Zt.off0 z ≤ 57600)) (K (AV.bool false)) (brc (Zt.at0 z != 0) (K (AV.bool false)) (brc (decide (((Zt.n z : Nat) : Int) > 8192)) (K (AV.bool false)) (SHOWrright z (brc (!Ft.z (Zt.F z)) (K (AV.bool (Ft.z (Zt.F z) == false && (Ft.fr (Zt.F z) == 0 && (Ft.off (Zt.F z) == 0 && (Hf.m (Ft.a (Zt.F z)) == 0 && (Hf.k (Ft.a (Zt.F z)) == 0 && (Hf.w (Ft.a (Zt.F z)) == 0 && (Hf.n (Ft.a (Zt.F z)) == 0 && true)) && (Hf.s (Ft.a (Zt.F z)) == 0 && (Hf.c (Ft.a (Zt.F z)) == 0 && true) && (Hf.v (Ft.a (Zt.F z)) == 0 && (ByteArray.toList (Hf.ab (Ft.a (Zt.F z))) == ByteArray.toList (ByteArray.mk #[]) && true)))) && (Hf.m (Ft.b (Zt.F z)) == 0 && (Hf.k (Ft.b (Zt.F z)) == 0 && (Hf.w (Ft.b (Zt.F z)) == 0 && (Hf.n (Ft.b (Zt.F z)) == 0 && true)) && (Hf.s (Ft.b (Zt.F z)) == 0 && (Hf.c (Ft.b (Zt.F z)) == 0 && true) && (Hf.v (Ft.b (Zt.F z)) == 0 && (ByteArray.toList (Hf.ab (Ft.b (Zt.F z))) == ByteArray.toList (ByteArray.mk #[]) && true)))) && true))))))) (brc (decide (-9223372036854775808 ≤ Ft.fr (Zt.F z) ∧ Ft.fr (Zt.F z) ≤ 9223372036854775807)) (∀ m0 : Int, m0 = yAt (Ft.fr (Zt.F z)) → brc (decide (-9223372036854775808 ≤ Ft.fr (Zt.F z) ∧ Ft.fr (Zt.F z) ≤ 9223372036854775807 ∧ -9223372036854775808 ≤ Hf.m (Ft.a (Zt.F z)) ∧ Hf.m (Ft.a (Zt.F z)) ≤ 9223372036854775807 ∧ -9223372036854775808 ≤ Hf.m (Ft.b (Zt.F z)) ∧ Hf.m (Ft.b (Zt.F z)) ≤ 9223372036854775807)) (∀ m1 : Int, m1 = Tr.t (tZ (Zt.F z) (Ft.fr (Zt.F z)) (ix (Zt.F z) (Ft.fr (Zt.F z)) + 0)) → ∀ m2 : Int, m2 = Tr.off (tZ (Zt.F z) (Ft.fr (Zt.F z)) (ix (Zt.F z) (Ft.fr (Zt.F z)) + 0)) → ∀ m3 : Bool, m3 = Tr.dst (tZ (Zt.F z) (Ft.fr (Zt.F z)) (ix (Zt.F z) (Ft.fr (Zt.F z)) + 0)) → ∀ m4 : Int, m4 = err2 (Zt.F z) (Ft.fr (Zt.F z)) → brc (m4 == 0) (brc (m1 == Ft.fr (Zt.F z)) (brc (decide (Ft.fr (Zt.F z) > zrLast z (Zt.n z))) (brc (decide (m0 ≥ 1800)) (K (AV.bool (decide (m0 ≤ 2110)))) (K (AV.bool false))) (K (AV.bool false))) (K (AV.bool false))) (K (AV.bool false))) False) False)) (K (AV.bool false)))))) (K (AV.bool false))) := by kernel_rfl
theorem rzright_ok {z : Zt} (hb : bdZ z.F = true) : AFL (tab [(63, cyYear), (64, cyStand 0)]) (fun k => if k = 6 then some (lcOf zrCS (zrHead z) (zrG z) 0) else none) 6 25 [.agg (avZ z)] (Res (.bool (decide (ZtOk z)))) := by
 rw [rzright_vc]
 obtain ⟨b1, b2, b3, b4, b5, b6⟩ := of_decide_eq_true hb
 have no : ¬ ZtOk z → Res (.bool (decide (ZtOk z))) (.bool false) := fun h => by rw [decide_eq_false h]; exact zN rfl
 have yes : ∀ b : Bool, (b = true ↔ ZtOk z) → Res (.bool (decide (ZtOk z))) (.bool b) := fun b h => by
  have e : b = decide (ZtOk z) := by rw [Bool.eq_iff_iff, decide_eq_true_iff]; exact h
  rw [e]; exact zN rfl
 refine kB (fun a1 => ?_) fun a1 => no fun k => of_decide_eq_false a1 k.1.1
 refine kB (fun a2 => no fun k => by simp at a2; have := k.1.2; omega) fun a2 => ?_
 refine kB (fun a3 => no fun k => by simp at a3; exact a3 k.2.1) fun a3 => ?_
 refine kB (fun a4 => no fun k => by simp at a4; have := k.2.2.1; omega) fun a4 => ?_
 have a1 := of_decide_eq_true a1
 simp at a2 a3 a4
 refine ⟨isH_rfl _, ⟨Nat.zero_le _, by omega⟩, ?_⟩
 refine kB (fun a5 => ?_) fun a5 => fun _ => no fun k => by
  have := zr_same.2 k.rows
  rw [a5] at this; cases this
 have a5 := zr_same.1 a5
 refine kB (fun a6 => ?_) fun a6 => ?_
 · refine yes _ ?_
   have hz : z.F.z = false := by simpa using a6
   unfold ZtOk
   rw [if_neg (by rw [hz]; simp)]
   unfold FootNo HalfNo
   simp only [hz, beq_self_eq_true, Bool.true_and, Bool.and_true, Bool.and_eq_true, beq_iff_eq, and_assoc]
   constructor
   · rintro ⟨h1, h2, h3, h4, h5, h6, h7, h8, h9, h10, h11, h12, h13, h14, h15, h16, h17, h18⟩
     exact ⟨a1, by omega, a3, by omega, a5, h1, h2, h3, h4, h5, h6, h7, h8, h9, h10, h11, h12, h13, h14, h15, h16, h17, h18⟩
   · rintro ⟨_, _, _, _, _, h1, h2, h3, h4, h5, h6, h7, h8, h9, h10, h11, h12, h13, h14, h15, h16, h17, h18⟩
     exact ⟨h1, h2, h3, h4, h5, h6, h7, h8, h9, h10, h11, h12, h13, h14, h15, h16, h17, h18⟩
 · have hz : z.F.z = true := by simpa using a6
   have fy : ZtOk z → FootYes z := fun k => k.foot hz
   refine brcT (decide_eq_true ⟨b1, b2⟩) ?_
   rintro _ rfl
   refine brcT (decide_eq_true ⟨b1, b2, b3, b4, b5, b6⟩) ?_
   rintro _ rfl _ rfl _ rfl _ rfl
   refine kB (fun c1 => ?_) fun c1 => no fun k => by
    have := err_zero.2 (fy k).1
    rw [this] at c1; cases c1
   have ha : AskOk z.F z.F.fr := err_zero.1 (by simpa using c1)
   have ht : (tZ z.F z.F.fr (ix z.F z.F.fr + 0)).t = (sI z.F (ix z.F z.F.fr)).t := by
    unfold tZ; simp only [if_pos ha]; rw [Int.add_zero]
   rw [ht]
   have hl : z.F.fr > zrLast z z.n ↔ (z.n = 0 ∨ z.ta (z.n - 1) < z.F.fr) := by
    cases hn : z.n with
    | zero =>
     rw [show zrLast z 0 = -1125899906842625 from rfl]
     refine ⟨fun _ => .inl rfl, fun _ => ?_⟩
     obtain ⟨_, _, e1, e2, e3⟩ := ask_year ha
     have := yAt_low ha.2.1
     omega
    | succ n => rw [show zrLast z (n + 1) = z.ta n from rfl]; exact ⟨fun h => .inr h, fun h => by rcases h with e | e; omega; exact e⟩
   refine kB (fun c2 => ?_) fun c2 => no fun k => by simp at c2; exact c2 (fy k).2.1
   refine kB (fun c5 => ?_) fun c5 => no fun k => of_decide_eq_false c5 (hl.2 (fy k).2.2.2.2)
   refine kB (fun c3 => ?_) fun c3 => no fun k => of_decide_eq_false c3 (fy k).2.2.1
   refine yes _ ?_
   rw [decide_eq_true_iff]
   exact ⟨fun c4 => ⟨⟨a1, by omega⟩, a3, by omega, a5, by rw [if_pos hz]; exact ⟨ha, by simpa using c2, of_decide_eq_true c3, c4, hl.1 (of_decide_eq_true c5)⟩⟩, fun k => (fy k).2.2.2.1⟩
theorem rzRight_ok : COk Tryz.prog 25 zyRight := afl_con (kD cyYearR_ok (kD cyAtR_ok bE)) (by kernel_rfl) fun args p v hc hp => by
 unfold zyRight at hc
 split at hc
 case h_2 => cases hc
 split at hc
 case h_2 => cases hc
 rename_i l _ q z hl
 simp only [Option.some.injEq, Prod.mk.injEq] at hc
 obtain ⟨rfl, rfl⟩ := hc
 subst hp
 obtain ⟨h1, h2⟩ := rdZ_move hl
 exact ⟨_, _, _, fun w A hA => rl_1 (fun V h => h2 h) hA, lt_of loops_rright (zr_lc z 0), rzright_ok h1⟩
theorem cp_move {l : List AV} {z : Zt} (e : rdZ l = some (true, z)) {ρ : Names} {W : World} {V : Value} (h : RV ρ W (.cp l 0) V) : RV ρ W (.cp (avZ z) 0) V := by
 cases h with | cp j hb hl hc =>
 have h2 := (rdZ_move e).2 (RV.agg hl)
 cases h2 with | agg h3 => exact .cp 0 hb (by simpa using h3) hc
def srKeep : List Bool := (((List.replicate 26 false).set 1 true).set 5 true).set 6 true
def srKeepX : List Bool := ((List.replicate 26 false).set 5 true)
def srCS : CS := { m := 0, keep := srKeep }
def srCX : CS := { m := 0, keep := srKeepX }
def srF (g : Nat) (z : Zt) (u : Int) : AV := .fn (.func g) [] [.cp (avZ z) 0, .cp [.int .i64 u] 0]
def srHead' (g : Nat) (z : Zt) (u i j : Int) : St := ⟨(((List.replicate 26 none).set 1 (some (srF g z u))).set 5 (some (.int .i64 i))).set 6 (some (.int .i64 j)), [], []⟩
def srEnd (i : Int) : St := ⟨(List.replicate 26 none).set 5 (some (.int .i64 i)), [], []⟩
def srMid (i j : Int) : Int := IntKind.wrap .i64 (Int.fdiv (IntKind.wrap .u64 (IntKind.wrap .i64 (i + j))) (2 ^ min (Int.toNat 1) (IntKind.bits .u64)))
def srVC (g : Nat) (z : Zt) (u i j : Int) (R : Option St → Prop) (Q : Ex → Option St → Prop) : Prop :=
 brc (decide (i < j)) (brc (decide (0 ≤ srMid i j) && decide (srMid i j < z.n)) (brc (!decide (z.ta (Int.toNat (srMid i j)) > u)) (R (some (srHead' g z u (IntKind.wrap .i64 (srMid i j + 1)) j))) (R (some (srHead' g z u i (srMid i j))))) False) (Q (.exit 0) (some (srEnd i)))
set_option maxRecDepth 100000 in
theorem sr_round1 (z : Zt) (u i j : Int) (R : Option St → Prop) (Q : Ex → Option St → Prop) : aroundN PA Tryz.prog (tab []) noLoops 6 (loopOf Tryz.prog 119 0) (srHead' 120 z u i j) (fun st => R (canon srCS st)) (fun e st => Q e (canon srCX st)) = srVC 120 z u i j R Q := by kernel_rfl
set_option maxRecDepth 100000 in
theorem sr_round2 (z : Zt) (u i j : Int) (R : Option St → Prop) (Q : Ex → Option St → Prop) : aroundN PA Tryz.prog (tab []) noLoops 6 (loopOf Tryz.prog 119 0) (srHead' 151 z u i j) (fun st => R (canon srCS st)) (fun e st => Q e (canon srCX st)) = srVC 151 z u i j R Q := by kernel_rfl
def srHead (g : Nat) (z : Zt) (u : Int) (x : Nat × Nat) : St := srHead' g z u (x.1 : Int) (x.2 : Int)
def srMu (x : Nat × Nat) : Nat := x.2 - x.1
def srG (z : Zt) (u : Int) (x : Nat × Nat) (Q : Ex → St → Prop) : Prop := (x.1 ≤ kz z u z.n ∧ kz z u z.n ≤ x.2 ∧ x.2 ≤ z.n ∧ z.n ≤ 8192 ∧ RowsOk z 0) ∧ Q (.exit 0) (srEnd (kz z u z.n))
theorem srMid_eq {i j : Nat} (h : i + j ≤ 16384) : srMid i j = (((i + j) / 2 : Nat) : Int) := by
 unfold srMid
 have e1 : IntKind.wrap .i64 ((i : Int) + j) = (i + j : Nat) := by rw [jU (by omega)]; omega
 have e2 : IntKind.wrap .u64 (((i + j : Nat) : Int)) = ((i + j : Nat) : Int) := by
  have : IntKind.wrap .u64 (((i + j : Nat) : Int)) = ((i + j : Nat) : Int) % 18446744073709551616 := by simp [IntKind.wrap, IntKind.bits, IntKind.signed]
  omega
 rw [e1, e2, show (2 : Int) ^ min (Int.toNat 1) (IntKind.bits .u64) = 2 by decide, Int.fdiv_eq_ediv_of_nonneg _ (by omega), jU (by omega)]
 omega
theorem sr_step {g : Nat} {z : Zt} {u : Int} {x : Nat × Nat} {Q : Ex → St → Prop} (hG : srG z u x Q) : srVC g z u (x.1 : Int) (x.2 : Int) (again (srHead g z u) srMu (srG z u) x Q) (left Q) := by
 obtain ⟨i, j⟩ := x
 obtain ⟨⟨h1, h2, h3, h4, h5⟩, hq⟩ := hG
 simp only at h1 h2 h3
 unfold srVC
 simp only
 refine kB (fun a => ?_) fun a => ?_
 · have a := of_decide_eq_true a
   have hij : i < j := by omega
   rw [srMid_eq (by omega)]
   refine brcT (by simp; omega) ?_
   rw [Int.toNat_natCast]
   have iff := kz_iff h5 u z.n ((i + j) / 2) (Nat.le_refl _) (by omega)
   refine kB (fun b => ?_) fun b => ?_
   · simp at b
     have := iff.2 b
     refine ⟨((i + j) / 2 + 1, j), by unfold srMu; simp only; omega, ⟨⟨by simp only; omega, h2, h3, h4, h5⟩, hq⟩, ?_⟩
     rw [jU (by omega)]; rfl
   · simp at b
     have : ¬ ((i + j) / 2 < kz z u z.n) := fun q => by have := iff.1 q; omega
     exact ⟨(i, (i + j) / 2), by unfold srMu; simp only; omega, ⟨⟨h1, by simp only; omega, by simp only; omega, h4, h5⟩, hq⟩, rfl⟩
 · have a := of_decide_eq_false a
   have e : i = kz z u z.n := by omega
   refine ⟨_, rfl, ?_⟩
   rw [e]; exact hq
set_option maxRecDepth 100000 in
theorem sr_noloops : Code.loops (loopOf Tryz.prog 119 0) = [] := by kernel_rfl
set_option maxRecDepth 100000 in
theorem loops_sr : loopsOf Tryz.prog 119 = [loopOf Tryz.prog 119 0] := by kernel_rfl
theorem sr_hround1 (z : Zt) (u : Int) (x : Nat × Nat) (Q : Ex → St → Prop) (hG : srG z u x Q) : aroundN PA Tryz.prog (tab []) noLoops 6 (loopOf Tryz.prog 119 0) (srHead 120 z u x) (fun st' => again (srHead 120 z u) srMu (srG z u) x Q (canon srCS st')) (fun e st' => left Q e (canon srCX st')) := by
 have hv := sr_round1 z u (x.1 : Int) (x.2 : Int) (again (srHead 120 z u) srMu (srG z u) x Q) (left Q)
 exact Eq.mpr hv (sr_step hG)
theorem sr_hround2 (z : Zt) (u : Int) (x : Nat × Nat) (Q : Ex → St → Prop) (hG : srG z u x Q) : aroundN PA Tryz.prog (tab []) noLoops 6 (loopOf Tryz.prog 119 0) (srHead 151 z u x) (fun st' => again (srHead 151 z u) srMu (srG z u) x Q (canon srCS st')) (fun e st' => left Q e (canon srCX st')) := by
 have hv := sr_round2 z u (x.1 : Int) (x.2 : Int) (again (srHead 151 z u) srMu (srG z u) x Q) (left Q)
 exact Eq.mpr hv (sr_step hG)
theorem sr_lc1 (z : Zt) (u : Int) (x : Nat × Nat) : LcOk Tryz.prog (loopOf Tryz.prog 119 0) (lcOf srCS (srHead 120 z u) (srG z u) x) :=
 lc_ok (T := tab []) mixed bE (LT := noLoops) (n := 6) (noLoops_in sr_noloops) (c := srCS) (cX := srCX) rfl (sr_hround1 z u) x
theorem sr_lc2 (z : Zt) (u : Int) (x : Nat × Nat) : LcOk Tryz.prog (loopOf Tryz.prog 119 0) (lcOf srCS (srHead 151 z u) (srG z u) x) :=
 lc_ok (T := tab []) mixed bE (LT := noLoops) (n := 6) (noLoops_in sr_noloops) (c := srCS) (cX := srCX) rfl (sr_hround2 z u) x
def srW (g : Nat) (z : Zt) (u : Int) (K : AV → Prop) : Prop := isH (some (srHead g z u (0, z.n))) (srHead g z u (0, z.n)) ∧ ((0 ≤ kz z u z.n ∧ kz z u z.n ≤ z.n ∧ z.n ≤ z.n ∧ z.n ≤ 8192 ∧ RowsOk z 0) ∧ K (.int .i64 (kz z u z.n)))
set_option maxRecDepth 100000 in
theorem sr_vc1 (z : Zt) (u : Int) (K : AV → Prop) : AFL (tab []) (fun k => if k = 3 then some (lcOf srCS (srHead 120 z u) (srG z u) (0, z.n)) else none) 6 119 [.int .i64 z.n, srF 120 z u] K = srW 120 z u K := by kernel_rfl
set_option maxRecDepth 100000 in
theorem sr_vc2 (z : Zt) (u : Int) (K : AV → Prop) : AFL (tab []) (fun k => if k = 3 then some (lcOf srCS (srHead 151 z u) (srG z u) (0, z.n)) else none) 6 119 [.int .i64 z.n, srF 151 z u] K = srW 151 z u K := by kernel_rfl
theorem zySearch_ok : COk Tryz.prog 119 zySearch := afl_con bE (by kernel_rfl) fun args p v hc hp => by
 unfold zySearch at hc
 split at hc
 case h_2 => cases hc
 rename_i n g l u
 split at hc
 case isFalse => cases hc
 rename_i hg
 split at hc
 case h_2 => cases hc
 rename_i q z hl
 simp only [Option.some.injEq, Prod.mk.injEq] at hc
 obtain ⟨rfl, rfl⟩ := hc
 rw [Bool.and_eq_true] at hp
 obtain ⟨rfl, hq⟩ := hp
 obtain ⟨h1, h2, h3⟩ := of_decide_eq_true hq
 subst h2
 have mv : ∀ w A, RL noNames w [.int .i64 z.n, .fn (.func g) [] [.cp l 0, .cp [.int .i64 u] 0]] A → RL noNames w [.int .i64 z.n, srF g z u] A := fun w A hA => by
  cases hA with | cons a0 hA =>
  cases hA with | cons a1 hA =>
  cases a1 with | fn f ha hb =>
  cases hb with | cons b0 hb =>
  exact .cons a0 (.cons (.fn _ ha (.cons (cp_move hl b0) hb)) hA)
 have hw : srW g z u (Res (.int .i64 (kz z u z.n))) := ⟨isH_rfl _, ⟨Nat.zero_le _, kz_le _ _ _, Nat.le_refl _, h3, h1⟩, zN rfl⟩
 rcases hg with rfl | rfl
 · exact ⟨_, 6, _, mv, lt_of loops_sr (sr_lc1 z u (0, z.n)), by rw [sr_vc1]; exact hw⟩
 · exact ⟨_, 6, _, mv, lt_of loops_sr (sr_lc2 z u (0, z.n)), by rw [sr_vc2]; exact hw⟩
set_option maxRecDepth 100000 in
theorem zat0_vc (z : Zt) (u : Int) (K : AV → Prop) : AFL (tab [(93, cyStand 0), (119, zySearch)]) (noLoops) 3 80 [.agg (avZ z), .int .i64 u] K =
 (brc (Ft.z (Zt.F z)) (brc (decide (u ≥ Ft.fr (Zt.F z))) (brc (decide (-9223372036854775808 ≤ u ∧ u ≤ 9223372036854775807 ∧ -9223372036854775808 ≤ Hf.m (Ft.a (Zt.F z)) ∧ Hf.m (Ft.a (Zt.F z)) ≤ 9223372036854775807 ∧ -9223372036854775808 ≤ Hf.m (Ft.b (Zt.F z)) ∧ Hf.m (Ft.b (Zt.F z)) ≤ 9223372036854775807)) (∀ m0 : Int, m0 = Tr.t (tZ (Zt.F z) u (ix (Zt.F z) u + 0)) → ∀ m1 : Int, m1 = Tr.off (tZ (Zt.F z) u (ix (Zt.F z) u + 0)) → ∀ m2 : Bool, m2 = Tr.dst (tZ (Zt.F z) u (ix (Zt.F z) u + 0)) → ∀ m3 : Int, m3 = err2 (Zt.F z) u → K (AV.agg [.int .i64 m0, .int .i64 m1, .bool m2, .str (Tr.ab (tZ (Zt.F z) u (ix (Zt.F z) u + 0)))])) False) (brc (tyR (Zt.n z) (znRow z) && bdZ (Zt.F z) && decide (RowsOk z 0 ∧ ((Zt.n z : Nat) : Int) = ((Zt.n z : Nat) : Int) ∧ Zt.n z ≤ 8192)) (∀ m0 : Int, m0 = ((kz z u (Zt.n z) : Nat) : Int) → brc (m0 == 0) (K (AV.agg [.int .i64 (Zt.at0 z), .int .i64 (Zt.off0 z), .bool (Zt.d0 z), .str (Zt.b0 z)])) (brc (decide (0 ≤ IntKind.wrap .i64 (m0 - 1)) && decide (IntKind.wrap .i64 (m0 - 1) < ((Zt.n z : Nat) : Int))) (K (AV.agg [.int .i64 (Zt.ta z (Int.toNat (IntKind.wrap .i64 (m0 - 1)))), .int .i64 (Zt.tf z (Int.toNat (IntKind.wrap .i64 (m0 - 1)))), .bool (Zt.td z (Int.toNat (IntKind.wrap .i64 (m0 - 1)))), .str (Zt.tb z (Int.toNat (IntKind.wrap .i64 (m0 - 1))))])) False)) False)) (brc (tyR (Zt.n z) (znRow z) && bdZ (Zt.F z) && decide (RowsOk z 0 ∧ ((Zt.n z : Nat) : Int) = ((Zt.n z : Nat) : Int) ∧ Zt.n z ≤ 8192)) (∀ m0 : Int, m0 = ((kz z u (Zt.n z) : Nat) : Int) → brc (m0 == 0) (K (AV.agg [.int .i64 (Zt.at0 z), .int .i64 (Zt.off0 z), .bool (Zt.d0 z), .str (Zt.b0 z)])) (brc (decide (0 ≤ IntKind.wrap .i64 (m0 - 1)) && decide (IntKind.wrap .i64 (m0 - 1) < ((Zt.n z : Nat) : Int))) (K (AV.agg [.int .i64 (Zt.ta z (Int.toNat (IntKind.wrap .i64 (m0 - 1)))), .int .i64 (Zt.tf z (Int.toNat (IntKind.wrap .i64 (m0 - 1)))), .bool (Zt.td z (Int.toNat (IntKind.wrap .i64 (m0 - 1)))), .str (Zt.tb z (Int.toNat (IntKind.wrap .i64 (m0 - 1))))])) False)) False)) := by kernel_rfl
theorem tyZ (z : Zt) (h : bdZ z.F = true) : (tyR z.n (znRow z) && bdZ z.F) = true := by rw [tyR_row, h]; rfl
theorem dec6 {F : Ft} {u : Int} (h : bdZ F = true) (h1 : -9223372036854775808 ≤ u) (h2 : u ≤ 9223372036854775807) : decide (-9223372036854775808 ≤ u ∧ u ≤ 9223372036854775807 ∧ -9223372036854775808 ≤ F.a.m ∧ F.a.m ≤ 9223372036854775807 ∧ -9223372036854775808 ≤ F.b.m ∧ F.b.m ≤ 9223372036854775807) = true := by
 obtain ⟨_, _, b3, b4, b5, b6⟩ := of_decide_eq_true h
 exact decide_eq_true ⟨h1, h2, b3, b4, b5, b6⟩
theorem zat0_ok {z : Zt} {u : Int} (hb : bdZ z.F = true) (hz : ZtOk z) (ha : Asked u) (h1 : -9223372036854775808 ≤ u) (h2 : u ≤ 9223372036854775807) : AFL (tab [(93, cyStand 0), (119, zySearch)]) noLoops 3 80 [.agg (avZ z), .int .i64 u] (Res (.agg (avT (atZ z u)))) := by
 rw [zat0_vc]
 have rows : ∀ (k : Int), k = ((kz z u z.n : Nat) : Int) → ¬ (z.F.z = true ∧ z.F.fr ≤ u) → brc (k == 0) (Res (.agg (avT (atZ z u))) (AV.agg [.int .i64 (Zt.at0 z), .int .i64 (Zt.off0 z), .bool (Zt.d0 z), .str (Zt.b0 z)])) (brc (decide (0 ≤ IntKind.wrap .i64 (k - 1)) && decide (IntKind.wrap .i64 (k - 1) < ((Zt.n z : Nat) : Int))) (Res (.agg (avT (atZ z u))) (AV.agg [.int .i64 (Zt.ta z (Int.toNat (IntKind.wrap .i64 (k - 1)))), .int .i64 (Zt.tf z (Int.toNat (IntKind.wrap .i64 (k - 1)))), .bool (Zt.td z (Int.toNat (IntKind.wrap .i64 (k - 1)))), .str (Zt.tb z (Int.toNat (IntKind.wrap .i64 (k - 1))))])) False) := fun k hk hf => by
  have hle := kz_le z u z.n
  have hn := hz.2.2.1
  have e0 : atZ z u = rowTr z (kz z u z.n) := by unfold atZ; rw [if_neg hf]
  rw [e0]
  generalize kz z u z.n = m at *
  subst hk
  refine kB (fun a => ?_) fun a => ?_
  · have : m = 0 := by simpa using a
    subst this
    exact zN rfl
  · have hm : 0 < m := by simp at a; omega
    rw [show IntKind.wrap .i64 ((m : Int) - 1) = ((m - 1 : Nat) : Int) by rw [jU (by omega)]; omega]
    refine brcT (by simp; omega) ?_
    rw [Int.toNat_natCast]
    unfold rowTr
    rw [if_neg (by omega)]
    exact zN rfl
 have find : decide (RowsOk z 0 ∧ ((Zt.n z : Nat) : Int) = ((Zt.n z : Nat) : Int) ∧ Zt.n z ≤ 8192) = true := decide_eq_true ⟨hz.rows, rfl, hz.2.2.1⟩
 refine kB (fun a => ?_) fun a => ?_
 · refine kB (fun b => ?_) fun b => ?_
   · refine brcT (dec6 hb h1 h2) ?_
     rintro _ rfl _ rfl _ rfl _ rfl
     have b := of_decide_eq_true b
     have hk : AskOk z.F u := ⟨(hz.foot a).1.1, ha.1, ha.2⟩
     have e0 : atZ z u = tZ z.F u (ix z.F u + 0) := by
      unfold atZ tZ; rw [if_pos ⟨a, b⟩]; simp only [if_pos hk]; rw [Int.add_zero]
     rw [e0]
     exact zN rfl
   · refine brcT (by rw [tyZ z hb, find]; rfl) fun k hk => rows k hk fun q => of_decide_eq_false b q.2
 · refine brcT (by rw [tyZ z hb, find]; rfl) fun k hk => rows k hk fun q => by rw [q.1] at a; cases a
theorem zyAt0_ok : COk Tryz.prog 80 zyAt0 := afl_con (kD cyAtF_ok (kD zySearch_ok bE)) (by kernel_rfl) fun args p v hc hp => by
 unfold zyAt0 at hc
 split at hc
 case h_2 => cases hc
 split at hc
 case h_2 => cases hc
 rename_i u _ q z hl
 simp only [Option.some.injEq, Prod.mk.injEq] at hc
 obtain ⟨rfl, rfl⟩ := hc
 rw [Bool.and_eq_true] at hp
 obtain ⟨rfl, hq⟩ := hp
 obtain ⟨h1, h2, h3, h4⟩ := of_decide_eq_true hq
 obtain ⟨k1, k2⟩ := rdZ_move hl
 exact ⟨_, _, _, fun w A hA => rl_1 (fun V h => k2 h) hA, zI _ _, zat0_ok k1 h1 h2 h3 h4⟩
set_option maxRecDepth 100000 in
theorem zat_vc (z : Zt) (u : Int) (K : AV → Prop) : AFL (tab [(49, zyRight), (80, zyAt0), (92, cyYear)]) (noLoops) 6 39 [.agg (avZ z), .int .i64 u] K =
 (brc (tyR (Zt.n z) (znRow z) && bdZ (Zt.F z)) (∀ m0 : Bool, m0 = decide (ZtOk z) → brc (!m0) (K (AV.tup [.agg [.int .i64 0, .int .i64 0, .bool false, .str (ByteArray.mk #[])], .int .i64 1])) (brc (decide (-9223372036854775808 ≤ u ∧ u ≤ 9223372036854775807)) (∀ m1 : Int, m1 = yAt u → brc (decide (m1 ≥ -4714)) (brc (!decide (m1 ≤ 294278)) (K (AV.tup [.agg [.int .i64 0, .int .i64 0, .bool false, .str (ByteArray.mk #[])], .int .i64 10])) (brc (tyR (Zt.n z) (znRow z) && bdZ (Zt.F z) && decide (ZtOk z ∧ Asked u ∧ -9223372036854775808 ≤ u ∧ u ≤ 9223372036854775807)) (∀ m2 : Int, m2 = Tr.t (atZ z u) → ∀ m3 : Int, m3 = Tr.off (atZ z u) → ∀ m4 : Bool, m4 = Tr.dst (atZ z u) → K (AV.tup [.agg [.int .i64 m2, .int .i64 m3, .bool m4, .str (Tr.ab (atZ z u))], .int .i64 0])) False)) (K (AV.tup [.agg [.int .i64 0, .int .i64 0, .bool false, .str (ByteArray.mk #[])], .int .i64 10]))) False)) False) := by kernel_rfl
theorem zErr_ok {z : Zt} {u : Int} (h : ZtOk z) (k : Asked u) : zErr z u = 0 := by unfold zErr; rw [if_pos h, if_pos k]
theorem atE_ok {z : Zt} {u : Int} (h : ZtOk z) (k : Asked u) : atE z u = atZ z u := by unfold atE; simp only [zErr_ok h k, if_true]
theorem atE_no {z : Zt} {u : Int} (h : zErr z u ≠ 0) : atE z u = ⟨0, 0, false, ⟨#[]⟩⟩ := by unfold atE; simp only [if_neg h]
theorem zat_ok {z : Zt} {u : Int} (hb : bdZ z.F = true) (h1 : -9223372036854775808 ≤ u) (h2 : u ≤ 9223372036854775807) : AFL (tab [(49, zyRight), (80, zyAt0), (92, cyYear)]) noLoops 6 39 [.agg (avZ z), .int .i64 u] (Res (.tup [.agg (avT (atE z u)), .int .i64 (zErr z u)])) := by
 rw [zat_vc]
 have no : ∀ e : Int, zErr z u = e → e ≠ 0 → Res (.tup [.agg (avT (atE z u)), .int .i64 (zErr z u)]) (AV.tup [.agg [.int .i64 0, .int .i64 0, .bool false, .str (ByteArray.mk #[])], .int .i64 e]) := fun e he h => by
  rw [atE_no (by rw [he]; exact h), he]; exact zN rfl
 refine brcT (tyZ z hb) ?_
 rintro _ rfl
 refine kB (fun a => ?_) fun a => ?_
 · exact no 1 (by unfold zErr; rw [if_neg (by simpa using a)]) (by omega)
 have hz : ZtOk z := by simpa using a
 refine brcT (decide_eq_true ⟨h1, h2⟩) ?_
 rintro _ rfl
 have far : ¬ Asked u → Res (.tup [.agg (avT (atE z u)), .int .i64 (zErr z u)]) (AV.tup [.agg [.int .i64 0, .int .i64 0, .bool false, .str (ByteArray.mk #[])], .int .i64 10]) := fun h => no 10 (by unfold zErr; rw [if_pos hz, if_neg h]) (by omega)
 refine kB (fun b => ?_) fun b => far fun q => of_decide_eq_false b q.1
 refine kB (fun c => far fun q => by simp at c; have := q.2; omega) fun c => ?_
 have hk : Asked u := ⟨of_decide_eq_true b, by simpa using c⟩
 refine brcT (by rw [tyZ z hb, decide_eq_true (show ZtOk z ∧ Asked u ∧ -9223372036854775808 ≤ u ∧ u ≤ 9223372036854775807 from ⟨hz, hk, h1, h2⟩)]; rfl) ?_
 rintro _ rfl _ rfl _ rfl
 rw [atE_ok hz hk, zErr_ok hz hk]
 exact zN rfl
theorem zyAt_ok : COk Tryz.prog 39 zyAt := afl_con (kD zyRight_ok (kD zyAt0_ok (kD cyYear_ok bE))) (by kernel_rfl) fun args p v hc hp => by
 unfold zyAt at hc
 split at hc
 case h_2 => cases hc
 split at hc
 case h_2 => cases hc
 rename_i u _ q z hl
 simp only [Option.some.injEq, Prod.mk.injEq] at hc
 obtain ⟨rfl, rfl⟩ := hc
 rw [Bool.and_eq_true] at hp
 obtain ⟨rfl, hq⟩ := hp
 obtain ⟨h3, h4⟩ := of_decide_eq_true hq
 obtain ⟨k1, k2⟩ := rdZ_move hl
 exact ⟨_, _, _, fun w A hA => rl_1 (fun V h => k2 h) hA, zI _ _, zat_ok k1 h3 h4⟩
def n10 (l : List (Option AV)) : List (Option AV) := none :: none :: none :: none :: none :: none :: none :: none :: none :: none :: l
def Code.rf : Code → Option (Code × Code)
 | .rangeFunc _ _ a b => some (a, b)
 | .seq x y => match Code.rf x with
  | some r => some r
  | none => Code.rf y
 | .cond _ x y => match Code.rf x with
  | some r => some r
  | none => Code.rf y
 | .block _ x => Code.rf x
 | .loop x => Code.rf x
 | _ => none
noncomputable def rfA (f : Nat) : Code := match ((Tryz.prog.funcs[f]?).bind (·.body)).bind Code.rf with
 | some p => p.1
 | none => .skip
noncomputable def rfB (f : Nat) : Code := match ((Tryz.prog.funcs[f]?).bind (·.body)).bind Code.rf with
 | some p => p.2
 | none => .skip
def in13 : List (Option AV) := (none :: none :: none :: some (.ptr 1 0 0 0) :: none :: none :: none :: none :: none :: some (.ptr 7 0 0 0) :: some (.ptr 8 0 0 0) :: n10 (n10 (n10 (n10 (n10 (n10 (n10 (none :: []))))))))
def in19 : List (Option AV) := (none :: some (.ptr 9 0 0 0) :: some (.ptr 10 0 0 0) :: some (.ptr 11 0 0 0) :: some (.ptr 14 0 0 0) :: n10 (n10 (none :: none :: none :: none :: none :: none :: none :: [])))
def inK13 : List Bool := (((List.replicate 82 false).set 3 true).set 9 true).set 10 true
def inK19 : List Bool := ((((List.replicate 32 false).set 1 true).set 2 true).set 3 true).set 4 true
def inKs (n : Nat) : List Bool := match n with
 | 13 => inK13
 | 19 => inK19
 | _ => []
noncomputable def inHeap (z : Zt) (u a b fr l0 l1 l2 : Int) (m : Ob) (r : Heap) : Heap :=
 some (.cells (avZ z)) :: some (.cells [.int .i64 u]) :: some (.own true 2 1 [.int .i64 u]) :: some (.cells (avZ z)) :: some (.own true 2 1 [.int .i64 a, .int .i64 b]) :: some (.cells (avZ z)) :: some m :: some (.cells [.mp 6]) :: some (.cells [.int .i64 l0, .int .i64 l1, .int .i64 l2]) ::
  some (.cells (avZ z)) :: some (.cells [.int .i64 fr]) :: some (.cells [.int .i64 b]) :: some .dfr :: some (.loop .ready none in13 [38] (rfA 36) (rfB 36)) :: some (.cells [.yl 13]) :: some (.cells (avZ z)) :: some (.cells [.int .i64 a]) :: some (.cells [.int .i64 b]) :: some .dfr ::
  some (.loop .ready none in19 [10] (rfA 114) (rfB 114)) :: r
def inM : Option (Nat × (Nat → Int)) → Ob
 | none => .mapo [] 0
 | some (n, c) => .mapo [(.int .i64 0, .gs 20 1 n)] 1
def cI (g : Nat → Int) : Nat → Nat → AV := fun i _ => .int .i64 (g i)
def inR : Option (Nat × (Nat → Int)) → Heap
 | none => []
 | some (n, g) => [some (.vec 2 1 n (cI g))]
def inT1 (k : Int) : List (Option AV) := (some (.yl 19) :: some (.ptr 15 0 0 0) :: some (.ptr 16 0 0 0) :: some (.ptr 17 0 0 0) :: none :: some (.int .i64 k) :: n10 (n10 (n10 (n10 (n10 (n10 (n10 (none :: []))))))))
def inTX : List (Option AV) := (some (.yl 19) :: some (.ptr 15 0 0 0) :: some (.ptr 16 0 0 0) :: some (.ptr 17 0 0 0) :: n10 (n10 (n10 (n10 (n10 (n10 (n10 (none :: none :: none :: []))))))))
def inKeep1 : List Bool := (((((List.replicate 77 false).set 0 true).set 1 true).set 2 true).set 3 true).set 5 true
def inKeepX : List Bool := ((((List.replicate 77 false).set 0 true).set 1 true).set 2 true).set 3 true
def inCS1 : CS := { m := 20, keep := inKeep1, maps := [6], ks := inKs }
def inCX : CS := { m := 20, keep := inKeepX, maps := [6], ks := inKs }
noncomputable def inH1 (z : Zt) (u a b k fr l0 l1 l2 : Int) (f : Option (Nat × (Nat → Int))) : St := ⟨inT1 k, inHeap z u a b fr l0 l1 l2 (inM f) (inR f), []⟩
noncomputable def inX (z : Zt) (u a b fr l0 l1 l2 : Int) (f : Option (Nat × (Nat → Int))) : St := ⟨inTX, inHeap z u a b fr l0 l1 l2 (inM f) (inR f), []⟩
structure Ac where
 fr : Int
 l0 : Int
 l1 : Int
 l2 : Int
 f : Option (Nat × (Nat → Int))
def acPush (f : Option (Nat × (Nat → Int))) (w : Int) : Option (Nat × (Nat → Int)) := match f with
 | none => some (1, fun _ => w)
 | some (n, g) => some (n + 1, fun i => if decide (i < n) = true then g i else w)
noncomputable def acS (z : Zt) (u t : Int) (s : Ac) : Ac :=
 ⟨t, if s.fr < u - (atZ z s.fr).off then s.fr else s.l0, if s.fr < u - (atZ z s.fr).off then t - 1 else s.l1, if s.fr < u - (atZ z s.fr).off then (atZ z s.fr).off else s.l2, if s.fr ≤ u - (atZ z s.fr).off ∧ u - (atZ z s.fr).off ≤ t - 1 then acPush s.f (u - (atZ z s.fr).off) else s.f⟩
noncomputable def acR (z : Zt) (u : Int) : Nat → Nat → Ac → Ac
 | 0, _, s => s
 | m + 1, k, s => acR z u m (k + 1) (acS z u (z.ta k) s)
noncomputable def acF (z : Zt) (u : Int) : Nat → Int → Ac → Ac
 | 0, _, s => s
 | m + 1, i, s => acF z u m (i + 1) (acS z u (sI z.F (i + 1)).t s)
def inT2 (k : Int) : List (Option AV) := (some (.yl 19) :: some (.ptr 15 0 0 0) :: some (.ptr 16 0 0 0) :: some (.ptr 17 0 0 0) :: none :: none :: some (.int .i64 k) :: n10 (n10 (n10 (n10 (n10 (n10 (n10 ([]))))))))
def inKeep2 : List Bool := (((((List.replicate 77 false).set 0 true).set 1 true).set 2 true).set 3 true).set 6 true
def inCS2 : CS := { m := 20, keep := inKeep2, roots := [], maps := [6], ks := inKs }
def inCY : CS := { m := 20, keep := List.replicate 77 false, maps := [6], ks := inKs }
def inTY : List (Option AV) := (n10 (n10 (n10 (n10 (n10 (n10 (n10 (none :: none :: none :: none :: none :: none :: none :: []))))))))
noncomputable def inH2 (z : Zt) (u a b k fr l0 l1 l2 : Int) (f : Option (Nat × (Nat → Int))) : St := ⟨inT2 k, inHeap z u a b fr l0 l1 l2 (inM f) (inR f), []⟩
noncomputable def inY (z : Zt) (u a b fr l0 l1 l2 : Int) (f : Option (Nat × (Nat → Int))) : St := ⟨inTY, inHeap z u a b fr l0 l1 l2 (inM f) (inR f), []⟩
def inCS3 : CS := { m := 21, keep := inKeep2, maps := [6], ks := inKs, mv := [20] }
def inCZ : CS := { m := 21, keep := List.replicate 77 false, maps := [6], ks := inKs, mv := [20] }
def inM3 (n : Nat) : Ob := .mapo [(.int .i64 0, .gs 21 1 n)] 1
def inR3 (n : Nat) (g : Nat → Int) : Heap := [some .dead, some (.vec 2 1 n (cI g))]
noncomputable def inH3 (z : Zt) (u a b k fr l0 l1 l2 : Int) (n : Nat) (g : Nat → Int) : St := ⟨inT2 k, inHeap z u a b fr l0 l1 l2 (inM3 n) (inR3 n g), []⟩
noncomputable def inZ (z : Zt) (u a b fr l0 l1 l2 : Int) (n : Nat) (g : Nat → Int) : St := ⟨inTY, inHeap z u a b fr l0 l1 l2 (inM3 n) (inR3 n g), []⟩
noncomputable def inHf (z : Zt) (u a b k fr l0 l1 l2 : Int) (f : Option (Nat × (Nat → Int))) : St := match f with
 | some (n, g) => inH3 z u a b k fr l0 l1 l2 n g
 | none => inH3 z u a b k fr l0 l1 l2 0 fun _ => 0
def inLess (u fr e m l0 l1 l2 : Int) (K : Int → Int → Int → Prop) : Prop := brc (decide (fr < IntKind.wrap .i64 (u - m))) (K fr e m) (K l0 l1 l2)
def inPush (f : Option (Nat × (Nat → Int))) (w : Int) (K : Option (Nat × (Nat → Int)) → Prop) : Prop := match f with
 | none => K (some (1, fun _ => w))
 | some (n, g) => brc (Nat.beq n n && roomB (n + 1) 8) (K (some (n + 1, fun i => if decide (i < n) = true then g i else w))) False
def inStep (z : Zt) (u fr e l0 l1 l2 : Int) (f : Option (Nat × (Nat → Int))) (K : Option (Nat × (Nat → Int)) → Int → Int → Int → Prop) : Prop :=
 brc (tyR z.n (znRow z) && bdZ z.F && decide (ZtOk z ∧ Asked fr ∧ -9223372036854775808 ≤ fr ∧ fr ≤ 9223372036854775807)) (∀ m0 : Int, m0 = (atZ z fr).t → ∀ m1 : Int, m1 = (atZ z fr).off → ∀ m2 : Bool, m2 = (atZ z fr).dst →
  brc (decide (IntKind.wrap .i64 (u - m1) ≥ fr)) (brc (decide (IntKind.wrap .i64 (u - m1) ≤ e)) (inPush f (IntKind.wrap .i64 (u - m1)) fun f' => inLess u fr e m1 l0 l1 l2 (K f')) (inLess u fr e m1 l0 l1 l2 (K f))) (inLess u fr e m1 l0 l1 l2 (K f))) False
def inVC1 (z : Zt) (u a b k fr l0 l1 l2 : Int) (f : Option (Nat × (Nat → Int))) (R : Option St → Prop) (Q : Ex → Option St → Prop) : Prop :=
 brc (decide (k < z.n)) (brc (decide (0 ≤ k) && decide (k < z.n)) (brc (decide (z.ta (Int.toNat k) ≤ b)) (brc (decide (0 ≤ k) && decide (k < z.n)) (inStep z u fr (IntKind.wrap .i64 (z.ta (Int.toNat k) - 1)) l0 l1 l2 f fun f' x y w => R (some (inH1 z u a b (IntKind.wrap .i64 (k + 1)) (z.ta (Int.toNat k)) x y w f'))) False) (Q (.exit 0) (some (inX z u a b fr l0 l1 l2 f)))) False) (Q (.exit 0) (some (inX z u a b fr l0 l1 l2 f)))
def inVC2 (z : Zt) (u a b k fr l0 l1 l2 : Int) (f : Option (Nat × (Nat → Int))) (R : Option St → Prop) (Q : Ex → Option St → Prop) : Prop :=
 brc (decide (k < b)) (brc (decide (-9223372036854775808 ≤ k ∧ k ≤ 9223372036854775807 ∧ -9223372036854775808 ≤ z.F.a.m ∧ z.F.a.m ≤ 9223372036854775807 ∧ -9223372036854775808 ≤ z.F.b.m ∧ z.F.b.m ≤ 9223372036854775807)) (∀ t : Int, t = (tZ z.F k (ix z.F k + 1)).t → ∀ o : Int, o = (tZ z.F k (ix z.F k + 1)).off → ∀ d : Bool, d = (tZ z.F k (ix z.F k + 1)).dst → ∀ e : Int, e = err2 z.F k →
  brc (e != 0) (Q .ret (some (inY z u a b fr l0 l1 l2 f))) (brc (decide (t > b)) (Q .ret (some (inY z u a b fr l0 l1 l2 f))) (inStep z u fr (IntKind.wrap .i64 (t - 1)) l0 l1 l2 f fun f' x y w => R (some (inH2 z u a b t t x y w f'))))) False) (Q (.exit 2) (some (inY z u a b fr l0 l1 l2 f)))
def inSome (f : Option (Nat × (Nat → Int))) (K : Nat → (Nat → Int) → Prop) : Prop := match f with
 | some (n, g) => K n g
 | none => False
def inVC3 (z : Zt) (u a b k fr l0 l1 l2 : Int) (n : Nat) (g : Nat → Int) (R : Option St → Prop) (Q : Ex → Option St → Prop) : Prop :=
 brc (decide (k < b)) (brc (decide (-9223372036854775808 ≤ k ∧ k ≤ 9223372036854775807 ∧ -9223372036854775808 ≤ z.F.a.m ∧ z.F.a.m ≤ 9223372036854775807 ∧ -9223372036854775808 ≤ z.F.b.m ∧ z.F.b.m ≤ 9223372036854775807)) (∀ t : Int, t = (tZ z.F k (ix z.F k + 1)).t → ∀ o : Int, o = (tZ z.F k (ix z.F k + 1)).off → ∀ d : Bool, d = (tZ z.F k (ix z.F k + 1)).dst → ∀ e : Int, e = err2 z.F k →
  brc (e != 0) (Q .ret (some (inZ z u a b fr l0 l1 l2 n g))) (brc (decide (t > b)) (Q .ret (some (inZ z u a b fr l0 l1 l2 n g))) (inStep z u fr (IntKind.wrap .i64 (t - 1)) l0 l1 l2 (some (n, g)) fun f' x y w => inSome f' fun n' g' => R (some (inH3 z u a b t t x y w n' g'))))) False) (Q (.exit 2) (some (inZ z u a b fr l0 l1 l2 n g)))
set_option maxRecDepth 100000 in
theorem in_round1a (z : Zt) (u a b k fr l0 l1 l2 : Int) (R : Option St → Prop) (Q : Ex → Option St → Prop) : aroundN PA Tryz.prog (tab [(80, zyAt0)]) noLoops 12 (loopOf Tryz.prog 150 0) (inH1 z u a b k fr l0 l1 l2 none) (fun st => R (canon inCS1 st)) (fun e st => Q e (canon inCX st)) = inVC1 z u a b k fr l0 l1 l2 none R Q := by kernel_rfl
set_option maxRecDepth 100000 in
theorem in_round1b (z : Zt) (u a b k fr l0 l1 l2 : Int) (n : Nat) (g : Nat → Int) (R : Option St → Prop) (Q : Ex → Option St → Prop) : aroundN PA Tryz.prog (tab [(80, zyAt0)]) noLoops 12 (loopOf Tryz.prog 150 0) (inH1 z u a b k fr l0 l1 l2 (some (n, g))) (fun st => R (canon inCS1 st)) (fun e st => Q e (canon inCX st)) = inVC1 z u a b k fr l0 l1 l2 (some (n, g)) R Q := by kernel_rfl
set_option maxRecDepth 100000 in
theorem in_round2a (z : Zt) (u a b k fr l0 l1 l2 : Int) (R : Option St → Prop) (Q : Ex → Option St → Prop) : aroundN PA Tryz.prog (tab [(80, zyAt0), (152, cyStand 1)]) noLoops 12 (loopOf Tryz.prog 150 1) (inH2 z u a b k fr l0 l1 l2 none) (fun st => R (canon inCS2 st)) (fun e st => Q e (canon inCY st)) = inVC2 z u a b k fr l0 l1 l2 none R Q := by kernel_rfl
set_option maxRecDepth 100000 in
theorem in_round3 (z : Zt) (u a b k fr l0 l1 l2 : Int) (n : Nat) (g : Nat → Int) (R : Option St → Prop) (Q : Ex → Option St → Prop) : aroundN PA Tryz.prog (tab [(80, zyAt0), (152, cyStand 1)]) noLoops 12 (loopOf Tryz.prog 150 1) (inH3 z u a b k fr l0 l1 l2 n g) (fun st => R (canon inCS3 st)) (fun e st => Q e (canon inCZ st)) = inVC3 z u a b k fr l0 l1 l2 n g R Q := by kernel_rfl
set_option maxRecDepth 100000 in
theorem in_round2b (z : Zt) (u a b k fr l0 l1 l2 : Int) (n : Nat) (g : Nat → Int) (R : Option St → Prop) (Q : Ex → Option St → Prop) : aroundN PA Tryz.prog (tab [(80, zyAt0), (152, cyStand 1)]) noLoops 12 (loopOf Tryz.prog 150 1) (inH2 z u a b k fr l0 l1 l2 (some (n, g))) (fun st => R (canon inCS2 st)) (fun e st => Q e (canon inCY st)) = inVC2 z u a b k fr l0 l1 l2 (some (n, g)) R Q := by kernel_rfl
def cntF : Option (Nat × (Nat → Int)) → Nat
 | none => 0
 | some (n, _) => n
theorem cnt_push (f : Option (Nat × (Nat → Int))) (w : Int) : cntF (acPush f w) = cntF f + 1 := by
 cases f with
 | none => rfl
 | some p => obtain ⟨n, g⟩ := p; rfl
structure InC (z : Zt) (u a b : Int) (s : Ac) : Prop where
 ok : ZtOk z
 bd : bdZ z.F = true
 ea : a = u - 57600
 eb : b = u + 57600
 ask : Asked u
 aska : Asked a
 askb : Asked b
 lo : a ≤ s.fr
 hi : s.fr ≤ b
 cnt : (cntF s.f : Int) ≤ s.fr - a
 l2 : -57600 ≤ s.l2 ∧ s.l2 ≤ 57600
 pos : ∀ n g, s.f = some (n, g) → 0 < n
theorem InC.askf {z : Zt} {u a b : Int} {s : Ac} (h : InC z u a b s) : Asked s.fr := asked_mid h.aska h.askb h.lo h.hi
theorem InC.bdf {z : Zt} {u a b : Int} {s : Ac} (h : InC z u a b s) : -300000000000000 ≤ s.fr ∧ s.fr ≤ 10000000000000 := asked_bd h.askf
theorem InC.bdu {z : Zt} {u a b : Int} {s : Ac} (h : InC z u a b s) : -300000000000000 ≤ u ∧ u ≤ 10000000000000 := asked_bd h.ask
theorem InC.off {z : Zt} {u a b : Int} {s : Ac} (h : InC z u a b s) : -57600 ≤ (atZ z s.fr).off ∧ (atZ z s.fr).off ≤ 57600 := atZ_off h.ok _
theorem in_step {z : Zt} {u a b t e : Int} {s : Ac} (h : InC z u a b s) (he : e = t - 1) (ht : s.fr < t) (htb : t ≤ b + 1) {K : Option (Nat × (Nat → Int)) → Int → Int → Int → Prop} (hK : K (acS z u t s).f (acS z u t s).l0 (acS z u t s).l1 (acS z u t s).l2) :
 inStep z u s.fr e s.l0 s.l1 s.l2 s.f K := by
 subst he
 have h1 := h.bdf
 have h2 := h.bdu
 have h3 := h.off
 have hc := h.cnt
 have hb := h.eb
 have ha := h.ea
 have hhi := h.hi
 unfold inStep
 refine brcT (by rw [tyZ z h.bd, decide_eq_true (show ZtOk z ∧ Asked s.fr ∧ -9223372036854775808 ≤ s.fr ∧ s.fr ≤ 9223372036854775807 from ⟨h.ok, h.askf, by omega, by omega⟩)]; rfl) ?_
 rintro _ rfl _ rfl _ rfl
 have ew : IntKind.wrap .i64 (u - (atZ z s.fr).off) = u - (atZ z s.fr).off := jU (by omega)
 rw [ew]
 have less : ∀ f', f' = (acS z u t s).f → inLess u s.fr (t - 1) (atZ z s.fr).off s.l0 s.l1 s.l2 (K f') := fun f' hf => by
  unfold inLess
  rw [ew, hf]
  refine kB (fun q => ?_) fun q => ?_
  · have q := of_decide_eq_true q
    simp only [acS, if_pos q] at hK ⊢
    exact hK
  · have q := of_decide_eq_false q
    simp only [acS, if_neg q] at hK ⊢
    exact hK
 refine kB (fun q => kB (fun r => ?_) fun r => ?_) fun q => ?_
 · have q := of_decide_eq_true q
   have r := of_decide_eq_true r
   have ef : (acS z u t s).f = acPush s.f (u - (atZ z s.fr).off) := by simp only [acS]; rw [if_pos ⟨q, r⟩]
   cases hf : s.f with
   | none => exact less _ (by rw [ef, hf]; rfl)
   | some p =>
    obtain ⟨n, g⟩ := p
    rw [hf] at hc
    have hn : (n : Int) ≤ s.fr - a := hc
    refine brcT ?_ (less _ (by rw [ef, hf]; rfl))
    have r1 : Nat.beq n n = true := by simp
    have r2 : roomB (n + 1) 8 = true := by
     unfold roomB
     rw [Bool.and_eq_true]
     exact ⟨Nat.ble_eq_true_of_le (by unfold maxLen; omega), Nat.ble_eq_true_of_le (by omega)⟩
    rw [r1, r2]; rfl
 · have r := of_decide_eq_false r
   refine less _ ?_
   simp only [acS]
   rw [if_neg (fun x => r x.2)]
 · have q := of_decide_eq_false q
   refine less _ ?_
   simp only [acS]
   rw [if_neg (fun x => q x.1)]
theorem acS_pos {z : Zt} {u t : Int} {s : Ac} (h : ∀ n g, s.f = some (n, g) → 0 < n) : ∀ n g, (acS z u t s).f = some (n, g) → 0 < n := fun n g e => by
 simp only [acS] at e
 split at e
 · unfold acPush at e
   split at e
   · simp only [Option.some.injEq, Prod.mk.injEq] at e; omega
   · simp only [Option.some.injEq, Prod.mk.injEq] at e; omega
 · exact h n g e
theorem in_next {z : Zt} {u a b t : Int} {s : Ac} (h : InC z u a b s) (ht : s.fr < t) (htb : t ≤ b) : InC z u a b (acS z u t s) := by
 have hc := h.cnt
 have hl := h.lo
 refine ⟨h.ok, h.bd, h.ea, h.eb, h.ask, h.aska, h.askb, ?_, htb, ?_, ?_, acS_pos h.pos⟩
 · show a ≤ t; omega
 · show (cntF (acS z u t s).f : Int) ≤ t - a
   simp only [acS]
   split
   · rw [cnt_push]; omega
   · omega
 · have h3 := h.off
   have h4 := h.l2
   simp only [acS]
   split
   · exact h3
   · exact h4
noncomputable def fin1 (z : Zt) (u b : Int) (k : Nat) (s : Ac) : Ac := acR z u (kz z b z.n - k) k s
noncomputable def inHx1 (z : Zt) (u a b : Int) (x : Nat × Ac) : St := inH1 z u a b (x.1 : Int) x.2.fr x.2.l0 x.2.l1 x.2.l2 x.2.f
def inMu1 (z : Zt) (x : Nat × Ac) : Nat := z.n - x.1
noncomputable def inG1 (z : Zt) (u a b : Int) (x : Nat × Ac) (Q : Ex → St → Prop) : Prop :=
 (InC z u a b x.2 ∧ x.1 ≤ kz z b z.n ∧ ∀ j, x.1 ≤ j → j < z.n → x.2.fr < z.ta j) ∧
 (((fin1 z u b x.1 x.2).f = none → Q (.exit 0) (inX z u a b (fin1 z u b x.1 x.2).fr (fin1 z u b x.1 x.2).l0 (fin1 z u b x.1 x.2).l1 (fin1 z u b x.1 x.2).l2 none)) ∧
  ∀ n c, (fin1 z u b x.1 x.2).f = some (n, c) → Q (.exit 0) (inX z u a b (fin1 z u b x.1 x.2).fr (fin1 z u b x.1 x.2).l0 (fin1 z u b x.1 x.2).l1 (fin1 z u b x.1 x.2).l2 (some (n, c))))
theorem in_vc1 {z : Zt} {u a b : Int} {x : Nat × Ac} {Q : Ex → St → Prop} (hG : inG1 z u a b x Q) : inVC1 z u a b (x.1 : Int) x.2.fr x.2.l0 x.2.l1 x.2.l2 x.2.f (again (inHx1 z u a b) (inMu1 z) (inG1 z u a b) x Q) (left Q) := by
 obtain ⟨k, s⟩ := x
 obtain ⟨⟨h, hk, hj⟩, q1, q2⟩ := hG
 simp only at h hk hj q1 q2
 have hle := kz_le z b z.n
 have hn := h.ok.2.2.1
 unfold inVC1
 simp only
 have stop : k = kz z b z.n → left Q (.exit 0) (some (inX z u a b s.fr s.l0 s.l1 s.l2 s.f)) := fun e => by
  have ef : fin1 z u b k s = s := by unfold fin1; rw [e, Nat.sub_self]; rfl
  rw [ef] at q1 q2
  refine ⟨_, rfl, ?_⟩
  cases hf : s.f with
  | none => exact q1 hf
  | some p => obtain ⟨n, c⟩ := p; exact q2 n c hf
 rw [Int.toNat_natCast]
 refine kB (fun c1 => ?_) fun c1 => stop (by have := of_decide_eq_false c1; omega)
 have c1 : k < z.n := by have := of_decide_eq_true c1; omega
 have iff := kz_iff h.ok.rows b z.n k (Nat.le_refl _) c1
 refine brcT (by simp; omega) (kB (fun c2 => brcT (by simp; omega) ?_) fun c2 => stop ?_)
 · have c2 := of_decide_eq_true c2
   have hlt := iff.2 c2
   have hfr := hj k (Nat.le_refl _) c1
   have hro := (h.ok.rows k (by omega) c1).2.1
   refine in_step h (jU (by omega)) hfr (by omega) ?_
   refine ⟨(k + 1, acS z u (z.ta k) s), by unfold inMu1; simp only; omega, ⟨⟨in_next h hfr c2, by simp only; omega, fun j h1 h2 => ?_⟩, ?_⟩, ?_⟩
   · exact rows_lt' h.ok.rows (by simp only at h1; omega) h2
   · have ef : fin1 z u b (k + 1) (acS z u (z.ta k) s) = fin1 z u b k s := by
      unfold fin1
      rw [show kz z b z.n - k = (kz z b z.n - (k + 1)) + 1 by omega]
      rfl
     simp only
     rw [ef]
     exact ⟨q1, q2⟩
   · rw [jU (by omega)]; rfl
 · have c2 := of_decide_eq_false c2
   have : ¬ k < kz z b z.n := fun q => c2 (iff.1 q)
   omega
noncomputable def fin2 (z : Zt) (u b : Int) (k : Int) (s : Ac) : Ac := acF z u (ix z.F b - ix z.F k).toNat (ix z.F k) s
noncomputable def inHx2 (z : Zt) (u a b : Int) (x : Int × Ac) : St := inH2 z u a b x.1 x.2.fr x.2.l0 x.2.l1 x.2.l2 x.2.f
def inMu2 (b : Int) (x : Int × Ac) : Nat := (b - x.1).toNat
noncomputable def inG2 (z : Zt) (u a b : Int) (x : Int × Ac) (Q : Ex → St → Prop) : Prop :=
 (InC z u a b x.2 ∧ z.F.z = true ∧ x.2.fr ≤ x.1) ∧
 (((fin2 z u b x.1 x.2).f = none → Q .ret (inY z u a b (fin2 z u b x.1 x.2).fr (fin2 z u b x.1 x.2).l0 (fin2 z u b x.1 x.2).l1 (fin2 z u b x.1 x.2).l2 none) ∧ Q (.exit 2) (inY z u a b (fin2 z u b x.1 x.2).fr (fin2 z u b x.1 x.2).l0 (fin2 z u b x.1 x.2).l1 (fin2 z u b x.1 x.2).l2 none)) ∧
  ∀ n c, (fin2 z u b x.1 x.2).f = some (n, c) → Q .ret (inY z u a b (fin2 z u b x.1 x.2).fr (fin2 z u b x.1 x.2).l0 (fin2 z u b x.1 x.2).l1 (fin2 z u b x.1 x.2).l2 (some (n, c))) ∧ Q (.exit 2) (inY z u a b (fin2 z u b x.1 x.2).fr (fin2 z u b x.1 x.2).l0 (fin2 z u b x.1 x.2).l1 (fin2 z u b x.1 x.2).l2 (some (n, c))))
theorem in_vc2 {z : Zt} {u a b : Int} {x : Int × Ac} {Q : Ex → St → Prop} (hG : inG2 z u a b x Q) : inVC2 z u a b x.1 x.2.fr x.2.l0 x.2.l1 x.2.l2 x.2.f (again (inHx2 z u a b) (inMu2 b) (inG2 z u a b) x Q) (left Q) := by
 obtain ⟨k, s⟩ := x
 obtain ⟨⟨h, hz, hk⟩, q1, q2⟩ := hG
 simp only at h hk q1 q2
 have hF : FtOk z.F := (h.ok.foot hz).1.1
 unfold inVC2
 simp only
 have stop : ix z.F b ≤ ix z.F k → left Q .ret (some (inY z u a b s.fr s.l0 s.l1 s.l2 s.f)) ∧ left Q (.exit 2) (some (inY z u a b s.fr s.l0 s.l1 s.l2 s.f)) := fun e => by
  have ef : fin2 z u b k s = s := by unfold fin2; rw [show (ix z.F b - ix z.F k).toNat = 0 by omega]; rfl
  rw [ef] at q1 q2
  cases hf : s.f with
  | none => exact ⟨⟨_, rfl, (q1 hf).1⟩, ⟨_, rfl, (q1 hf).2⟩⟩
  | some p => obtain ⟨n, c⟩ := p; exact ⟨⟨_, rfl, (q2 n c hf).1⟩, ⟨_, rfl, (q2 n c hf).2⟩⟩
 refine kB (fun c1 => ?_) fun c1 => (stop (ix_mono hF (by have := of_decide_eq_false c1; omega))).2
 have c1 := of_decide_eq_true c1
 have hask : Asked k := asked_mid h.aska h.askb (by have := h.lo; omega) (by omega)
 have hb := asked_bd hask
 refine brcT (dec6 h.bd (by omega) (by omega)) ?_
 have hA : AskOk z.F k := ⟨hF, hask.1, hask.2⟩
 have ht : (tZ z.F k (ix z.F k + 1)).t = (sI z.F (ix z.F k + 1)).t := by unfold tZ; simp only [if_pos hA]
 rw [ht]
 rintro _ rfl _ rfl _ rfl _ rfl
 refine kB (fun c2 => ?_) fun c2 => kB (fun c3 => ?_) fun c3 => ?_
 · rw [err_zero.2 hA] at c2; cases c2
 · refine (stop ?_).1
   have c3 := of_decide_eq_true c3
   have := next_le hF k b
   rcases Int.lt_or_le (ix z.F k) (ix z.F b) with q | q
   · have := this.2 (by omega); omega
   · exact q
 · have c3 := of_decide_eq_false c3
   have hle := (next_le hF k b).1 (by omega)
   have hgt := (ix_spec hF k).2
   have e1 := ix_next hF k
   have hbt : -9223372036854775808 ≤ (sI z.F (ix z.F k + 1)).t - 1 := by omega
   have hbb := asked_bd h.askb
   refine in_step h (jU ⟨hbt, by omega⟩) (by omega) (by omega) ?_
   refine ⟨((sI z.F (ix z.F k + 1)).t, acS z u (sI z.F (ix z.F k + 1)).t s), by unfold inMu2; simp only; omega, ⟨⟨in_next h (by omega) (by omega), hz, Int.le_refl _⟩, ?_⟩, rfl⟩
   have ef : fin2 z u b (sI z.F (ix z.F k + 1)).t (acS z u (sI z.F (ix z.F k + 1)).t s) = fin2 z u b k s := by
    unfold fin2
    rw [e1, show (ix z.F b - ix z.F k).toNat = (ix z.F b - (ix z.F k + 1)).toNat + 1 by omega]
    rfl
   simp only
   rw [ef]
   exact ⟨q1, q2⟩
noncomputable def inHx3 (z : Zt) (u a b : Int) (x : Int × Ac) : St := inHf z u a b x.1 x.2.fr x.2.l0 x.2.l1 x.2.l2 x.2.f
noncomputable def inG3 (z : Zt) (u a b : Int) (x : Int × Ac) (Q : Ex → St → Prop) : Prop :=
 (InC z u a b x.2 ∧ z.F.z = true ∧ x.2.fr ≤ x.1 ∧ x.2.f ≠ none) ∧
 ∀ n c, (fin2 z u b x.1 x.2).f = some (n, c) → Q .ret (inZ z u a b (fin2 z u b x.1 x.2).fr (fin2 z u b x.1 x.2).l0 (fin2 z u b x.1 x.2).l1 (fin2 z u b x.1 x.2).l2 n c) ∧ Q (.exit 2) (inZ z u a b (fin2 z u b x.1 x.2).fr (fin2 z u b x.1 x.2).l0 (fin2 z u b x.1 x.2).l1 (fin2 z u b x.1 x.2).l2 n c)
theorem acS_some {z : Zt} {u t : Int} {s : Ac} (h : s.f ≠ none) : (acS z u t s).f ≠ none := fun e => by
 simp only [acS] at e
 split at e
 · unfold acPush at e
   split at e <;> cases e
 · exact h e
theorem in_vc3 {z : Zt} {u a b : Int} {x : Int × Ac} {n : Nat} {g : Nat → Int} (hf : x.2.f = some (n, g)) {Q : Ex → St → Prop} (hG : inG3 z u a b x Q) : inVC3 z u a b x.1 x.2.fr x.2.l0 x.2.l1 x.2.l2 n g (again (inHx3 z u a b) (inMu2 b) (inG3 z u a b) x Q) (left Q) := by
 obtain ⟨k, s⟩ := x
 obtain ⟨⟨h, hz, hk, hn⟩, q2⟩ := hG
 simp only at h hk hn q2 hf
 have hF : FtOk z.F := (h.ok.foot hz).1.1
 unfold inVC3
 simp only
 have stop : ix z.F b ≤ ix z.F k → left Q .ret (some (inZ z u a b s.fr s.l0 s.l1 s.l2 n g)) ∧ left Q (.exit 2) (some (inZ z u a b s.fr s.l0 s.l1 s.l2 n g)) := fun e => by
  have ef : fin2 z u b k s = s := by unfold fin2; rw [show (ix z.F b - ix z.F k).toNat = 0 by omega]; rfl
  rw [ef] at q2
  exact ⟨⟨_, rfl, (q2 n g hf).1⟩, ⟨_, rfl, (q2 n g hf).2⟩⟩
 refine kB (fun c1 => ?_) fun c1 => (stop (ix_mono hF (by have := of_decide_eq_false c1; omega))).2
 have c1 := of_decide_eq_true c1
 have hask : Asked k := asked_mid h.aska h.askb (by have := h.lo; omega) (by omega)
 have hb := asked_bd hask
 refine brcT (dec6 h.bd (by omega) (by omega)) ?_
 have hA : AskOk z.F k := ⟨hF, hask.1, hask.2⟩
 have ht : (tZ z.F k (ix z.F k + 1)).t = (sI z.F (ix z.F k + 1)).t := by unfold tZ; simp only [if_pos hA]
 rw [ht]
 rintro _ rfl _ rfl _ rfl _ rfl
 refine kB (fun c2 => ?_) fun c2 => kB (fun c3 => ?_) fun c3 => ?_
 · rw [err_zero.2 hA] at c2; cases c2
 · refine (stop ?_).1
   have c3 := of_decide_eq_true c3
   have := next_le hF k b
   rcases Int.lt_or_le (ix z.F k) (ix z.F b) with q | q
   · have := this.2 (by omega); omega
   · exact q
 · have c3 := of_decide_eq_false c3
   have hle := (next_le hF k b).1 (by omega)
   have hgt := (ix_spec hF k).2
   have e1 := ix_next hF k
   have hbt : -9223372036854775808 ≤ (sI z.F (ix z.F k + 1)).t - 1 := by omega
   have hbb := asked_bd h.askb
   rw [← hf]
   refine in_step h (jU ⟨hbt, by omega⟩) (by omega) (by omega) ?_
   have hs := acS_some (z := z) (u := u) (t := (sI z.F (ix z.F k + 1)).t) hn
   cases hf2 : (acS z u (sI z.F (ix z.F k + 1)).t s).f with
   | none => exact (hs hf2).elim
   | some p =>
    obtain ⟨n2, g2⟩ := p
    refine ⟨((sI z.F (ix z.F k + 1)).t, acS z u (sI z.F (ix z.F k + 1)).t s), by unfold inMu2; simp only; omega, ⟨⟨in_next h (by omega) (by omega), hz, Int.le_refl _, hs⟩, ?_⟩, ?_⟩
    · have ef : fin2 z u b (sI z.F (ix z.F k + 1)).t (acS z u (sI z.F (ix z.F k + 1)).t s) = fin2 z u b k s := by
       unfold fin2
       rw [e1, show (ix z.F b - ix z.F k).toNat = (ix z.F b - (ix z.F k + 1)).toNat + 1 by omega]
       rfl
      simp only
      rw [ef]
      exact q2
    · unfold inHx3 inHf
      simp only [hf2]
      rfl
set_option maxRecDepth 100000 in
theorem in_noloops1 : Code.loops (loopOf Tryz.prog 150 0) = [] := by kernel_rfl
set_option maxRecDepth 100000 in
theorem in_noloops2 : Code.loops (loopOf Tryz.prog 150 1) = [] := by kernel_rfl
set_option maxRecDepth 100000 in
theorem loops_in : loopsOf Tryz.prog 150 = [loopOf Tryz.prog 150 0, loopOf Tryz.prog 150 1] := by kernel_rfl
set_option maxRecDepth 100000 in
theorem first_in1 : Code.first (loopOf Tryz.prog 150 0) = 2 := by kernel_rfl
set_option maxRecDepth 100000 in
theorem first_in2 : Code.first (loopOf Tryz.prog 150 1) = 7 := by kernel_rfl
theorem in_hround1 (z : Zt) (u a b : Int) (x : Nat × Ac) (Q : Ex → St → Prop) (hG : inG1 z u a b x Q) : aroundN PA Tryz.prog (tab [(80, zyAt0)]) noLoops 12 (loopOf Tryz.prog 150 0) (inHx1 z u a b x) (fun st' => again (inHx1 z u a b) (inMu1 z) (inG1 z u a b) x Q (canon inCS1 st')) (fun e st' => left Q e (canon inCX st')) := by
 have hq := in_vc1 hG
 obtain ⟨k, fr, l0, l1, l2, f⟩ := x
 cases f with
 | none => exact Eq.mpr (in_round1a z u a b k fr l0 l1 l2 (again (inHx1 z u a b) (inMu1 z) (inG1 z u a b) (k, ⟨fr, l0, l1, l2, none⟩) Q) (left Q)) hq
 | some p => obtain ⟨n, g⟩ := p; exact Eq.mpr (in_round1b z u a b k fr l0 l1 l2 n g (again (inHx1 z u a b) (inMu1 z) (inG1 z u a b) (k, ⟨fr, l0, l1, l2, some (n, g)⟩) Q) (left Q)) hq
theorem in_hround2 (z : Zt) (u a b : Int) (x : Int × Ac) (Q : Ex → St → Prop) (hG : inG2 z u a b x Q) : aroundN PA Tryz.prog (tab [(80, zyAt0), (152, cyStand 1)]) noLoops 12 (loopOf Tryz.prog 150 1) (inHx2 z u a b x) (fun st' => again (inHx2 z u a b) (inMu2 b) (inG2 z u a b) x Q (canon inCS2 st')) (fun e st' => left Q e (canon inCY st')) := by
 have hq := in_vc2 hG
 obtain ⟨k, fr, l0, l1, l2, f⟩ := x
 cases f with
 | none => exact Eq.mpr (in_round2a z u a b k fr l0 l1 l2 (again (inHx2 z u a b) (inMu2 b) (inG2 z u a b) (k, ⟨fr, l0, l1, l2, none⟩) Q) (left Q)) hq
 | some p => obtain ⟨n, g⟩ := p; exact Eq.mpr (in_round2b z u a b k fr l0 l1 l2 n g (again (inHx2 z u a b) (inMu2 b) (inG2 z u a b) (k, ⟨fr, l0, l1, l2, some (n, g)⟩) Q) (left Q)) hq
theorem in_lc1 (z : Zt) (u a b : Int) (x : Nat × Ac) : LcOk Tryz.prog (loopOf Tryz.prog 150 0) (lcOf inCS1 (inHx1 z u a b) (inG1 z u a b) x) :=
 lc_ok (T := tab [(80, zyAt0)]) mixed (kD zyAt0_ok bE) (LT := noLoops) (n := 12) (noLoops_in in_noloops1) (c := inCS1) (cX := inCX) rfl (in_hround1 z u a b) x
theorem in_lc2 (z : Zt) (u a b : Int) (x : Int × Ac) : LcOk Tryz.prog (loopOf Tryz.prog 150 1) (lcOf inCS2 (inHx2 z u a b) (inG2 z u a b) x) :=
 lc_ok (T := tab [(80, zyAt0), (152, cyStand 1)]) mixed (kD zyAt0_ok (kD cyNextF_ok bE)) (LT := noLoops) (n := 12) (noLoops_in in_noloops2) (c := inCS2) (cX := inCY) rfl (in_hround2 z u a b) x
theorem in_hround3 (z : Zt) (u a b : Int) (x : Int × Ac) (Q : Ex → St → Prop) (hG : inG3 z u a b x Q) : aroundN PA Tryz.prog (tab [(80, zyAt0), (152, cyStand 1)]) noLoops 12 (loopOf Tryz.prog 150 1) (inHx3 z u a b x) (fun st' => again (inHx3 z u a b) (inMu2 b) (inG3 z u a b) x Q (canon inCS3 st')) (fun e st' => left Q e (canon inCZ st')) := by
 obtain ⟨k, fr, l0, l1, l2, f⟩ := x
 cases f with
 | none => exact (hG.1.2.2.2 rfl).elim
 | some p => obtain ⟨n, g⟩ := p; exact Eq.mpr (in_round3 z u a b k fr l0 l1 l2 n g (again (inHx3 z u a b) (inMu2 b) (inG3 z u a b) (k, ⟨fr, l0, l1, l2, some (n, g)⟩) Q) (left Q)) (in_vc3 rfl hG)
theorem in_lc3 (z : Zt) (u a b : Int) (x : Int × Ac) : LcOk Tryz.prog (loopOf Tryz.prog 150 1) (lcOf inCS3 (inHx3 z u a b) (inG3 z u a b) x) :=
 lc_ok (T := tab [(80, zyAt0), (152, cyStand 1)]) mixed (kD zyAt0_ok (kD cyNextF_ok bE)) (LT := noLoops) (n := 12) (noLoops_in in_noloops2) (c := inCS3) (cX := inCZ) rfl (in_hround3 z u a b) x
noncomputable def lcTwo (lc1 lc2 : St → (Ex → St → Prop) → Prop) : St → (Ex → St → Prop) → Prop := fun st Q => brc (Nat.beq st.h.length 20) (lc1 st Q) (lc2 st Q)
theorem lcTwo_ok {P : Program} {b : Code} {lc1 lc2 : St → (Ex → St → Prop) → Prop} (h1 : LcOk P b lc1) (h2 : LcOk P b lc2) : LcOk P b (lcTwo lc1 lc2) := fun st Q ρ W w a h hs r n => by
 unfold lcTwo at h
 cases hb : Nat.beq st.h.length 20 with
 | true => rw [hb] at h; exact h1 st Q ρ W w a h hs r n
 | false => rw [hb] at h; exact h2 st Q ρ W w a h hs r n
noncomputable def inLG (z : Zt) (u a b : Int) (x1 : Nat × Ac) (x2 : Int × Ac) : FuncId → LTab Prop := fun g => if g = 150 then (fun k => if k = 2 then some (lcOf inCS1 (inHx1 z u a b) (inG1 z u a b) x1) else if k = 7 then some (lcTwo (lcOf inCS2 (inHx2 z u a b) (inG2 z u a b) x2) (lcOf inCS3 (inHx3 z u a b) (inG3 z u a b) x2)) else none) else fun _ => none
theorem inLG_ok (z : Zt) (u a b : Int) (x1 : Nat × Ac) (x2 : Int × Ac) (g : FuncId) : LtOk Tryz.prog g (inLG z u a b x1 x2 g) :=
 lg_ok (lt_two loops_in first_in1 first_in2 (by omega) (in_lc1 z u a b x1) (lcTwo_ok (in_lc2 z u a b x2) (in_lc3 z u a b x2))) g
@[irreducible] def AFLL (T : Tab) (LG : FuncId → LTab Prop) (n g : Nat) (args : List AV) (K : AV → Prop) : Prop := afnL PA Tryz.prog T LG n g args fun u h => nuK h u K
def curOf (z : Zt) (u : Int) : Int := if IntKind.wrap .i64 (z.F.fr - 1) > IntKind.wrap .i64 (u - 57600) then IntKind.wrap .i64 (z.F.fr - 1) else IntKind.wrap .i64 (u - 57600)
def x1Of (z : Zt) (u : Int) : Nat × Ac := (kz z (IntKind.wrap .i64 (u - 57600)) z.n, ⟨IntKind.wrap .i64 (u - 57600), 0, 0, 0, none⟩)
noncomputable def s1Of (z : Zt) (u : Int) : Ac := fin1 z u (IntKind.wrap .i64 (u + 57600)) (kz z (IntKind.wrap .i64 (u - 57600)) z.n) ⟨IntKind.wrap .i64 (u - 57600), 0, 0, 0, none⟩
noncomputable def x2Of (z : Zt) (u : Int) : Int × Ac := (curOf z u, s1Of z u)
noncomputable def s2Of (z : Zt) (u : Int) : Ac := fin2 z u (IntKind.wrap .i64 (u + 57600)) (curOf z u) (s1Of z u)
def inT (x : Int) (k : Int) : AV := .tup [.int .i64 x, .int .i64 k, .int .i64 0]
def inFin0 (z : Zt) (u : Int) (s : Ac) (K : AV → Prop) : Prop :=
 brc (tyR z.n (znRow z) && bdZ z.F && decide (ZtOk z ∧ Asked s.fr ∧ -9223372036854775808 ≤ s.fr ∧ s.fr ≤ 9223372036854775807)) (∀ m0 : Int, m0 = (atZ z s.fr).t → ∀ m1 : Int, m1 = (atZ z s.fr).off → ∀ m2 : Bool, m2 = (atZ z s.fr).dst →
  brc (decide (IntKind.wrap .i64 (u - m1) ≥ s.fr)) (brc (decide (IntKind.wrap .i64 (u - m1) ≤ IntKind.wrap .i64 (u + 57600))) (brc (decide (s.fr < IntKind.wrap .i64 (u - m1))) (K (inT (IntKind.wrap .i64 (u - m1)) 0)) (K (inT (IntKind.wrap .i64 (u - m1)) 0)))
   (brc (decide (s.fr < IntKind.wrap .i64 (u - m1))) (K (inT (IntKind.wrap .i64 (u - m1)) 2)) (K (inT (IntKind.wrap .i64 (u - s.l2)) 2)))) (brc (decide (s.fr < IntKind.wrap .i64 (u - m1))) (K (inT (IntKind.wrap .i64 (u - m1)) 2)) (K (inT (IntKind.wrap .i64 (u - s.l2)) 2)))) False
def inOne (n : Nat) (x : Int) (K : AV → Prop) : Prop := brc ((n : Int) == 1) (brc (decide (0 < (n : Int))) (brc (decide (Int.toNat 0 < n)) (K (inT x 0)) False) False) (brc (decide (0 < (n : Int))) (brc (decide (Int.toNat 0 < n)) (K (inT x 1)) False) False)
def inMany (n : Nat) (c : Nat → Int) (w : Int) (K : AV → Prop) : Prop := brc ((n : Int) == 0) (K (inT w 2)) (inOne n (c 0) K)
def inFin1 (z : Zt) (u : Int) (s : Ac) (n : Nat) (c : Nat → Int) (K : AV → Prop) : Prop :=
 brc (tyR z.n (znRow z) && bdZ z.F && decide (ZtOk z ∧ Asked s.fr ∧ -9223372036854775808 ≤ s.fr ∧ s.fr ≤ 9223372036854775807)) (∀ m0 : Int, m0 = (atZ z s.fr).t → ∀ m1 : Int, m1 = (atZ z s.fr).off → ∀ m2 : Bool, m2 = (atZ z s.fr).dst →
  brc (decide (IntKind.wrap .i64 (u - m1) ≥ s.fr)) (brc (decide (IntKind.wrap .i64 (u - m1) ≤ IntKind.wrap .i64 (u + 57600))) (brc (Nat.beq n n && roomB (n + 1) 8) (brc (decide (s.fr < IntKind.wrap .i64 (u - m1))) (inOne (n + 1) (if decide (Int.toNat 0 < n) = true then c 0 else IntKind.wrap .i64 (u - m1)) K) (inOne (n + 1) (if decide (Int.toNat 0 < n) = true then c 0 else IntKind.wrap .i64 (u - m1)) K)) False)
   (brc (decide (s.fr < IntKind.wrap .i64 (u - m1))) (inMany n c (IntKind.wrap .i64 (u - m1)) K) (inMany n c (IntKind.wrap .i64 (u - s.l2)) K))) (brc (decide (s.fr < IntKind.wrap .i64 (u - m1))) (inMany n c (IntKind.wrap .i64 (u - m1)) K) (inMany n c (IntKind.wrap .i64 (u - s.l2)) K))) False
def SHOWl1 (z : Zt) (u m : Int) (P : Prop) (B : Nat → (Nat → Int) → Prop) : Prop :=
 isH (some (inH1 z u (IntKind.wrap .i64 (u - 57600)) (IntKind.wrap .i64 (u + 57600)) m (IntKind.wrap .i64 (u - 57600)) 0 0 0 none)) (inHx1 z u (IntKind.wrap .i64 (u - 57600)) (IntKind.wrap .i64 (u + 57600)) (x1Of z u)) ∧
 ((InC z u (IntKind.wrap .i64 (u - 57600)) (IntKind.wrap .i64 (u + 57600)) (x1Of z u).2 ∧ (x1Of z u).1 ≤ kz z (IntKind.wrap .i64 (u + 57600)) z.n ∧ ∀ j, (x1Of z u).1 ≤ j → j < z.n → (x1Of z u).2.fr < z.ta j) ∧ (((s1Of z u).f = none → P) ∧ ∀ n c, (s1Of z u).f = some (n, c) → B n c))
def SHOWl2 (z : Zt) (u m : Int) (P1 P2 : Prop) (B1 B2 : Nat → (Nat → Int) → Prop) : Prop :=
 isH (some (inH2 z u (IntKind.wrap .i64 (u - 57600)) (IntKind.wrap .i64 (u + 57600)) m (s1Of z u).fr (s1Of z u).l0 (s1Of z u).l1 (s1Of z u).l2 none)) (inHx2 z u (IntKind.wrap .i64 (u - 57600)) (IntKind.wrap .i64 (u + 57600)) (x2Of z u)) ∧
 ((InC z u (IntKind.wrap .i64 (u - 57600)) (IntKind.wrap .i64 (u + 57600)) (x2Of z u).2 ∧ z.F.z = true ∧ (x2Of z u).2.fr ≤ (x2Of z u).1) ∧ (((s2Of z u).f = none → P1 ∧ P2) ∧ ∀ n c, (s2Of z u).f = some (n, c) → B1 n c ∧ B2 n c))
def SHOWl3 (z : Zt) (u m : Int) (f : Option (Nat × (Nat → Int))) (B1 B2 : Nat → (Nat → Int) → Prop) : Prop :=
 isH (some (inHf z u (IntKind.wrap .i64 (u - 57600)) (IntKind.wrap .i64 (u + 57600)) m (s1Of z u).fr (s1Of z u).l0 (s1Of z u).l1 (s1Of z u).l2 f)) (inHx3 z u (IntKind.wrap .i64 (u - 57600)) (IntKind.wrap .i64 (u + 57600)) (x2Of z u)) ∧
 ((InC z u (IntKind.wrap .i64 (u - 57600)) (IntKind.wrap .i64 (u + 57600)) (x2Of z u).2 ∧ z.F.z = true ∧ (x2Of z u).2.fr ≤ (x2Of z u).1 ∧ (x2Of z u).2.f ≠ none) ∧ ∀ n c, (s2Of z u).f = some (n, c) → B1 n c ∧ B2 n c)
set_option maxRecDepth 100000 in
theorem zinst_vc (z : Zt) (u : Int) (K : AV → Prop) : AFLL (tab [(49, zyRight), (80, zyAt0), (119, zySearch), (92, cyYear), (152, cyStand 1)]) (inLG z u (IntKind.wrap .i64 (u - 57600)) (IntKind.wrap .i64 (u + 57600)) (x1Of z u) (x2Of z u)) 12 36 [.agg (avZ z), .int .i64 u] K =
 (brc (tyR (Zt.n z) (znRow z) && bdZ (Zt.F z)) (∀ m0 : Bool, m0 = decide (ZtOk z) → brc (!m0) (K (AV.tup [.int .i64 0, .int .i64 0, .int .i64 1])) (brc (decide (-9223372036854775808 ≤ u ∧ u ≤ 9223372036854775807)) (∀ m1 : Int, m1 = yAt u → brc (decide (m1 ≥ -4714)) (brc (!decide (m1 ≤ 294278)) (K (AV.tup [.int .i64 0, .int .i64 0, .int .i64 10])) (brc (tyR (Zt.n z) (znRow z) && bdZ (Zt.F z)) (∀ m2 : Bool, m2 = decide (ZtOk z) → brc (!m2) (K (AV.tup [.int .i64 0, .int .i64 0, .int .i64 1])) (brc (decide (-9223372036854775808 ≤ IntKind.wrap .i64 (u - 57600) ∧ IntKind.wrap .i64 (u - 57600) ≤ 9223372036854775807)) (∀ m3 : Int, m3 = yAt (IntKind.wrap .i64 (u - 57600)) → brc (decide (m3 ≥ -4714)) (brc (!decide (m3 ≤ 294278)) (K (AV.tup [.int .i64 0, .int .i64 0, .int .i64 10])) (brc (decide (-9223372036854775808 ≤ IntKind.wrap .i64 (u + 57600) ∧ IntKind.wrap .i64 (u + 57600) ≤ 9223372036854775807)) (∀ m4 : Int, m4 = yAt (IntKind.wrap .i64 (u + 57600)) → brc (decide (m4 ≥ -4714)) (brc (!decide (m4 ≤ 294278)) (K (AV.tup [.int .i64 0, .int .i64 0, .int .i64 10])) (brc (tyR (Zt.n z) (znRow z) && bdZ (Zt.F z) && decide (RowsOk z 0 ∧ ((Zt.n z : Nat) : Int) = ((Zt.n z : Nat) : Int) ∧ Zt.n z ≤ 8192)) (∀ m5 : Int, m5 = ((kz z (IntKind.wrap .i64 (u - 57600)) (Zt.n z) : Nat) : Int) → SHOWl1 z u m5 (brc (!Ft.z (Zt.F z)) (inFin0 z u (s1Of z u) K) (SHOWl2 z u (curOf z u) (inFin0 z u (s2Of z u) K) (inFin0 z u (s2Of z u) K) (fun n c => inFin1 z u (s2Of z u) n c K) (fun n c => inFin1 z u (s2Of z u) n c K))) (fun n c => brc (!Ft.z (Zt.F z)) (inFin1 z u (s1Of z u) n c K) (SHOWl3 z u (curOf z u) (some (n, c)) (fun n c => inFin1 z u (s2Of z u) n c K) (fun n c => inFin1 z u (s2Of z u) n c K)))) False)) (K (AV.tup [.int .i64 0, .int .i64 0, .int .i64 10]))) False)) (K (AV.tup [.int .i64 0, .int .i64 0, .int .i64 10]))) False)) False)) (K (AV.tup [.int .i64 0, .int .i64 0, .int .i64 10]))) False)) False) := by kernel_rfl
end Go.Proofs.YtimgphlfaninnaaGreat.P
