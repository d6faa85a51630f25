import Derived.Test.YtimgphlfaninnaaGreatQiehldmoljf
import Derived.Test.YtimgphlfaninnaaGreatProg
import Derived.Below
import Derived.Deep.Draws
import Derived.Deep.AppendLies
import Derived.Maps.AppendAt
import Derived.OwnWalk
import Derived.Laws.BytesArg
import Derived.Laws.MakeOwn
import Derived.Laws.OwnMore
import Derived.Deep.OwnRows
import Derived.Tactics
import Derived.Lib.ConvBytes
import Derived.Laws.Slices
import Derived.WalkKit
import Derived.KernelRfl
import Derived.RowKit3
import Derived.Deep.LoopGhost
import Derived.Deep.QuietTactic
import Derived.BigQuiet
import Derived.WideLaws
import Derived.Deep.DeepCutAuto
import Derived.Deep.CutBlock
import Derived.Deep.RegionHeld3
import Derived.Laws.Rows
import Derived.Lib.AppendStr
import Derived.ArgAppend
import Derived.Laws.IdiomCopy
import Derived.OrdersHeld
import Derived.Laws.BitsLemmas
import Derived.RowKit
import Derived.Laws.RangeString
import Derived.Laws.RangeAny
import Derived.Lib.OthersKept
import Derived.Lib.SlBytesRow
import Derived.Test.YtimgphlfaninnaaGreatQdfoehbdgao
namespace Go.Proofs.YtimgphlfaninnaaGreat.P
open Go.RowKit Go.Proofs.YtimgphlfaninnaaGreatW.PrintWords Go.Proofs.YtimgphlfaninnaaGreatW.PrintLast Go.Proofs.YtimgphlfaninnaaGreatW.PrintMore
 attribute [local go_sem] bR bQ jC jB bL bM bP bS
set_option linter.unusedVariables false
set_option linter.unusedSimpArgs false
def errW : Option Int → Value
 | none => .nilIface
 | some c => .iface 0 (.int .i64 c)
theorem errW_none : errW none = .nilIface := rfl
theorem errW_some (c : Int) : errW (some c) = .iface 0 (.int .i64 c) := rfl
theorem setCell_drewN_ (w : World) (n : Nat) (a : Addr) (v : Value) : (w.drewN n).setCell a v = (w.setCell a v).drewN n := rfl
theorem info2 : (Tryz.prog.info? 2).map (fun i => (i.zero, i.size, i.bytes)) = some (some (.int .i64 0), 1, 8) := by kernel_rfl
theorem info3 : (Tryz.prog.info? 3).map (fun i => (i.zero, i.size, i.bytes)) = some (some (.int .i64 0), 1, 8) := by kernel_rfl
theorem info23 : (Tryz.prog.info? 23).map (fun i => (i.zero, i.size, i.bytes)) = some (some (.agg #[(.int .i64 0), (.int .i64 0), (.bool false), (.string ⟨#[]⟩)]), 4, 40) := by kernel_rfl
theorem info155 : (Tryz.prog.info? 155).map (fun i => (i.zero, i.size, i.bytes)) = some (some (.int .u64 0), 1, 8) := by kernel_rfl
structure S23 where
 f0 : Int
 f1 : Int
 f2 : Bool
 f3 : ByteArray
def z23 : S23 := ⟨(0 : Int), (0 : Int), false, (⟨#[]⟩ : ByteArray)⟩
def k23 : Kd S23 := Kd.iso (Kd.pair (Kd.int .i64) (Kd.pair (Kd.int .i64) (Kd.pair Kd.bool Kd.string))) (fun x : S23 => (x.f0, x.f1, x.f2, x.f3))
theorem k23_open {w : World} {x : S23} {cs : List Value} (h : k23.K w x cs) : cs = [.int .i64 x.f0, .int .i64 x.f1, .bool x.f2, .string x.f3] := by
 obtain ⟨_, _, rfl, rfl, ⟨_, _, rfl, rfl, ⟨_, _, rfl, rfl, rfl⟩⟩⟩ := h
 exact rfl
theorem k23_openM {w : World} {base : Nat} {ok : Nat → Prop} {x : S23} {cs : List Value} (h : k23.M w base ok x cs) : cs = [.int .i64 x.f0, .int .i64 x.f1, .bool x.f2, .string x.f3] := by
 obtain ⟨_, _, rfl, rfl, ⟨_, _, rfl, rfl, ⟨_, _, rfl, rfl, rfl⟩⟩⟩ := h
 exact rfl
theorem k23_mk (w : World) (x : S23)  : k23.K w x [.int .i64 x.f0, .int .i64 x.f1, .bool x.f2, .string x.f3] := ⟨[.int .i64 x.f0], [.int .i64 x.f1, .bool x.f2, .string x.f3], rfl, rfl, ⟨[.int .i64 x.f1], [.bool x.f2, .string x.f3], rfl, rfl, ⟨[.bool x.f2], [.string x.f3], rfl, rfl, rfl⟩⟩⟩
theorem k23_mkM (w : World) (base : Nat) (ok : Nat → Prop) (x : S23)  : k23.M w base ok x [.int .i64 x.f0, .int .i64 x.f1, .bool x.f2, .string x.f3] := ⟨[.int .i64 x.f0], [.int .i64 x.f1, .bool x.f2, .string x.f3], rfl, rfl, ⟨[.int .i64 x.f1], [.bool x.f2, .string x.f3], rfl, rfl, ⟨[.bool x.f2], [.string x.f3], rfl, rfl, rfl⟩⟩⟩
def rd_T23 (xs : List S23) (i : Int) : S23 := xs.getD i.toNat z23
theorem at_T23 {w : World} {A : Option Addr} {n : Nat} {xs : List S23} (h : Kd.C k23 w A n xs) (i : Int) (h0 : 0 ≤ i) (h1 : i < n) : ∃ ad , A = some ad ∧ w.cell? (ad.add (i.toNat * 4)) = some (.int .i64 (rd_T23 xs i).f0) ∧ w.cell? ⟨(ad.add (i.toNat * 4)).block, (ad.add (i.toNat * 4)).off + 1, none⟩ = some (.int .i64 (rd_T23 xs i).f1) ∧ w.cell? ⟨(ad.add (i.toNat * 4)).block, (ad.add (i.toNat * 4)).off + 2, none⟩ = some (.bool (rd_T23 xs i).f2) ∧ w.cell? ⟨(ad.add (i.toNat * 4)).block, (ad.add (i.toNat * 4)).off + 3, none⟩ = some (.string (rd_T23 xs i).f3) := by
 obtain ⟨ad, c, e, _, hK, hc0⟩ := Kd.C_get h z23 i h0 h1
 have hc : ∀ j u, c[j]? = some u → w.cell? (ad.add (i.toNat * 4 + j)) = some u := hc0
 obtain rfl := k23_open hK
 exact ⟨ad, e, hc 0 _ rfl, by rw [← add_field _ _ 1 (by omega)]; exact hc 1 _ rfl, by rw [← add_field _ _ 2 (by omega)]; exact hc 2 _ rfl, by rw [← add_field _ _ 3 (by omega)]; exact hc 3 _ rfl⟩
end Go.Proofs.YtimgphlfaninnaaGreat.P
namespace Go.Proofs.YtimgphlfaninnaaGreat.Civ
set_option linter.unusedVariables false
set_option linter.unusedSimpArgs false
open Go.RowKit Go.Proofs.YtimgphlfaninnaaGreatW.PrintWords Go.Proofs.YtimgphlfaninnaaGreatW.PrintLast Go.Proofs.YtimgphlfaninnaaGreatW.PrintMore
theorem w64 {x : Int} (h1 : -9223372036854775808 ≤ x) (h2 : x ≤ 9223372036854775807) : wrap64 x = x := by unfold wrap64; omega
def I64 (x : Int) : Prop := -9223372036854775808 ≤ x ∧ x ≤ 9223372036854775807
theorem i64_of_wf {x : Int} (h : (Lit.int .i64 x).wf = true) : I64 x := by
 simp only [Lit.wf, IntKind.min, IntKind.max, IntKind.signed, IntKind.bits, Bool.and_eq_true, decide_eq_true_eq, if_true] at h
 exact h
theorem wrap_i64 (x : Int) : I64 (wrap64 x) := by unfold I64 wrap64; omega
theorem w64_of {x : Int} (h : I64 x) : wrap64 x = x := w64 h.1 h.2
theorem td_pos {a b : Int} (ha : 0 ≤ a) : Int.tdiv a b = a / b := Int.tdiv_eq_ediv_of_nonneg ha
theorem tm_pos {a b : Int} (ha : 0 ≤ a) : Int.tmod a b = a % b := Int.tmod_eq_emod_of_nonneg ha
theorem td_neg {a b : Int} (ha : a ≤ 0) : Int.tdiv a b = -((-a) / b) := by
 have : Int.tdiv (-a) b = (-a) / b := Int.tdiv_eq_ediv_of_nonneg (by omega)
 rw [← this, Int.neg_tdiv, Int.neg_neg]
theorem tm_neg {a b : Int} (ha : a ≤ 0) : Int.tmod a b = -((-a) % b) := by
 have : Int.tmod (-a) b = (-a) % b := Int.tmod_eq_emod_of_nonneg (by omega)
 rw [← this, Int.neg_tmod, Int.neg_neg]
theorem cut_floor (a : Int) {b : Int} (hb : 0 < b) : (Int.tmod a b < 0 → Int.tdiv a b = a / b + 1 ∧ Int.tmod a b = a % b - b ∧ 0 < a % b) ∧ (¬ Int.tmod a b < 0 → Int.tdiv a b = a / b ∧ Int.tmod a b = a % b) := by
 rcases Int.le_total 0 a with h | h
 · rw [td_pos h, tm_pos h]
   have := Int.emod_nonneg a (Int.ne_of_gt hb)
   exact ⟨fun h => by omega, fun _ => ⟨rfl, rfl⟩⟩
 · rw [td_neg h, tm_neg h]
   have e := Int.mul_ediv_add_emod (-a) b
   have h1 := Int.emod_nonneg (-a) (Int.ne_of_gt hb)
   have h2 := Int.emod_lt_of_pos (-a) hb
   generalize (-a) / b = q at *
   generalize (-a) % b = r at *
   constructor
   · intro hr
     have := (Int.ediv_emod_unique (a := a) (b := b) (r := b - r) (q := -q - 1) hb).2 ⟨by rw [Int.mul_sub, Int.mul_neg]; omega, by omega, by omega⟩
     omega
   · intro hr
     have := (Int.ediv_emod_unique (a := a) (b := b) (r := 0) (q := -q) hb).2 ⟨by rw [Int.mul_neg]; omega, by omega, by omega⟩
     omega
theorem tmod_zero_iff (a : Int) {b : Int} (hb : 0 < b) : Int.tmod a b = 0 ↔ a % b = 0 := by
 have c := cut_floor a hb
 have h1 := Int.emod_nonneg a (Int.ne_of_gt hb)
 have h2 := Int.emod_lt_of_pos a hb
 by_cases h : Int.tmod a b < 0
 · have := (c.1 h).2.1; have := (c.1 h).2.2; omega
 · have := (c.2 h).2; omega
theorem ediv_i64 {a b : Int} (ha : I64 a) (hb : 0 < b) : -9223372036854775808 ≤ a / b ∧ a / b ≤ 9223372036854775807 := by
 obtain ⟨h1, h2⟩ := ha
 have e := Int.mul_ediv_add_emod a b
 have g1 := Int.emod_nonneg a (Int.ne_of_gt hb)
 have g2 := Int.emod_lt_of_pos a hb
 constructor
 · rw [Int.le_ediv_iff_mul_le hb]
   have : -9223372036854775808 * b ≤ -9223372036854775808 * 1 := Int.mul_le_mul_of_nonpos_left (by omega) (by omega)
   omega
 · rcases Int.lt_or_le a 0 with h | h
   · have : a / b < 0 := Int.ediv_lt_of_lt_mul hb (by omega)
     omega
   · have := Int.ediv_le_self b h; omega
theorem Ev.at0 {α : Type} {g : Nat → Option α} {r : α} (h : ∀ k, g k = some r) : Ev g r := ⟨0, fun k _ => h k⟩
theorem Ev.at1 {α : Type} {g : Nat → Option α} {r : α} (h : ∀ k, g (k + 1) = some r) : Ev g r :=
 ⟨1, fun k hk => by obtain ⟨m, rfl⟩ : ∃ m, k = m + 1 := ⟨k - 1, by omega⟩; exact h m⟩
theorem Ev.at2 {α : Type} {g : Nat → Option α} {r : α} (h : ∀ k, g (k + 2) = some r) : Ev g r :=
 ⟨2, fun k hk => by obtain ⟨m, rfl⟩ : ∃ m, k = m + 2 := ⟨k - 2, by omega⟩; exact h m⟩
theorem Ev.cast {α : Type} {g : Nat → Option α} {r r' : α} (h : Ev g r) (e : r = r') : Ev g r' := e ▸ h
theorem Ev.same {α : Type} {g : Nat → Option α} {r r' : α} (h : Ev g r) (h' : Ev g r') : r = r' := by
 obtain ⟨K, h⟩ := h
 obtain ⟨K', h'⟩ := h'
 have a := h (max K K') (by omega)
 rw [h' (max K K') (by omega)] at a
 exact (Option.some.inj a).symm
theorem Ev.bind0 {α β : Type} {g : Option α} {f : Nat → α → Option β} {a : α} {r : β} (h : g = some a) (k : Ev (fun n => f n a) r) : Ev (fun n => g.bind (f n)) r := by
 subst h; exact k
theorem Ev.succ {α : Type} {g : Nat → Option α} {r : α} (h : Ev (fun k => g (k + 1)) r) : Ev g r := Ev.step (f := fun k => g (k + 1)) (fun _ => rfl) h
theorem Ev.pos {α : Type} {c : Prop} [Decidable c] {f g : Nat → Option α} {r : α} (h : c) (k : Ev f r) : Ev (fun n => if c then f n else g n) r := by
 simpa only [if_pos h] using k
theorem Ev.neg {α : Type} {c : Prop} [Decidable c] {f g : Nat → Option α} {r : α} (h : ¬ c) (k : Ev g r) : Ev (fun n => if c then f n else g n) r := by
 simpa only [if_neg h] using k
end Go.Proofs.YtimgphlfaninnaaGreat.Civ
namespace Go.Proofs.YtimgphlfaninnaaGreat.Civ
set_option linter.unusedVariables false
set_option linter.unusedSimpArgs false
def lp (y : Int) : Int := if y % 4 = 0 ∧ (y % 100 ≠ 0 ∨ y % 400 = 0) then 1 else 0
theorem lp_01 (y : Int) : 0 ≤ lp y ∧ lp y ≤ 1 := by unfold lp; split <;> omega
def dby (y : Int) : Int := 365 * (y - 2000) + (y - 1) / 4 - (y - 1) / 100 + (y - 1) / 400 - 484
theorem dby_succ (y : Int) : dby (y + 1) = dby y + 365 + lp y := by
 unfold dby lp; split <;> omega
theorem dby_era (y k : Int) : dby (y + 400 * k) = dby y + 146097 * k := by unfold dby; omega
theorem dby_far (a b : Int) (h : a ≤ b) : dby a + 365 * (b - a) ≤ dby b := by unfold dby; omega
theorem dby_near (a b : Int) (h : a ≤ b) : dby b ≤ dby a + 366 * (b - a) := by unfold dby; omega
theorem year_unique {a b n : Int} (h1 : dby a ≤ n) (h2 : n < dby (a + 1)) (h3 : dby b ≤ n) (h4 : n < dby (b + 1)) : a = b := by
 rcases Int.lt_trichotomy a b with h | h | h
 · have := dby_far (a + 1) b (by omega); omega
 · exact h
 · have := dby_far (b + 1) a (by omega); omega
def mlen (y m : Int) : Int := if m < 1 ∨ 12 < m then 0 else if m = 2 then 28 + lp y else if m = 4 ∨ m = 6 ∨ m = 9 ∨ m = 11 then 30 else 31
def cum (y m : Int) : Int :=
 if m ≤ 1 then 0 else if m = 2 then 31 else
 (if m = 3 then 59 else if m = 4 then 90 else if m = 5 then 120 else if m = 6 then 151 else if m = 7 then 181 else if m = 8 then 212 else if m = 9 then 243 else if m = 10 then 273 else if m = 11 then 304 else if m = 12 then 334 else 365) + lp y
theorem twelve {m : Int} (h1 : 1 ≤ m) (h2 : m ≤ 12) : m = 1 ∨ m = 2 ∨ m = 3 ∨ m = 4 ∨ m = 5 ∨ m = 6 ∨ m = 7 ∨ m = 8 ∨ m = 9 ∨ m = 10 ∨ m = 11 ∨ m = 12 := by omega
theorem cum_succ (y m : Int) (h1 : 1 ≤ m) (h2 : m ≤ 12) : cum y (m + 1) = cum y m + mlen y m := by
 have hl := lp_01 y
 rcases twelve h1 h2 with e | e | e | e | e | e | e | e | e | e | e | e <;> subst e <;> simp [cum, mlen] <;> omega
theorem cum_end (y m : Int) (h : 12 < m) : cum y m = 365 + lp y := by
 unfold cum
 rw [if_neg (by omega), if_neg (by omega), if_neg (by omega), if_neg (by omega), if_neg (by omega), if_neg (by omega), if_neg (by omega), if_neg (by omega), if_neg (by omega), if_neg (by omega), if_neg (by omega), if_neg (by omega)]
theorem cum_one (y : Int) : cum y 1 = 0 := rfl
theorem mlen_bd (y m : Int) (h1 : 1 ≤ m) (h2 : m ≤ 12) : 28 ≤ mlen y m ∧ mlen y m ≤ 31 := by
 have hl := lp_01 y
 rcases twelve h1 h2 with e | e | e | e | e | e | e | e | e | e | e | e <;> subst e <;> simp [mlen] <;> omega
theorem mlen_out (y m : Int) (h : m < 1 ∨ 12 < m) : mlen y m = 0 := by unfold mlen; rw [if_pos h]
theorem mlen_up (y m : Int) : 0 ≤ mlen y m ∧ mlen y m ≤ 31 := by
 by_cases h : m < 1 ∨ 12 < m
 · rw [mlen_out y m h]; omega
 · have := mlen_bd y m (by omega) (by omega); omega
theorem cum_step (y a b : Int) (h1 : 1 ≤ a) (h : a < b) (h2 : b ≤ 12) : cum y a + mlen y a ≤ cum y b := by
 have hl := lp_01 y
 rcases twelve h1 (by omega) with e | e | e | e | e | e | e | e | e | e | e | e <;> subst e <;>
 rcases twelve (by omega) h2 with e | e | e | e | e | e | e | e | e | e | e | e <;> subst e <;> simp [cum, mlen] <;> omega
theorem cum_bd (y m : Int) (h1 : 1 ≤ m) (h2 : m ≤ 12) : 0 ≤ cum y m ∧ cum y m + mlen y m ≤ 365 + lp y := by
 have hl := lp_01 y
 rcases twelve h1 h2 with e | e | e | e | e | e | e | e | e | e | e | e <;> subst e <;> simp [cum, mlen] <;> omega
def dnum (y m d : Int) : Int := dby y + cum y m + d - 1
structure IsDate (n y m d : Int) : Prop where
 m1 : 1 ≤ m
 m12 : m ≤ 12
 d1 : 1 ≤ d
 dl : d ≤ mlen y m
 num : dnum y m d = n
theorem IsDate.year {n y m d : Int} (h : IsDate n y m d) : dby y ≤ n ∧ n < dby (y + 1) := by
 have hs := dby_succ y
 have hc := cum_bd y m h.m1 h.m12
 have h1 := h.d1
 have h2 := h.dl
 have h3 := h.num
 unfold dnum at h3
 omega
theorem IsDate.unique {n y m d y' m' d' : Int} (h : IsDate n y m d) (k : IsDate n y' m' d') : y = y' ∧ m = m' ∧ d = d' := by
 have hy := h.year
 have ky := k.year
 have e : y = y' := year_unique hy.1 hy.2 ky.1 ky.2
 subst e
 have h1 := h.d1; have h2 := h.dl; have h3 := h.num; have h4 := h.m1; have h5 := h.m12
 have k1 := k.d1; have k2 := k.dl; have k3 := k.num; have k4 := k.m1; have k5 := k.m12
 unfold dnum at h3 k3
 rcases Int.lt_trichotomy m m' with hm | hm | hm
 · have := cum_step y m m' h4 hm k5; omega
 · subst hm; exact ⟨rfl, rfl, by omega⟩
 · have := cum_step y m' m k4 hm h5; omega
theorem IsDate.le_of {n y m d n' y' m' d' : Int} (h : IsDate n y m d) (k : IsDate n' y' m' d') (hle : n ≤ n') : y < y' ∨ y = y' ∧ (m < m' ∨ m = m' ∧ d ≤ d') := by
 have hy := h.year
 have ky := k.year
 rcases Int.lt_trichotomy y y' with e | e | e
 · exact .inl e
 · subst e
   refine .inr ⟨rfl, ?_⟩
   have h1 := h.d1; have h2 := h.dl; have h3 := h.num; have h4 := h.m1; have h5 := h.m12
   have k1 := k.d1; have k2 := k.dl; have k3 := k.num; have k4 := k.m1; have k5 := k.m12
   unfold dnum at h3 k3
   rcases Int.lt_trichotomy m m' with hm | hm | hm
   · exact .inl hm
   · subst hm; exact .inr ⟨rfl, by omega⟩
   · have := cum_step y m' m k4 hm h5; omega
 · have := dby_far (y' + 1) y (by omega); omega
theorem IsDate.lt_of {n y m d n' y' m' d' : Int} (h : IsDate n y m d) (k : IsDate n' y' m' d') (hle : y < y' ∨ y = y' ∧ (m < m' ∨ m = m' ∧ d ≤ d')) : n ≤ n' := by
 by_cases g : n ≤ n'
 · exact g
 · have := k.le_of h (by omega)
   rcases Int.lt_or_le n' n with e | e
   · have := IsDate.le_of k h (by omega)
     have u : ¬ (y = y' ∧ m = m' ∧ d = d') := by
      rintro ⟨rfl, rfl, rfl⟩
      have a1 := h.num; have a2 := k.num; omega
     omega
   · omega
theorem year_of (n : Int) : ∃ y, dby y ≤ n ∧ n < dby (y + 1) := by
 have base : ∀ k : Nat, ∀ n : Int, 0 ≤ n → n < dby (2000 + k) → ∃ y, 2000 ≤ y ∧ dby y ≤ n ∧ n < dby (y + 1) := by
  intro k
  induction k with
  | zero => intro n h0 h; exfalso; have : dby (2000 + ((0 : Nat) : Int)) = 0 := by decide
            omega
  | succ k ih =>
   intro n h0 h
   by_cases g : n < dby (2000 + k)
   · exact ih n h0 g
   · exact ⟨2000 + k, by omega, by omega, by have e : (2000 + ((k + 1 : Nat) : Int)) = 2000 + k + 1 := by omega
                                             rw [e] at h; exact h⟩
 obtain ⟨y, _, h1, h2⟩ := base 400 (n % 146097) (by omega) (by have : dby (2000 + ((400 : Nat) : Int)) = 146097 := by decide
                                                               omega)
 refine ⟨y + 400 * (n / 146097), ?_, ?_⟩
 · rw [dby_era]; omega
 · rw [show y + 400 * (n / 146097) + 1 = (y + 1) + 400 * (n / 146097) by omega, dby_era]; omega
theorem month_of (y left : Int) (h0 : 0 ≤ left) (h1 : left < 365 + lp y) : ∃ m, 1 ≤ m ∧ m ≤ 12 ∧ cum y m ≤ left ∧ left < cum y m + mlen y m := by
 have key : ∀ k : Nat, k ≤ 12 → left < cum y (1 + k) → ∃ m, 1 ≤ m ∧ m ≤ 12 ∧ cum y m ≤ left ∧ left < cum y m + mlen y m := by
  intro k
  induction k with
  | zero => intro _ h; exfalso; have : cum y (1 + ((0 : Nat) : Int)) = 0 := rfl
            omega
  | succ k ih =>
   intro hk h
   by_cases g : left < cum y (1 + k)
   · exact ih (by omega) g
   · refine ⟨1 + k, by omega, by omega, by omega, ?_⟩
     rw [← cum_succ y (1 + k) (by omega) (by omega), show (1 + (k : Int) + 1) = 1 + ((k + 1 : Nat) : Int) by omega]; exact h
 refine key 12 (by omega) ?_
 rw [cum_end y _ (by omega)]; exact h1
theorem date_of (n : Int) : ∃ y m d, IsDate n y m d := by
 obtain ⟨y, h1, h2⟩ := year_of n
 have hs := dby_succ y
 obtain ⟨m, a, b, c, e⟩ := month_of y (n - dby y) (by omega) (by omega)
 exact ⟨y, m, n - dby y - cum y m + 1, a, b, by omega, by omega, by unfold dnum; omega⟩
def CanDay (n : Int) : Prop := -2453698 ≤ n ∧ n ≤ 106754173
theorem dby_first : dby (-4718) = -2453698 := by decide
theorem dby_last : dby 294283 = 106754174 := by decide
theorem can_of_year {n y m d : Int} (h : IsDate n y m d) : CanDay n ↔ -4718 ≤ y ∧ y ≤ 294282 := by
 have hy := h.year
 have f := dby_first
 have l := dby_last
 unfold CanDay
 constructor
 · rintro ⟨h1, h2⟩
   constructor
   · rcases Int.lt_or_le y (-4718) with g | g
     · have := dby_far (y + 1) (-4718) (by omega); omega
     · exact g
   · rcases Int.lt_or_le 294282 y with g | g
     · have := dby_far 294283 y (by omega); omega
     · exact g
 · rintro ⟨h1, h2⟩
   have a := dby_far (-4718) y h1
   have b := dby_far (y + 1) 294283 (by omega)
   omega
end Go.Proofs.YtimgphlfaninnaaGreat.Civ
namespace Go.Proofs.YtimgphlfaninnaaGreat.P
open Go.RowKit Go.Proofs.YtimgphlfaninnaaGreatW.PrintWords Go.Proofs.YtimgphlfaninnaaGreatW.PrintLast Go.Proofs.YtimgphlfaninnaaGreatW.PrintMore
open Go.Proofs.YtimgphlfaninnaaGreat.A
 attribute [local go_sem] bR bQ jC jB bL bM bP bS
set_option linter.unusedVariables false
set_option linter.unusedSimpArgs false
def bG.j0 : Nat → Bool → Bool → Int → Int → Option (Int × Int)
 | 0, _, _, _, _ => none
 | k + 1, x0, x10, x102000, x102001 => if x10 = true then (some (wrap64 (IntKind.u64.wrap (-x102001)), 0)) else (if x0 = true then (some (0, 10)) else (if x102001 > 9223372036854775807 then (some (0, 10)) else (some (wrap64 (x102001), 0))))
def bG.f (k : Nat) (a0 : Bool) (a1_0 : Int) (a1_1 : Int) : Option (Int × Int) := if a1_0 = 0 then (if a0 = true then (bG.j0 k a0 (decide (a1_1 ≤ 9223372036854775808)) a1_0 a1_1) else (bG.j0 k a0 false a1_0 a1_1)) else (some (0, 10))
theorem bG.mono_l : ∀ k, (∀ y0 y1 y2 y3, LeO (bG.j0 k y0 y1 y2 y3) (bG.j0 (k + 1) y0 y1 y2 y3))
 | 0 => fun _ _ _ _ r h => by simp [bG.j0] at h
 | k + 1 => by
  have ih0 := bG.mono_l k
  · intro y0 y1 y2 y3
    unfold bG.j0
    repeat' first
    | (with_reducible exact ih0 _ _ _ _)
    | (with_reducible exact LeO.refl _)
    | (with_reducible exact LeO.none _)
    | (with_reducible refine LeO.ite ?_ ?_)
    | (with_reducible refine LeO.bind ?_ (fun _ => ?_))
    | exact ih0 _ _ _ _
    | exact LeO.none _
    | refine LeO.ite ?_ ?_
    | refine LeO.bind ?_ (fun _ => ?_)
theorem bG.mono : ∀ a0 a1 a2 k, LeO (bG.f k a0 a1 a2) (bG.f (k + 1) a0 a1 a2) := by
 intro a0 a1 a2 k
 have ih0 := bG.mono_l k
 unfold bG.f
 repeat' first
  | (with_reducible exact ih0 _ _ _ _)
  | (with_reducible exact LeO.refl _)
  | (with_reducible exact LeO.none _)
  | (with_reducible refine LeO.ite ?_ ?_)
  | (with_reducible refine LeO.bind ?_ (fun _ => ?_))
  | exact ih0 _ _ _ _
  | exact LeO.none _
  | refine LeO.ite ?_ ?_
  | refine LeO.bind ?_ (fun _ => ?_)
set_option maxRecDepth 100000 in
theorem bG.vc (k : Nat) (a0 : Bool) (a1_0 : Int) (a1_1 : Int) (K : AV → Prop) : afv PA Tryz.prog (tab []) noLoops 2 116 [.bool a0, .agg [.int .u64 a1_0, .int .u64 a1_1]] K = (brc (a1_0 != 0) (K (AV.tup [.int .i64 0, .int .i64 10])) (brc a0 (brc (decide (a1_1 ≤ 9223372036854775808)) (K (AV.tup [.int .i64 (IntKind.wrap .i64 (IntKind.wrap .u64 (0 - a1_1))), .int .i64 0])) (brc a0 (K (AV.tup [.int .i64 0, .int .i64 10])) (brc (decide (a1_1 > 9223372036854775807)) (K (AV.tup [.int .i64 0, .int .i64 10])) (K (AV.tup [.int .i64 (IntKind.wrap .i64 a1_1), .int .i64 0]))))) (brc a0 (K (AV.tup [.int .i64 0, .int .i64 10])) (brc (decide (a1_1 > 9223372036854775807)) (K (AV.tup [.int .i64 0, .int .i64 10])) (K (AV.tup [.int .i64 (IntKind.wrap .i64 a1_1), .int .i64 0])))))) := by kernel_rfl
set_option maxHeartbeats 1000000 in
set_option maxRecDepth 100000 in
theorem bG.calls (k : Nat) (a0 : Bool) (a1_0 : Int) (a1_1 : Int) (r1 : Int) (r2 : Int) (w : World) (h : bG.f k a0 a1_0 a1_1 = some (r1, r2)) :
 Calls Tryz.prog 116 #[.bool a0, .agg #[.int .u64 a1_0, .int .u64 a1_1]] w fun e w' => e = .returned (.tuple #[.int .i64 r1, .int .i64 r2]) ∧ Below w.heap.size w w' := by
 refine bW (A := [.bool a0, .agg #[.int .u64 a1_0, .int .u64 a1_1]]) (v := .tup [.int .i64 r1, .int .i64 r2]) (bE) ((bG.vc k a0 a1_0 a1_1 _).mpr ?_) (by simp [kG, kL, kM, kN, kZ, kV, jP]) (fun ρ V' hV => by simpa [kG, kL, kM, kN, kZ, kV, bK] using hV)
 unfold bG.f at h
 cases k with
 | zero =>
  (try simp only [bG.j0] at h)
  (try simp only [bne, Option.bind_eq_some_iff, bN] at h)
  (try simp only [bne, jS, wrap_i64])
  first
   | grind (splits := 60) [kH]
   | ((repeat' (first | (have or_ : Or _ _ := h; clear or_; rcases h with h | h) | (have or_ : Exists _ := h; clear or_; obtain ⟨_, h⟩ := h) | (have or_ : And _ _ := h; clear or_; obtain ⟨hq_, h⟩ := h))) <;> (try simp only [Option.some.injEq, Prod.mk.injEq, reduceCtorEq] at h) <;> (try subst_vars) <;> first | (simp_all [kH] <;> (try omega) <;> rcases hb0 : decide (a1_1 ≤ 9223372036854775808) with _ | _ <;> rcases hb1 : decide (a1_1 > 9223372036854775807) with _ | _ <;> simp_all [kH] <;> done) | grind (splits := 60) [kH])
   | (intros; subst_vars; simp_all [kH]; done)
 | succ k =>
  (try simp only [bG.j0] at h)
  (try simp only [bne, Option.bind_eq_some_iff, bN] at h)
  (try simp only [bne, jS, wrap_i64])
  first
   | grind (splits := 60) [kH]
   | ((repeat' (first | (have or_ : Or _ _ := h; clear or_; rcases h with h | h) | (have or_ : Exists _ := h; clear or_; obtain ⟨_, h⟩ := h) | (have or_ : And _ _ := h; clear or_; obtain ⟨hq_, h⟩ := h))) <;> (try simp only [Option.some.injEq, Prod.mk.injEq, reduceCtorEq] at h) <;> (try subst_vars) <;> first | (simp_all [kH] <;> (try omega) <;> rcases hb0 : decide (a1_1 ≤ 9223372036854775808) with _ | _ <;> rcases hb1 : decide (a1_1 > 9223372036854775807) with _ | _ <;> simp_all [kH] <;> done) | grind (splits := 60) [kH])
   | (intros; subst_vars; simp_all [kH]; done)
noncomputable def bG.con (k : Nat) : Con
 | [.bool a0, .agg [.int .u64 a1_0, .int .u64 a1_1]] => some ((bG.f k a0 a1_0 a1_1).isSome, .tup [.int .i64 (gd (bG.f k a0 a1_0 a1_1)).1, .int .i64 (gd (bG.f k a0 a1_0 a1_1)).2])
 | _ => none
set_option maxRecDepth 100000 in
theorem bG.cok (k : Nat) : COk Tryz.prog 116 (bG.con k) := by
 intro args p v hc hp w A hA
 unfold bG.con at hc
 split at hc
 · rename_i a0 a1_0 a1_1
   simp only [Option.some.injEq, Prod.mk.injEq] at hc
   obtain ⟨rfl, rfl⟩ := hc
   rcases hf : bG.f k a0 a1_0 a1_1 with _ | ⟨r1, r2⟩
   · rw [hf] at hp; cases hp
   obtain rfl : A = [.bool a0, .agg #[.int .u64 a1_0, .int .u64 a1_1]] := by simpa [kG, kL, kM, kN, kZ, kV, jP] using hA
   exact kK (fn := Tryz.f116) Tryz.func116 (by kernel_rfl) (by kernel_rfl) (bG.calls _ _ _ _ _ _ w hf) (fun _ => by simp [kH, kG, kL, kM, kN, kZ, kV, bK]) (fun _ h => h)
 · cases hc
def zH.f (a0 : Int) : Option (Int) := if a0 < 0 then (some (IntKind.u64.wrap (-(IntKind.u64.wrap (a0))))) else (some (IntKind.u64.wrap (a0)))
set_option maxHeartbeats 8000000 in
set_option maxRecDepth 100000 in
theorem zH.calls (a0 : Int) (r : Int) (w : World) (h : zH.f a0 = some r) :
 Calls Tryz.prog 147 #[.int .i64 a0] w fun e w' => e = .returned (.int .u64 r) ∧ Drawn0 w w' := by
 have H : (if a0 < 0 then (some (IntKind.u64.wrap (-(IntKind.u64.wrap (a0))))) else (some (IntKind.u64.wrap (a0)))) = some r := h
 clear h
 by_cases c2 : a0 < 0
 · rw [if_pos c2] at H
   have c2b0 : decide (a0 < 0) = true := decide_eq_true c2
   clear c2
   obtain rfl := Option.some.inj H
   go_enter Tryz.func147, Tryz.ntmps147
   go_wp2
   go_ret
   exact ⟨by first | rfl | (simp; done) | (simp [*]; done), by repeat (first | exact Drawn0.refl _ | apply Drawn0.step)⟩
 · rw [if_neg c2] at H
   have c2b0 : decide (a0 < 0) = false := decide_eq_false c2
   clear c2
   obtain rfl := Option.some.inj H
   go_enter Tryz.func147, Tryz.ntmps147
   go_wp2
   go_ret
   exact ⟨by first | rfl | (simp; done) | (simp [*]; done), by repeat (first | exact Drawn0.refl _ | apply Drawn0.step)⟩
noncomputable def zH.con : Con
 | [.int .i64 a0] => some ((zH.f a0).isSome, .int .u64 (gd (zH.f a0)))
 | _ => none
set_option maxRecDepth 100000 in
theorem zH.cok : COk Tryz.prog 147 (zH.con) := by
 intro args p v hc hp w A hA
 unfold zH.con at hc
 split at hc
 · rename_i a0
   simp only [Option.some.injEq, Prod.mk.injEq] at hc
   obtain ⟨rfl, rfl⟩ := hc
   rcases hf : zH.f a0 with _ | r
   · rw [hf] at hp; cases hp
   obtain rfl : A = [.int .i64 a0] := by simpa [kG, kL, kM, kN, kZ, kV, jP] using hA
   exact kK (fn := Tryz.f147) Tryz.func147 (by kernel_rfl) (by kernel_rfl) (zH.calls _ _ w hf) (fun _ => by simp [kH, kG, kL, kM, kN, kZ, kV, bK]) (fun _ h => h.below)
 · cases hc
def zF.f (a0 : Int) (a1 : Int) : Option (Int × Int) := some (IntKind.u64.wrap ((IntKind.u64.wrap ((IntKind.u64.wrap ((a0 / 4294967296) * (a1 / 4294967296))) + ((IntKind.u64.wrap ((IntKind.u64.wrap ((a0 / 4294967296) * (Go.bits .and .u64 a1 4294967295))) + ((IntKind.u64.wrap ((Go.bits .and .u64 a0 4294967295) * (Go.bits .and .u64 a1 4294967295))) / 4294967296))) / 4294967296))) + ((IntKind.u64.wrap ((Go.bits .and .u64 (IntKind.u64.wrap ((IntKind.u64.wrap ((a0 / 4294967296) * (Go.bits .and .u64 a1 4294967295))) + ((IntKind.u64.wrap ((Go.bits .and .u64 a0 4294967295) * (Go.bits .and .u64 a1 4294967295))) / 4294967296))) 4294967295) + (IntKind.u64.wrap ((Go.bits .and .u64 a0 4294967295) * (a1 / 4294967296))))) / 4294967296)), IntKind.u64.wrap (a0 * a1))
set_option maxHeartbeats 8000000 in
set_option maxRecDepth 100000 in
theorem zF.calls (a0 : Int) (a1 : Int) (r1 : Int) (r2 : Int) (w : World) (h : zF.f a0 a1 = some (r1, r2)) :
 Calls Tryz.prog 153 #[.int .u64 a0, .int .u64 a1] w fun e w' => e = .returned (.tuple #[.int .u64 r1, .int .u64 r2]) ∧ Drawn0 w w' := by
 have H : (some (IntKind.u64.wrap ((IntKind.u64.wrap ((IntKind.u64.wrap ((a0 / 4294967296) * (a1 / 4294967296))) + ((IntKind.u64.wrap ((IntKind.u64.wrap ((a0 / 4294967296) * (Go.bits .and .u64 a1 4294967295))) + ((IntKind.u64.wrap ((Go.bits .and .u64 a0 4294967295) * (Go.bits .and .u64 a1 4294967295))) / 4294967296))) / 4294967296))) + ((IntKind.u64.wrap ((Go.bits .and .u64 (IntKind.u64.wrap ((IntKind.u64.wrap ((a0 / 4294967296) * (Go.bits .and .u64 a1 4294967295))) + ((IntKind.u64.wrap ((Go.bits .and .u64 a0 4294967295) * (Go.bits .and .u64 a1 4294967295))) / 4294967296))) 4294967295) + (IntKind.u64.wrap ((Go.bits .and .u64 a0 4294967295) * (a1 / 4294967296))))) / 4294967296)), IntKind.u64.wrap (a0 * a1))) = some (r1, r2) := h
 clear h
 simp only [Option.some.injEq, Prod.mk.injEq] at H
 obtain ⟨rfl, rfl⟩ := H
 go_enter Tryz.func153, Tryz.ntmps153
 go_wp2
 go_ret2
 exact ⟨by first | rfl | (simp; done) | (simp [*]; done), by repeat (first | exact Drawn0.refl _ | apply Drawn0.step)⟩
noncomputable def zF.con : Con
 | [.int .u64 a0, .int .u64 a1] => some ((zF.f a0 a1).isSome, .tup [.int .u64 (gd (zF.f a0 a1)).1, .int .u64 (gd (zF.f a0 a1)).2])
 | _ => none
set_option maxRecDepth 100000 in
theorem zF.cok : COk Tryz.prog 153 (zF.con) := by
 intro args p v hc hp w A hA
 unfold zF.con at hc
 split at hc
 · rename_i a0 a1
   simp only [Option.some.injEq, Prod.mk.injEq] at hc
   obtain ⟨rfl, rfl⟩ := hc
   rcases hf : zF.f a0 a1 with _ | ⟨r1, r2⟩
   · rw [hf] at hp; cases hp
   obtain rfl : A = [.int .u64 a0, .int .u64 a1] := by simpa [kG, kL, kM, kN, kZ, kV, jP] using hA
   exact kK (fn := Tryz.f153) Tryz.func153 (by kernel_rfl) (by kernel_rfl) (zF.calls _ _ _ _ w hf) (fun _ => by simp [kH, kG, kL, kM, kN, kZ, kV, bK]) (fun _ h => h.below)
 · cases hc
def jE.f (a0 : Int) (a1 : Int) : Option (Int × Int) := (zH.f a0).bind fun t103 => ((zH.f a1).bind fun t104 => ((zF.f t103 t104).bind fun bt105 => (some (bt105.1, bt105.2))))
set_option maxRecDepth 100000 in
theorem jE.vc (a0 : Int) (a1 : Int) (K : AV → Prop) : afv PA Tryz.prog (tab [(147, zH.con), (153, zF.con)]) noLoops 2 117 [.int .i64 a0, .int .i64 a1] K = (brc (Option.isSome (zH.f a0)) (∀ m0 : Int, m0 = gd (zH.f a0) → brc (Option.isSome (zH.f a1)) (∀ m1 : Int, m1 = gd (zH.f a1) → brc (Option.isSome (zF.f m0 m1)) (∀ m2 : Int, m2 = Prod.fst (gd (zF.f m0 m1)) → ∀ m3 : Int, m3 = Prod.snd (gd (zF.f m0 m1)) → K (AV.agg [.int .u64 m2, .int .u64 m3])) False) False) False) := by kernel_rfl
set_option maxHeartbeats 1000000 in
set_option maxRecDepth 100000 in
theorem jE.calls (a0 : Int) (a1 : Int) (r1 : Int) (r2 : Int) (w : World) (h : jE.f a0 a1 = some (r1, r2)) :
 Calls Tryz.prog 117 #[.int .i64 a0, .int .i64 a1] w fun e w' => e = .returned (.agg #[.int .u64 r1, .int .u64 r2]) ∧ Below w.heap.size w w' := by
 refine bW (A := [.int .i64 a0, .int .i64 a1]) (v := .agg [.int .u64 r1, .int .u64 r2]) (kD (zH.cok) (kD (zF.cok) (bE))) ((jE.vc a0 a1 _).mpr ?_) (by simp [kG, kL, kM, kN, kZ, kV, jP]) (fun ρ V' hV => by simpa [kG, kL, kM, kN, kZ, kV, bK] using hV)
 unfold jE.f at h
 (try simp only [bne, Option.bind_eq_some_iff, bN] at h)
 (try simp only [bne, jS, wrap_i64])
 first
  | grind (splits := 60) [kH]
  | ((repeat' (first | (have or_ : Or _ _ := h; clear or_; rcases h with h | h) | (have or_ : Exists _ := h; clear or_; obtain ⟨_, h⟩ := h) | (have or_ : And _ _ := h; clear or_; obtain ⟨hq_, h⟩ := h))) <;> (try simp only [Option.some.injEq, Prod.mk.injEq, reduceCtorEq] at h) <;> (try subst_vars) <;> first | (simp_all [kH] <;> (try omega) <;> done) | grind (splits := 60) [kH])
  | (intros; subst_vars; simp_all [kH]; done)
noncomputable def jE.con : Con
 | [.int .i64 a0, .int .i64 a1] => some ((jE.f a0 a1).isSome, .agg [.int .u64 (gd (jE.f a0 a1)).1, .int .u64 (gd (jE.f a0 a1)).2])
 | _ => none
set_option maxRecDepth 100000 in
theorem jE.cok : COk Tryz.prog 117 (jE.con) := by
 intro args p v hc hp w A hA
 unfold jE.con at hc
 split at hc
 · rename_i a0 a1
   simp only [Option.some.injEq, Prod.mk.injEq] at hc
   obtain ⟨rfl, rfl⟩ := hc
   rcases hf : jE.f a0 a1 with _ | ⟨r1, r2⟩
   · rw [hf] at hp; cases hp
   obtain rfl : A = [.int .i64 a0, .int .i64 a1] := by simpa [kG, kL, kM, kN, kZ, kV, jP] using hA
   exact kK (fn := Tryz.f117) Tryz.func117 (by kernel_rfl) (by kernel_rfl) (jE.calls _ _ _ _ w hf) (fun _ => by simp [kH, kG, kL, kM, kN, kZ, kV, bK]) (fun _ h => h)
 · cases hc
def jM.f (k : Nat) (a0 : Int) (a1 : Int) (a2 : Int) : Option (Int × Int) := if a0 = 0 ∧ 0 < a2 then some (IntKind.u64.wrap (Int.tdiv a1 a2), Int.tmod a1 a2) else none
theorem jM.mono (a0 a1 a2 : Int) (k : Nat) : LeO (jM.f k a0 a1 a2) (jM.f (k + 1) a0 a1 a2) := fun _ h => h
set_option maxRecDepth 100000 in
theorem jM.vc (l y : Int) (K : AV → Prop) : afv PA Tryz.prog (tab []) noLoops 3 148 [.int .u64 0, .int .u64 l, .int .u64 y] K = brc (y == 0) False (brc (decide (y ≤ 0)) False (brc (decide (y ≠ 0)) (brc (decide (y ≠ 0)) (K (.tup [.int .u64 (IntKind.wrap .u64 (Int.tdiv l y)), .int .u64 (Int.tmod l y)])) False) False)) := by kernel_rfl
set_option maxRecDepth 100000 in
theorem jM.calls (k : Nat) (a0 : Int) (a1 : Int) (a2 : Int) (r1 : Int) (r2 : Int) (w : World) (h : jM.f k a0 a1 a2 = some (r1, r2)) :
 Calls Tryz.prog 148 #[.int .u64 a0, .int .u64 a1, .int .u64 a2] w fun e w' => e = .returned (.tuple #[.int .u64 r1, .int .u64 r2]) ∧ Below w.heap.size w w' := by
 unfold jM.f at h
 split at h
 case isFalse => cases h
 rename_i hc
 obtain ⟨rfl, h0⟩ := hc
 simp only [Option.some.injEq, Prod.mk.injEq] at h
 obtain ⟨rfl, rfl⟩ := h
 refine bW (A := [.int .u64 0, .int .u64 a1, .int .u64 a2]) (v := .tup [.int .u64 (IntKind.u64.wrap (Int.tdiv a1 a2)), .int .u64 (Int.tmod a1 a2)]) (bE) ((jM.vc a1 a2 _).mpr ?_) (by simp [kG, kL, kM, kN, kZ, kV, jP]) (fun ρ V' hV => by simpa [kG, kL, kM, kN, kZ, kV, bK] using hV)
 have n0 : decide (a2 ≠ 0) = true := decide_eq_true (by omega)
 refine jS.2 ⟨fun e => ?_, fun _ => jS.2 ⟨fun e => ?_, fun _ => jS.2 ⟨fun _ => jS.2 ⟨fun _ => rfl, fun e => ?_⟩, fun e => ?_⟩⟩⟩
 · have : a2 = 0 := by simpa using e
   omega
 · have := of_decide_eq_true e
   omega
 · rw [n0] at e; cases e
 · rw [n0] at e; cases e
noncomputable def jM.con (k : Nat) : Con
 | [.int .u64 a0, .int .u64 a1, .int .u64 a2] => some ((jM.f k a0 a1 a2).isSome, .tup [.int .u64 (gd (jM.f k a0 a1 a2)).1, .int .u64 (gd (jM.f k a0 a1 a2)).2])
 | _ => none
set_option maxRecDepth 100000 in
theorem jM.cok (k : Nat) : COk Tryz.prog 148 (jM.con k) := by
 intro args p v hc hp w A hA
 unfold jM.con at hc
 split at hc
 · rename_i a0 a1 a2
   simp only [Option.some.injEq, Prod.mk.injEq] at hc
   obtain ⟨rfl, rfl⟩ := hc
   rcases hf : jM.f k a0 a1 a2 with _ | ⟨r1, r2⟩
   · rw [hf] at hp; cases hp
   obtain rfl : A = [.int .u64 a0, .int .u64 a1, .int .u64 a2] := by simpa [kG, kL, kM, kN, kZ, kV, jP] using hA
   exact kK (fn := Tryz.f148) Tryz.func148 (by kernel_rfl) (by kernel_rfl) (jM.calls _ _ _ _ _ _ w hf) (fun _ => by simp [kH, kG, kL, kM, kN, kZ, kV, bK]) (fun _ h => h)
 · cases hc
def zB.f (a0 : Int) (a1 : Int) (a2 : Int) : Option (Int × Int) := if 0 ≤ a0 then (if 0 ≤ a1 then (if 0 ≤ a2 then (if a2 ≤ 1 then (some ((a0 + a1 + a2) % 18446744073709551616, (a0 + a1 + a2) / 18446744073709551616)) else none) else none) else none) else none
set_option maxRecDepth 100000 in
theorem zB.run (a0 : Int) (a1 : Int) (a2 : Int) (r1 r2 : Int) (w : World) (h : zB.f a0 a1 a2 = some (r1, r2)) :
 (callFunc 149 #[.int .u64 a0, .int .u64 a1, .int .u64 a2]).run Tryz.prog w = .ok (.value (.tuple #[.int .u64 r1, .int .u64 r2])) w := by
 unfold zB.f at h
 split at h
 · split at h
   · split at h
     · split at h
       · rename_i h0 h1 h2 h3
         injection h with h
         injection h with e1 e2
         subst e1; subst e2
         rw [run_callFunc_extern Tryz.func149 (by kernel_rfl) (by kernel_rfl) (by kernel_rfl) (e := add64Entry) (by kernel_rfl), run_add64 a0 a1 a2 h0 h1 h2 h3]
         rfl
       · cases h
     · cases h
   · cases h
 · cases h
noncomputable def zB.con : Con
 | [.int .u64 a0, .int .u64 a1, .int .u64 a2] => some ((zB.f a0 a1 a2).isSome, .tup [.int .u64 (gd (zB.f a0 a1 a2)).1, .int .u64 (gd (zB.f a0 a1 a2)).2])
 | _ => none
set_option maxRecDepth 100000 in
theorem zB.cok : COk Tryz.prog 149 (zB.con) := by
 intro args p v hc hp w A hA
 unfold zB.con at hc
 split at hc
 · rename_i a0 a1 a2
   simp only [Option.some.injEq, Prod.mk.injEq] at hc
   obtain ⟨rfl, rfl⟩ := hc
   rcases hf : zB.f a0 a1 a2 with _ | ⟨r1, r2⟩
   · rw [hf] at hp; cases hp
   obtain rfl : A = [.int .u64 a0, .int .u64 a1, .int .u64 a2] := by simpa [kG, kL, kM, kN, kZ, kV, jP] using hA
   exact gives_of_run (zB.run _ _ _ _ _ w hf) (fun _ => by simp [kH, kG, kL, kM, kN, kZ, kV, bK])
 · cases hc
def num_Scale.f (k : Nat) (a0 : Int) (a1 : Int) (a2 : Int) : Option (Int × Int) := if a2 = 0 then (some (0, 11)) else ((jE.f a0 a1).bind fun bt109 => ((zH.f a2).bind fun t111 => (if bt109.1 ≥ t111 then (some (0, 10)) else ((jM.f k bt109.1 bt109.2 t111).bind fun bt113 => (if ((((decide (a0 < 0)) != (decide (a1 < 0))) != (decide (a2 < 0))) = true) then (if bt113.2 = 0 then ((bG.f k (((decide (a0 < 0)) != (decide (a1 < 0))) != (decide (a2 < 0))) 0 bt113.1).bind fun bt115 => (some (bt115.1, bt115.2))) else ((zB.f bt113.1 1 0).bind fun bt117 => ((bG.f k true bt117.2 bt117.1).bind fun bt119 => (some (bt119.1, bt119.2))))) else ((bG.f k (((decide (a0 < 0)) != (decide (a1 < 0))) != (decide (a2 < 0))) 0 bt113.1).bind fun bt121 => (some (bt121.1, bt121.2))))))))
theorem num_Scale.mono : ∀ a0 a1 a2 k, LeO (num_Scale.f k a0 a1 a2) (num_Scale.f (k + 1) a0 a1 a2) := by
 intro a0 a1 a2 k
 unfold num_Scale.f
 repeat' first
  | (with_reducible exact jM.mono _ _ _ _)
  | (with_reducible exact bG.mono _ _ _ _)
  | (with_reducible exact LeO.refl _)
  | (with_reducible exact LeO.none _)
  | (with_reducible refine LeO.ite ?_ ?_)
  | (with_reducible refine LeO.bind ?_ (fun _ => ?_))
  | exact jM.mono _ _ _ _
  | exact bG.mono _ _ _ _
  | exact LeO.none _
  | refine LeO.ite ?_ ?_
  | refine LeO.bind ?_ (fun _ => ?_)
set_option maxRecDepth 100000 in
theorem num_Scale.vc (k : Nat) (a0 : Int) (a1 : Int) (a2 : Int) (K : AV → Prop) : afv PA Tryz.prog (tab [(116, bG.con k), (117, jE.con), (147, zH.con), (148, jM.con k), (149, zB.con)]) noLoops 2 112 [.int .i64 a0, .int .i64 a1, .int .i64 a2] K = (brc (a2 == 0) (K (AV.tup [.int .i64 0, .int .i64 11])) (brc (Option.isSome (jE.f a0 a1)) (∀ m0 : Int, m0 = Prod.fst (gd (jE.f a0 a1)) → ∀ m1 : Int, m1 = Prod.snd (gd (jE.f a0 a1)) → brc (Option.isSome (zH.f a2)) (∀ m2 : Int, m2 = gd (zH.f a2) → brc (decide (m0 ≥ m2)) (K (AV.tup [.int .i64 0, .int .i64 10])) (brc (Option.isSome (jM.f k m0 m1 m2)) (∀ m3 : Int, m3 = Prod.fst (gd (jM.f k m0 m1 m2)) → ∀ m4 : Int, m4 = Prod.snd (gd (jM.f k m0 m1 m2)) → brc (!!(!decide (a0 < 0) == decide (a1 < 0)) == decide (a2 < 0)) (brc (Option.isSome (bG.f k (!(!decide (a0 < 0) == decide (a1 < 0)) == decide (a2 < 0)) 0 m3)) (∀ m5 : Int, m5 = Prod.fst (gd (bG.f k (!(!decide (a0 < 0) == decide (a1 < 0)) == decide (a2 < 0)) 0 m3)) → ∀ m6 : Int, m6 = Prod.snd (gd (bG.f k (!(!decide (a0 < 0) == decide (a1 < 0)) == decide (a2 < 0)) 0 m3)) → K (AV.tup [.int .i64 m5, .int .i64 m6])) False) (brc (m4 == 0) (brc (Option.isSome (bG.f k (!(!decide (a0 < 0) == decide (a1 < 0)) == decide (a2 < 0)) 0 m3)) (∀ m5 : Int, m5 = Prod.fst (gd (bG.f k (!(!decide (a0 < 0) == decide (a1 < 0)) == decide (a2 < 0)) 0 m3)) → ∀ m6 : Int, m6 = Prod.snd (gd (bG.f k (!(!decide (a0 < 0) == decide (a1 < 0)) == decide (a2 < 0)) 0 m3)) → K (AV.tup [.int .i64 m5, .int .i64 m6])) False) (brc (Option.isSome (zB.f m3 1 0)) (∀ m5 : Int, m5 = Prod.fst (gd (zB.f m3 1 0)) → ∀ m6 : Int, m6 = Prod.snd (gd (zB.f m3 1 0)) → brc (Option.isSome (bG.f k true m6 m5)) (∀ m7 : Int, m7 = Prod.fst (gd (bG.f k true m6 m5)) → ∀ m8 : Int, m8 = Prod.snd (gd (bG.f k true m6 m5)) → K (AV.tup [.int .i64 m7, .int .i64 m8])) False) False))) False)) False) False)) := by kernel_rfl
set_option maxHeartbeats 1000000 in
set_option maxRecDepth 100000 in
theorem num_Scale.calls (k : Nat) (a0 : Int) (a1 : Int) (a2 : Int) (r1 : Int) (r2 : Int) (w : World) (h : num_Scale.f k a0 a1 a2 = some (r1, r2)) :
 Calls Tryz.prog 112 #[.int .i64 a0, .int .i64 a1, .int .i64 a2] w fun e w' => e = .returned (.tuple #[.int .i64 r1, .int .i64 r2]) ∧ Below w.heap.size w w' := by
 refine bW (A := [.int .i64 a0, .int .i64 a1, .int .i64 a2]) (v := .tup [.int .i64 r1, .int .i64 r2]) (kD (bG.cok k) (kD (jE.cok) (kD (zH.cok) (kD (jM.cok k) (kD (zB.cok) (bE)))))) ((num_Scale.vc k a0 a1 a2 _).mpr ?_) (by simp [kG, kL, kM, kN, kZ, kV, jP]) (fun ρ V' hV => by simpa [kG, kL, kM, kN, kZ, kV, bK] using hV)
 unfold num_Scale.f at h
 (try simp only [bne, Option.bind_eq_some_iff, bN] at h)
 (try simp only [bne, jS, wrap_i64])
 first
  | grind (splits := 60) [kH]
  | ((repeat' (first | (have or_ : Or _ _ := h; clear or_; rcases h with h | h) | (have or_ : Exists _ := h; clear or_; obtain ⟨_, h⟩ := h) | (have or_ : And _ _ := h; clear or_; obtain ⟨hq_, h⟩ := h))) <;> (try simp only [Option.some.injEq, Prod.mk.injEq, reduceCtorEq] at h) <;> (try subst_vars) <;> first | (simp_all [kH] <;> (try omega) <;> rcases hb0 : decide (a0 < 0) with _ | _ <;> rcases hb1 : decide (a1 < 0) with _ | _ <;> rcases hb2 : decide (a2 < 0) with _ | _ <;> simp_all [kH] <;> done) | grind (splits := 60) [kH])
  | (intros; subst_vars; simp_all [kH]; done)
def num_Div.f (k : Nat) (a0 : Int) (a1 : Int) : Option (Int × Int) := (num_Scale.f k a0 1 a1).bind fun bt123 => (some (bt123.1, bt123.2))
theorem num_Div.mono : ∀ a0 a1 k, LeO (num_Div.f k a0 a1) (num_Div.f (k + 1) a0 a1) := by
 intro a0 a1 k
 unfold num_Div.f
 repeat' first
  | (with_reducible exact num_Scale.mono _ _ _ _)
  | (with_reducible exact LeO.refl _)
  | (with_reducible exact LeO.none _)
  | (with_reducible refine LeO.ite ?_ ?_)
  | (with_reducible refine LeO.bind ?_ (fun _ => ?_))
  | exact num_Scale.mono _ _ _ _
  | exact LeO.none _
  | refine LeO.ite ?_ ?_
  | refine LeO.bind ?_ (fun _ => ?_)
set_option maxHeartbeats 8000000 in
set_option maxRecDepth 100000 in
theorem num_Div.calls (k : Nat) (a0 : Int) (a1 : Int) (r1 : Int) (r2 : Int) (w : World) (h : num_Div.f k a0 a1 = some (r1, r2)) :
 Calls Tryz.prog 74 #[.int .i64 a0, .int .i64 a1] w fun e w' => e = .returned (.tuple #[.int .i64 r1, .int .i64 r2]) ∧ Below w.heap.size w w' := by
 have HB := Aside0.mk (Below.refl w.heap.size w)
 have H : ((num_Scale.f k a0 1 a1).bind fun bt123 => (some (bt123.1, bt123.2))) = some (r1, r2) := h
 clear h
 replace H := Option.bind_eq_some_iff.mp H
 obtain ⟨⟨t123, t124⟩, A30, H⟩ := H
 replace H : (some (t123, t124)) = some (r1, r2) := H
 have A3 := Aside0.mk A30
 clear A30
 simp only [Option.some.injEq, Prod.mk.injEq] at H
 obtain ⟨rfl, rfl⟩ := H
 go_enter Tryz.func74, Tryz.ntmps74
 go_wp2_with (first | ((with_reducible refine bC (f := 112) rfl ?_); refine jH (some 8) rfl rfl Tryz.func112 (by kernel_rfl) rfl #[.int .i64 a0, .int .i64 1, .int .i64 a1] rfl (by (try simp only [List.map_toArray, List.map_cons, List.map_nil]); first | done | rfl | (simp only [List.length_drop, List.length_take]; rfl)) ?_; (with_reducible refine (num_Scale.calls k a0 1 a1 t123 t124 _ A3.out).mono ?_); rintro e w4 ⟨rfl, hb⟩; refine ⟨_, rfl, ?_⟩; have n0_ := Aside0.mk (below_step (by repeat (first | (with_reducible first | exact HB.out | apply below_alloc | apply zG | apply below_drew1) | exact HB.out)) hb); clear HB; have HB := n0_; clear n0_; (try clear hb); (try clear hb2); (try clear hk); (try clear hi)))
 go_ret2
 exact ⟨by first | rfl | (simp [errW_none, errW_some] <;> rfl) | (simp [*, errW_none, errW_some] <;> rfl), by repeat (first | (with_reducible first | exact HB.out | apply below_alloc | apply zG | apply below_drew1) | exact HB.out)⟩
def num_Mod.f (a0 : Int) (a1 : Int) : Option (Int × Int) := if a1 = 0 then (some (0, 11)) else (if a1 = (-1) then (some (0, 0)) else (if (Int.tmod a0 a1) = 0 then (some (Int.tmod a0 a1, 0)) else (if ((decide ((Int.tmod a0 a1) < 0)) != (decide (a1 < 0))) = true then (some (wrap64 ((Int.tmod a0 a1) + a1), 0)) else (some (Int.tmod a0 a1, 0)))))
set_option maxHeartbeats 8000000 in
set_option maxRecDepth 100000 in
theorem num_Mod.calls (a0 : Int) (a1 : Int) (r1 : Int) (r2 : Int) (w : World) (h : num_Mod.f a0 a1 = some (r1, r2)) :
 Calls Tryz.prog 75 #[.int .i64 a0, .int .i64 a1] w fun e w' => e = .returned (.tuple #[.int .i64 r1, .int .i64 r2]) ∧ Drawn0 w w' := by
 have H : (if a1 = 0 then (some (0, 11)) else (if a1 = (-1) then (some (0, 0)) else (if (Int.tmod a0 a1) = 0 then (some (Int.tmod a0 a1, 0)) else (if ((decide ((Int.tmod a0 a1) < 0)) != (decide (a1 < 0))) = true then (some (wrap64 ((Int.tmod a0 a1) + a1), 0)) else (some (Int.tmod a0 a1, 0)))))) = some (r1, r2) := h
 clear h
 by_cases c3 : a1 = 0
 · rw [if_pos c3] at H
   have c3b0 : (a1 == 0) = true := beq_iff_eq.mpr c3
   have c3b1 : (a1 != 0) = false := bne_eq_false_iff_eq.mpr c3
   clear c3
   simp only [Option.some.injEq, Prod.mk.injEq] at H
   obtain ⟨rfl, rfl⟩ := H
   go_enter Tryz.func75, Tryz.ntmps75
   go_wp2
   go_ret2
   exact ⟨by first | rfl | (simp; done) | (simp [*]; done), by repeat (first | exact Drawn0.refl _ | apply Drawn0.step)⟩
 · rw [if_neg c3] at H
   have c3b0 : (a1 == 0) = false := beq_eq_false_iff_ne.mpr c3
   have c3b1 : (a1 != 0) = true := bne_iff_ne.mpr c3
   by_cases c4 : a1 = (-1)
   · rw [if_pos c4] at H
     have c4b0 : (a1 == (-1)) = true := beq_iff_eq.mpr c4
     have c4b1 : (a1 != (-1)) = false := bne_eq_false_iff_eq.mpr c4
     clear c4
     simp only [Option.some.injEq, Prod.mk.injEq] at H
     obtain ⟨rfl, rfl⟩ := H
     go_enter Tryz.func75, Tryz.ntmps75
     go_wp2
     go_ret2
     exact ⟨by first | rfl | (simp; done) | (simp [*]; done), by repeat (first | exact Drawn0.refl _ | apply Drawn0.step)⟩
   · rw [if_neg c4] at H
     have c4b0 : (a1 == (-1)) = false := beq_eq_false_iff_ne.mpr c4
     have c4b1 : (a1 != (-1)) = true := bne_iff_ne.mpr c4
     by_cases c5 : (Int.tmod a0 a1) = 0
     · rw [if_pos c5] at H
       have c5b0 : ((Int.tmod a0 a1) == 0) = true := beq_iff_eq.mpr c5
       have c5b1 : ((Int.tmod a0 a1) != 0) = false := bne_eq_false_iff_eq.mpr c5
       clear c5
       simp only [Option.some.injEq, Prod.mk.injEq] at H
       obtain ⟨rfl, rfl⟩ := H
       go_enter Tryz.func75, Tryz.ntmps75
       go_wp2
       go_ret2
       exact ⟨by first | rfl | (simp; done) | (simp [*]; done), by repeat (first | exact Drawn0.refl _ | apply Drawn0.step)⟩
     · rw [if_neg c5] at H
       have c5b0 : ((Int.tmod a0 a1) == 0) = false := beq_eq_false_iff_ne.mpr c5
       have c5b1 : ((Int.tmod a0 a1) != 0) = true := bne_iff_ne.mpr c5
       by_cases c6 : ((decide ((Int.tmod a0 a1) < 0)) != (decide (a1 < 0))) = true
       · rw [if_pos c6] at H
         have c6b0 : ((decide ((Int.tmod a0 a1) < 0)) != (decide (a1 < 0))) = true := c6
         (try (have c6b1 : decide ((decide ((Int.tmod a0 a1) < 0)) = (decide (a1 < 0))) = false := by simpa using c6))
         (try (have c6b2 : ((decide ((Int.tmod a0 a1) < 0)) == (decide (a1 < 0))) = false := by simpa using c6))
         (try (have c6b3 : ¬ ((decide ((Int.tmod a0 a1) < 0)) = (decide (a1 < 0))) := by simpa using c6))
         clear c6
         simp only [Option.some.injEq, Prod.mk.injEq] at H
         obtain ⟨rfl, rfl⟩ := H
         go_enter Tryz.func75, Tryz.ntmps75
         go_wp2
         go_ret2
         exact ⟨by first | rfl | (simp; done) | (simp [*]; done), by repeat (first | exact Drawn0.refl _ | apply Drawn0.step)⟩
       · rw [if_neg c6] at H
         have c6b0 : ((decide ((Int.tmod a0 a1) < 0)) != (decide (a1 < 0))) = false := by simpa using c6
         (try (have c6b1 : decide ((decide ((Int.tmod a0 a1) < 0)) = (decide (a1 < 0))) = true := by simpa using c6))
         (try (have c6b2 : ((decide ((Int.tmod a0 a1) < 0)) == (decide (a1 < 0))) = true := by simpa using c6))
         clear c6
         simp only [Option.some.injEq, Prod.mk.injEq] at H
         obtain ⟨rfl, rfl⟩ := H
         go_enter Tryz.func75, Tryz.ntmps75
         go_wp2
         go_ret2
         exact ⟨by first | rfl | (simp; done) | (simp [*]; done), by repeat (first | exact Drawn0.refl _ | apply Drawn0.step)⟩
def jL.f (k : Nat) (a0 : Int) : Option (Int × Int) := (num_Div.f k a0 86400000000).bind fun bt125 => ((num_Mod.f a0 86400000000).bind fun bt127 => (some (bt125.1, bt127.1)))
theorem jL.mono : ∀ a0 k, LeO (jL.f k a0) (jL.f (k + 1) a0) := by
 intro a0 k
 unfold jL.f
 repeat' first
  | (with_reducible exact num_Div.mono _ _ _)
  | (with_reducible exact LeO.refl _)
  | (with_reducible exact LeO.none _)
  | (with_reducible refine LeO.ite ?_ ?_)
  | (with_reducible refine LeO.bind ?_ (fun _ => ?_))
  | exact num_Div.mono _ _ _
  | exact LeO.none _
  | refine LeO.ite ?_ ?_
  | refine LeO.bind ?_ (fun _ => ?_)
set_option maxHeartbeats 8000000 in
set_option maxRecDepth 100000 in
theorem jL.calls (k : Nat) (a0 : Int) (r1 : Int) (r2 : Int) (w : World) (h : jL.f k a0 = some (r1, r2)) :
 Calls Tryz.prog 94 #[.int .i64 a0] w fun e w' => e = .returned (.tuple #[.int .i64 r1, .int .i64 r2]) ∧ Below w.heap.size w w' := by
 have HB := Aside0.mk (Below.refl w.heap.size w)
 have H : ((num_Div.f k a0 86400000000).bind fun bt125 => ((num_Mod.f a0 86400000000).bind fun bt127 => (some (bt125.1, bt127.1)))) = some (r1, r2) := h
 clear h
 replace H := Option.bind_eq_some_iff.mp H
 obtain ⟨⟨t125, t126⟩, A20, H⟩ := H
 replace H : ((num_Mod.f a0 86400000000).bind fun bt127 => (some (t125, bt127.1))) = some (r1, r2) := H
 have A2 := Aside0.mk A20
 clear A20
 replace H := Option.bind_eq_some_iff.mp H
 obtain ⟨⟨t127, t128⟩, A30, H⟩ := H
 replace H : (some (t125, t127)) = some (r1, r2) := H
 have A3 := Aside0.mk A30
 clear A30
 simp only [Option.some.injEq, Prod.mk.injEq] at H
 obtain ⟨rfl, rfl⟩ := H
 go_enter Tryz.func94, Tryz.ntmps94
 go_wp2_with (first | ((with_reducible refine bC (f := 74) rfl ?_); refine jH (some 10) rfl rfl Tryz.func74 (by kernel_rfl) rfl #[.int .i64 a0, .int .i64 86400000000] rfl (by (try simp only [List.map_toArray, List.map_cons, List.map_nil]); first | done | rfl | (simp only [List.length_drop, List.length_take]; rfl)) ?_; (with_reducible refine (num_Div.calls k a0 86400000000 t125 t126 _ A2.out).mono ?_); rintro e w4 ⟨rfl, hb⟩; refine ⟨_, rfl, ?_⟩; have n0_ := Aside0.mk (below_step (by repeat (first | (with_reducible first | exact HB.out | apply below_alloc | apply zG | apply below_drew1) | exact HB.out)) hb); clear HB; have HB := n0_; clear n0_; (try clear hb); (try clear hb2); (try clear hk); (try clear hi)) | ((with_reducible refine bC (f := 75) rfl ?_); refine jH (some 15) rfl rfl Tryz.func75 (by kernel_rfl) rfl #[.int .i64 a0, .int .i64 86400000000] rfl (by (try simp only [List.map_toArray, List.map_cons, List.map_nil]); first | done | rfl | (simp only [List.length_drop, List.length_take]; rfl)) ?_; (with_reducible refine (num_Mod.calls a0 86400000000 t127 t128 _ A3.out).mono ?_); rintro e w' ⟨rfl, ⟨nd, rfl⟩⟩; refine ⟨_, rfl, ?_⟩))
 go_ret2
 exact ⟨by first | rfl | (simp [errW_none, errW_some] <;> rfl) | (simp [*, errW_none, errW_some] <;> rfl), by repeat (first | (with_reducible first | exact HB.out | apply below_alloc | apply zG | apply below_drew1) | exact HB.out)⟩
noncomputable def jL.con (k : Nat) : Con
 | [.int .i64 a0] => some ((jL.f k a0).isSome, .tup [.int .i64 (gd (jL.f k a0)).1, .int .i64 (gd (jL.f k a0)).2])
 | _ => none
set_option maxRecDepth 100000 in
theorem jL.cok (k : Nat) : COk Tryz.prog 94 (jL.con k) := by
 intro args p v hc hp w A hA
 unfold jL.con at hc
 split at hc
 · rename_i a0
   simp only [Option.some.injEq, Prod.mk.injEq] at hc
   obtain ⟨rfl, rfl⟩ := hc
   rcases hf : jL.f k a0 with _ | ⟨r1, r2⟩
   · rw [hf] at hp; cases hp
   obtain rfl : A = [.int .i64 a0] := by simpa [kG, kL, kM, kN, kZ, kV, jP] using hA
   exact kK (fn := Tryz.f94) Tryz.func94 (by kernel_rfl) (by kernel_rfl) (jL.calls _ _ _ _ w hf) (fun _ => by simp [kH, kG, kL, kM, kN, kZ, kV, bK]) (fun _ h => h)
 · cases hc
def bU.f (a0 : Int) (a1 : Int) : Option (Int × Int) := if a1 = 0 then (none) else (if (Int.tmod a0 a1) < 0 then (some (wrap64 ((wrap64 (Int.tdiv a0 a1)) - 1), wrap64 ((Int.tmod a0 a1) + a1))) else (some (wrap64 (Int.tdiv a0 a1), Int.tmod a0 a1)))
set_option maxHeartbeats 8000000 in
set_option maxRecDepth 100000 in
theorem bU.calls (a0 : Int) (a1 : Int) (r1 : Int) (r2 : Int) (w : World) (h : bU.f a0 a1 = some (r1, r2)) :
 Calls Tryz.prog 159 #[.int .i64 a0, .int .i64 a1] w fun e w' => e = .returned (.tuple #[.int .i64 r1, .int .i64 r2]) ∧ Drawn0 w w' := by
 have H : (if a1 = 0 then (none) else (if (Int.tmod a0 a1) < 0 then (some (wrap64 ((wrap64 (Int.tdiv a0 a1)) - 1), wrap64 ((Int.tmod a0 a1) + a1))) else (some (wrap64 (Int.tdiv a0 a1), Int.tmod a0 a1)))) = some (r1, r2) := h
 clear h
 by_cases c3 : a1 = 0
 · rw [if_pos c3] at H
   exact absurd H (by simp)
 · rw [if_neg c3] at H
   have c3b0 : (a1 == 0) = false := beq_eq_false_iff_ne.mpr c3
   have c3b1 : (a1 != 0) = true := bne_iff_ne.mpr c3
   by_cases c4 : (Int.tmod a0 a1) < 0
   · rw [if_pos c4] at H
     have c4b0 : decide ((Int.tmod a0 a1) < 0) = true := decide_eq_true c4
     clear c4
     simp only [Option.some.injEq, Prod.mk.injEq] at H
     obtain ⟨rfl, rfl⟩ := H
     go_enter Tryz.func159, Tryz.ntmps159
     go_wp2
     repeat (go_quiet (fail); try go_wp2)
     go_ret2
     exact ⟨by first | rfl | (simp; done) | (simp [*]; done), by repeat (first | exact Drawn0.refl _ | apply Drawn0.step)⟩
   · rw [if_neg c4] at H
     have c4b0 : decide ((Int.tmod a0 a1) < 0) = false := decide_eq_false c4
     clear c4
     simp only [Option.some.injEq, Prod.mk.injEq] at H
     obtain ⟨rfl, rfl⟩ := H
     go_enter Tryz.func159, Tryz.ntmps159
     go_wp2
     repeat (go_quiet (fail); try go_wp2)
     go_ret2
     exact ⟨by first | rfl | (simp; done) | (simp [*]; done), by repeat (first | exact Drawn0.refl _ | apply Drawn0.step)⟩
noncomputable def bU.con : Con
 | [.int .i64 a0, .int .i64 a1] => some ((bU.f a0 a1).isSome, .tup [.int .i64 (gd (bU.f a0 a1)).1, .int .i64 (gd (bU.f a0 a1)).2])
 | _ => none
set_option maxRecDepth 100000 in
theorem bU.cok : COk Tryz.prog 159 (bU.con) := by
 intro args p v hc hp w A hA
 unfold bU.con at hc
 split at hc
 · rename_i a0 a1
   simp only [Option.some.injEq, Prod.mk.injEq] at hc
   obtain ⟨rfl, rfl⟩ := hc
   rcases hf : bU.f a0 a1 with _ | ⟨r1, r2⟩
   · rw [hf] at hp; cases hp
   obtain rfl : A = [.int .i64 a0, .int .i64 a1] := by simpa [kG, kL, kM, kN, kZ, kV, jP] using hA
   exact kK (fn := Tryz.f159) Tryz.func159 (by kernel_rfl) (by kernel_rfl) (bU.calls _ _ _ _ w hf) (fun _ => by simp [kH, kG, kL, kM, kN, kZ, kV, bK]) (fun _ h => h.below)
 · cases hc
def zC.f (a0 : Int) (a1 : Int) (a2 : Int) : Option (Int) := if a1 ≤ 2 then ((bU.f (wrap64 (a0 - 1)) 400).bind fun bt129 => (some (wrap64 ((wrap64 ((wrap64 ((wrap64 ((wrap64 ((wrap64 ((wrap64 ((wrap64 (bt129.1 * 146097)) + (wrap64 (bt129.2 * 365)))) + (wrap64 (Int.tdiv bt129.2 4)))) - (wrap64 (Int.tdiv bt129.2 100)))) + (wrap64 (Int.tdiv (wrap64 ((wrap64 (153 * (wrap64 ((wrap64 (a1 + 12)) - 3)))) + 2)) 5)))) + a2)) - 1)) - 730425)))) else ((bU.f a0 400).bind fun bt131 => (some (wrap64 ((wrap64 ((wrap64 ((wrap64 ((wrap64 ((wrap64 ((wrap64 ((wrap64 (bt131.1 * 146097)) + (wrap64 (bt131.2 * 365)))) + (wrap64 (Int.tdiv bt131.2 4)))) - (wrap64 (Int.tdiv bt131.2 100)))) + (wrap64 (Int.tdiv (wrap64 ((wrap64 (153 * (wrap64 (a1 - 3)))) + 2)) 5)))) + a2)) - 1)) - 730425))))
set_option maxHeartbeats 8000000 in
set_option maxRecDepth 100000 in
theorem zC.calls (a0 : Int) (a1 : Int) (a2 : Int) (r : Int) (w : World) (h : zC.f a0 a1 a2 = some r) :
 Calls Tryz.prog 162 #[.int .i64 a0, .int .i64 a1, .int .i64 a2] w fun e w' => e = .returned (.int .i64 r) ∧ Drawn0 w w' := by
 have H : (if a1 ≤ 2 then ((bU.f (wrap64 (a0 - 1)) 400).bind fun bt129 => (some (wrap64 ((wrap64 ((wrap64 ((wrap64 ((wrap64 ((wrap64 ((wrap64 ((wrap64 (bt129.1 * 146097)) + (wrap64 (bt129.2 * 365)))) + (wrap64 (Int.tdiv bt129.2 4)))) - (wrap64 (Int.tdiv bt129.2 100)))) + (wrap64 (Int.tdiv (wrap64 ((wrap64 (153 * (wrap64 ((wrap64 (a1 + 12)) - 3)))) + 2)) 5)))) + a2)) - 1)) - 730425)))) else ((bU.f a0 400).bind fun bt131 => (some (wrap64 ((wrap64 ((wrap64 ((wrap64 ((wrap64 ((wrap64 ((wrap64 ((wrap64 (bt131.1 * 146097)) + (wrap64 (bt131.2 * 365)))) + (wrap64 (Int.tdiv bt131.2 4)))) - (wrap64 (Int.tdiv bt131.2 100)))) + (wrap64 (Int.tdiv (wrap64 ((wrap64 (153 * (wrap64 (a1 - 3)))) + 2)) 5)))) + a2)) - 1)) - 730425))))) = some r := h
 clear h
 by_cases c4 : a1 ≤ 2
 · rw [if_pos c4] at H
   have c4b0 : decide (a1 ≤ 2) = true := decide_eq_true c4
   clear c4
   replace H := Option.bind_eq_some_iff.mp H
   obtain ⟨⟨t129, t130⟩, A50, H⟩ := H
   replace H : (some (wrap64 ((wrap64 ((wrap64 ((wrap64 ((wrap64 ((wrap64 ((wrap64 ((wrap64 (t129 * 146097)) + (wrap64 (t130 * 365)))) + (wrap64 (Int.tdiv t130 4)))) - (wrap64 (Int.tdiv t130 100)))) + (wrap64 (Int.tdiv (wrap64 ((wrap64 (153 * (wrap64 ((wrap64 (a1 + 12)) - 3)))) + 2)) 5)))) + a2)) - 1)) - 730425))) = some r := H
   have A5 := Aside0.mk A50
   clear A50
   obtain rfl := Option.some.inj H
   go_enter Tryz.func162, Tryz.ntmps162
   go_wp2_with (first | ((with_reducible refine bC (f := 159) rfl ?_); refine jH (some 17) rfl rfl Tryz.func159 (by kernel_rfl) rfl #[.int .i64 (wrap64 (a0 - 1)), .int .i64 400] rfl (by (try simp only [List.map_toArray, List.map_cons, List.map_nil]); first | done | rfl | (simp only [List.length_drop, List.length_take]; rfl)) ?_; (with_reducible refine (bU.calls (wrap64 (a0 - 1)) 400 t129 t130 _ A5.out).mono ?_); rintro e w' ⟨rfl, ⟨nd, rfl⟩⟩; refine ⟨_, rfl, ?_⟩))
   go_ret
   exact ⟨by first | rfl | (simp; done) | (simp [*]; done), by repeat (first | exact Drawn0.refl _ | apply Drawn0.step)⟩
 · rw [if_neg c4] at H
   have c4b0 : decide (a1 ≤ 2) = false := decide_eq_false c4
   clear c4
   replace H := Option.bind_eq_some_iff.mp H
   obtain ⟨⟨t131, t132⟩, A60, H⟩ := H
   replace H : (some (wrap64 ((wrap64 ((wrap64 ((wrap64 ((wrap64 ((wrap64 ((wrap64 ((wrap64 (t131 * 146097)) + (wrap64 (t132 * 365)))) + (wrap64 (Int.tdiv t132 4)))) - (wrap64 (Int.tdiv t132 100)))) + (wrap64 (Int.tdiv (wrap64 ((wrap64 (153 * (wrap64 (a1 - 3)))) + 2)) 5)))) + a2)) - 1)) - 730425))) = some r := H
   have A6 := Aside0.mk A60
   clear A60
   obtain rfl := Option.some.inj H
   go_enter Tryz.func162, Tryz.ntmps162
   go_wp2_with (first | ((with_reducible refine bC (f := 159) rfl ?_); refine jH (some 17) rfl rfl Tryz.func159 (by kernel_rfl) rfl #[.int .i64 a0, .int .i64 400] rfl (by (try simp only [List.map_toArray, List.map_cons, List.map_nil]); first | done | rfl | (simp only [List.length_drop, List.length_take]; rfl)) ?_; (with_reducible refine (bU.calls a0 400 t131 t132 _ A6.out).mono ?_); rintro e w' ⟨rfl, ⟨nd, rfl⟩⟩; refine ⟨_, rfl, ?_⟩))
   go_ret
   exact ⟨by first | rfl | (simp; done) | (simp [*]; done), by repeat (first | exact Drawn0.refl _ | apply Drawn0.step)⟩
noncomputable def zC.con : Con
 | [.int .i64 a0, .int .i64 a1, .int .i64 a2] => some ((zC.f a0 a1 a2).isSome, .int .i64 (gd (zC.f a0 a1 a2)))
 | _ => none
set_option maxRecDepth 100000 in
theorem zC.cok : COk Tryz.prog 162 (zC.con) := by
 intro args p v hc hp w A hA
 unfold zC.con at hc
 split at hc
 · rename_i a0 a1 a2
   simp only [Option.some.injEq, Prod.mk.injEq] at hc
   obtain ⟨rfl, rfl⟩ := hc
   rcases hf : zC.f a0 a1 a2 with _ | r
   · rw [hf] at hp; cases hp
   obtain rfl : A = [.int .i64 a0, .int .i64 a1, .int .i64 a2] := by simpa [kG, kL, kM, kN, kZ, kV, jP] using hA
   exact kK (fn := Tryz.f162) Tryz.func162 (by kernel_rfl) (by kernel_rfl) (zC.calls _ _ _ _ w hf) (fun _ => by simp [kH, kG, kL, kM, kN, kZ, kV, bK]) (fun _ h => h.below)
 · cases hc
def civil_First.f  : Option (Int) := (zC.f (-4718) 1 1).bind fun t133 => (some t133)
set_option maxHeartbeats 8000000 in
set_option maxRecDepth 100000 in
theorem civil_First.calls  (r : Int) (w : World) (h : civil_First.f  = some r) :
 Calls Tryz.prog 128 #[] w fun e w' => e = .returned (.int .i64 r) ∧ Drawn0 w w' := by
 have H : ((zC.f (-4718) 1 1).bind fun t133 => (some t133)) = some r := h
 clear h
 replace H := Option.bind_eq_some_iff.mp H
 obtain ⟨t133, A10, H⟩ := H
 replace H : (some t133) = some r := H
 have A1 := Aside0.mk A10
 clear A10
 obtain rfl := Option.some.inj H
 go_enter Tryz.func128, Tryz.ntmps128
 go_wp2_with (first | ((with_reducible refine bC (f := 162) rfl ?_); refine jH (some 1) rfl rfl Tryz.func162 (by kernel_rfl) rfl #[.int .i64 (-4718), .int .i64 1, .int .i64 1] rfl (by (try simp only [List.map_toArray, List.map_cons, List.map_nil]); first | done | rfl | (simp only [List.length_drop, List.length_take]; rfl)) ?_; (with_reducible refine (zC.calls (-4718) 1 1 t133 _ A1.out).mono ?_); rintro e w' ⟨rfl, ⟨nd, rfl⟩⟩; refine ⟨_, rfl, ?_⟩))
 go_ret
 exact ⟨by first | rfl | (simp; done) | (simp [*]; done), by repeat (first | exact Drawn0.refl _ | apply Drawn0.step)⟩
def civil_Last.f  : Option (Int) := (zC.f 294282 12 31).bind fun t134 => (some t134)
set_option maxHeartbeats 8000000 in
set_option maxRecDepth 100000 in
theorem civil_Last.calls  (r : Int) (w : World) (h : civil_Last.f  = some r) :
 Calls Tryz.prog 129 #[] w fun e w' => e = .returned (.int .i64 r) ∧ Drawn0 w w' := by
 have H : ((zC.f 294282 12 31).bind fun t134 => (some t134)) = some r := h
 clear h
 replace H := Option.bind_eq_some_iff.mp H
 obtain ⟨t134, A10, H⟩ := H
 replace H : (some t134) = some r := H
 have A1 := Aside0.mk A10
 clear A10
 obtain rfl := Option.some.inj H
 go_enter Tryz.func129, Tryz.ntmps129
 go_wp2_with (first | ((with_reducible refine bC (f := 162) rfl ?_); refine jH (some 1) rfl rfl Tryz.func162 (by kernel_rfl) rfl #[.int .i64 294282, .int .i64 12, .int .i64 31] rfl (by (try simp only [List.map_toArray, List.map_cons, List.map_nil]); first | done | rfl | (simp only [List.length_drop, List.length_take]; rfl)) ?_; (with_reducible refine (zC.calls 294282 12 31 t134 _ A1.out).mono ?_); rintro e w' ⟨rfl, ⟨nd, rfl⟩⟩; refine ⟨_, rfl, ?_⟩))
 go_ret
 exact ⟨by first | rfl | (simp; done) | (simp [*]; done), by repeat (first | exact Drawn0.refl _ | apply Drawn0.step)⟩
def zE.f (a0 : Int) : Option (Bool) := (civil_First.f).bind fun t135 => (if a0 ≥ t135 then ((civil_Last.f).bind fun t136 => (some (decide (a0 ≤ t136)))) else (some false))
set_option maxHeartbeats 8000000 in
set_option maxRecDepth 100000 in
theorem zE.calls (a0 : Int) (r : Bool) (w : World) (h : zE.f a0 = some r) :
 Calls Tryz.prog 157 #[.int .i64 a0] w fun e w' => e = .returned (.bool r) ∧ Drawn0 w w' := by
 have H : ((civil_First.f).bind fun t135 => (if a0 ≥ t135 then ((civil_Last.f).bind fun t136 => (some (decide (a0 ≤ t136)))) else (some false))) = some r := h
 clear h
 replace H := Option.bind_eq_some_iff.mp H
 obtain ⟨t135, A20, H⟩ := H
 replace H : (if a0 ≥ t135 then ((civil_Last.f).bind fun t136 => (some (decide (a0 ≤ t136)))) else (some false)) = some r := H
 have A2 := Aside0.mk A20
 clear A20
 by_cases c3 : a0 ≥ t135
 · rw [if_pos c3] at H
   have c3b0 : decide (t135 ≤ a0) = true := decide_eq_true c3
   clear c3
   replace H := Option.bind_eq_some_iff.mp H
   obtain ⟨t136, A40, H⟩ := H
   replace H : (some (decide (a0 ≤ t136))) = some r := H
   have A4 := Aside0.mk A40
   clear A40
   obtain rfl := Option.some.inj H
   go_enter Tryz.func157, Tryz.ntmps157
   go_wp2_with (first | ((with_reducible refine bC (f := 128) rfl ?_); refine jH (some 4) rfl rfl Tryz.func128 (by kernel_rfl) rfl #[] rfl (by (try simp only [List.map_toArray, List.map_cons, List.map_nil]); first | done | rfl | (simp only [List.length_drop, List.length_take]; rfl)) ?_; (with_reducible refine (civil_First.calls  t135 _ A2.out).mono ?_); rintro e w' ⟨rfl, ⟨nd, rfl⟩⟩; refine ⟨_, rfl, ?_⟩) | (go_at_call 129; (with_reducible refine (civil_Last.calls  t136 _ A4.out).mono ?_); rintro e w' ⟨rfl, ⟨nd, rfl⟩⟩))
   go_ret
   exact ⟨by first | rfl | (simp; done) | (simp [*]; done), by repeat (first | exact Drawn0.refl _ | apply Drawn0.step)⟩
 · rw [if_neg c3] at H
   have c3b0 : decide (t135 ≤ a0) = false := decide_eq_false c3
   clear c3
   obtain rfl := Option.some.inj H
   go_enter Tryz.func157, Tryz.ntmps157
   go_wp2_with (first | ((with_reducible refine bC (f := 128) rfl ?_); refine jH (some 4) rfl rfl Tryz.func128 (by kernel_rfl) rfl #[] rfl (by (try simp only [List.map_toArray, List.map_cons, List.map_nil]); first | done | rfl | (simp only [List.length_drop, List.length_take]; rfl)) ?_; (with_reducible refine (civil_First.calls  t135 _ A2.out).mono ?_); rintro e w' ⟨rfl, ⟨nd, rfl⟩⟩; refine ⟨_, rfl, ?_⟩))
   go_ret
   exact ⟨by first | rfl | (simp; done) | (simp [*]; done), by repeat (first | exact Drawn0.refl _ | apply Drawn0.step)⟩
noncomputable def zE.con : Con
 | [.int .i64 a0] => some ((zE.f a0).isSome, .bool (gd (zE.f a0)))
 | _ => none
set_option maxRecDepth 100000 in
theorem zE.cok : COk Tryz.prog 157 (zE.con) := by
 intro args p v hc hp w A hA
 unfold zE.con at hc
 split at hc
 · rename_i a0
   simp only [Option.some.injEq, Prod.mk.injEq] at hc
   obtain ⟨rfl, rfl⟩ := hc
   rcases hf : zE.f a0 with _ | r
   · rw [hf] at hp; cases hp
   obtain rfl : A = [.int .i64 a0] := by simpa [kG, kL, kM, kN, kZ, kV, jP] using hA
   exact kK (fn := Tryz.f157) Tryz.func157 (by kernel_rfl) (by kernel_rfl) (zE.calls _ _ w hf) (fun _ => by simp [kH, kG, kL, kM, kN, kZ, kV, bK]) (fun _ h => h.below)
 · cases hc
end Go.Proofs.YtimgphlfaninnaaGreat.P
namespace Go.Proofs.YtimgphlfaninnaaGreat.P
open Go.RowKit Go.Proofs.YtimgphlfaninnaaGreatW.PrintWords Go.Proofs.YtimgphlfaninnaaGreatW.PrintLast Go.Proofs.YtimgphlfaninnaaGreatW.PrintMore
 attribute [local go_sem] bR bQ jC jB bL bM bP bS
set_option linter.unusedVariables false
set_option linter.unusedSimpArgs false
theorem eqA36 (d : Nat) (w : World) (x0 y0 : Int) (x1 y1 : Int) :
 (Op.equalIn (d + 2) 36 (.agg #[.int .i64 x0, .int .i64 x1]) (.agg #[.int .i64 y0, .int .i64 y1])).run Tryz.prog w = .ok (x0 == y0 && (x1 == y1)) w := by
 refine eqA_of Tryz.underlying36 (by kernel_rfl) ?_
 refine eqf_cons (by rfl) (by go_simp; rfl) (by go_simp; rfl) (by go_simp) ?_
 exact eqf_last (by rfl) (by go_simp; rfl) (by go_simp; rfl) (by go_simp)
end Go.Proofs.YtimgphlfaninnaaGreat.P
namespace Go.Proofs.YtimgphlfaninnaaGreat.P
open Go.RowKit Go.Proofs.YtimgphlfaninnaaGreatW.PrintWords Go.Proofs.YtimgphlfaninnaaGreatW.PrintLast Go.Proofs.YtimgphlfaninnaaGreatW.PrintMore
open Go.Proofs.YtimgphlfaninnaaGreat.A
 attribute [local go_sem] bR bQ jC jB bL bM bP bS
set_option linter.unusedVariables false
set_option linter.unusedSimpArgs false
attribute [local go_sem high] eqA36
def jD.f (a0 : Int) : Option (Int × Int × Int) := (bU.f (wrap64 (a0 + 730425)) 146097).bind fun bt137 => (if (wrap64 (Int.tdiv (wrap64 ((wrap64 (5 * (wrap64 ((wrap64 ((wrap64 (bt137.2 - (wrap64 ((mn (wrap64 (Int.tdiv bt137.2 36524)) 3) * 36524)))) - (wrap64 ((wrap64 (Int.tdiv (wrap64 (bt137.2 - (wrap64 ((mn (wrap64 (Int.tdiv bt137.2 36524)) 3) * 36524)))) 1461)) * 1461)))) - (wrap64 ((mn (wrap64 (Int.tdiv (wrap64 ((wrap64 (bt137.2 - (wrap64 ((mn (wrap64 (Int.tdiv bt137.2 36524)) 3) * 36524)))) - (wrap64 ((wrap64 (Int.tdiv (wrap64 (bt137.2 - (wrap64 ((mn (wrap64 (Int.tdiv bt137.2 36524)) 3) * 36524)))) 1461)) * 1461)))) 365)) 3) * 365)))))) + 2)) 153)) ≥ 10 then (some (wrap64 ((wrap64 ((wrap64 ((wrap64 ((wrap64 (bt137.1 * 400)) + (wrap64 ((mn (wrap64 (Int.tdiv bt137.2 36524)) 3) * 100)))) + (wrap64 ((wrap64 (Int.tdiv (wrap64 (bt137.2 - (wrap64 ((mn (wrap64 (Int.tdiv bt137.2 36524)) 3) * 36524)))) 1461)) * 4)))) + (mn (wrap64 (Int.tdiv (wrap64 ((wrap64 (bt137.2 - (wrap64 ((mn (wrap64 (Int.tdiv bt137.2 36524)) 3) * 36524)))) - (wrap64 ((wrap64 (Int.tdiv (wrap64 (bt137.2 - (wrap64 ((mn (wrap64 (Int.tdiv bt137.2 36524)) 3) * 36524)))) 1461)) * 1461)))) 365)) 3))) + 1), wrap64 ((wrap64 (Int.tdiv (wrap64 ((wrap64 (5 * (wrap64 ((wrap64 ((wrap64 (bt137.2 - (wrap64 ((mn (wrap64 (Int.tdiv bt137.2 36524)) 3) * 36524)))) - (wrap64 ((wrap64 (Int.tdiv (wrap64 (bt137.2 - (wrap64 ((mn (wrap64 (Int.tdiv bt137.2 36524)) 3) * 36524)))) 1461)) * 1461)))) - (wrap64 ((mn (wrap64 (Int.tdiv (wrap64 ((wrap64 (bt137.2 - (wrap64 ((mn (wrap64 (Int.tdiv bt137.2 36524)) 3) * 36524)))) - (wrap64 ((wrap64 (Int.tdiv (wrap64 (bt137.2 - (wrap64 ((mn (wrap64 (Int.tdiv bt137.2 36524)) 3) * 36524)))) 1461)) * 1461)))) 365)) 3) * 365)))))) + 2)) 153)) - 9), wrap64 ((wrap64 ((wrap64 ((wrap64 ((wrap64 (bt137.2 - (wrap64 ((mn (wrap64 (Int.tdiv bt137.2 36524)) 3) * 36524)))) - (wrap64 ((wrap64 (Int.tdiv (wrap64 (bt137.2 - (wrap64 ((mn (wrap64 (Int.tdiv bt137.2 36524)) 3) * 36524)))) 1461)) * 1461)))) - (wrap64 ((mn (wrap64 (Int.tdiv (wrap64 ((wrap64 (bt137.2 - (wrap64 ((mn (wrap64 (Int.tdiv bt137.2 36524)) 3) * 36524)))) - (wrap64 ((wrap64 (Int.tdiv (wrap64 (bt137.2 - (wrap64 ((mn (wrap64 (Int.tdiv bt137.2 36524)) 3) * 36524)))) 1461)) * 1461)))) 365)) 3) * 365)))) - (wrap64 (Int.tdiv (wrap64 ((wrap64 (153 * (wrap64 (Int.tdiv (wrap64 ((wrap64 (5 * (wrap64 ((wrap64 ((wrap64 (bt137.2 - (wrap64 ((mn (wrap64 (Int.tdiv bt137.2 36524)) 3) * 36524)))) - (wrap64 ((wrap64 (Int.tdiv (wrap64 (bt137.2 - (wrap64 ((mn (wrap64 (Int.tdiv bt137.2 36524)) 3) * 36524)))) 1461)) * 1461)))) - (wrap64 ((mn (wrap64 (Int.tdiv (wrap64 ((wrap64 (bt137.2 - (wrap64 ((mn (wrap64 (Int.tdiv bt137.2 36524)) 3) * 36524)))) - (wrap64 ((wrap64 (Int.tdiv (wrap64 (bt137.2 - (wrap64 ((mn (wrap64 (Int.tdiv bt137.2 36524)) 3) * 36524)))) 1461)) * 1461)))) 365)) 3) * 365)))))) + 2)) 153)))) + 2)) 5)))) + 1))) else (some (wrap64 ((wrap64 ((wrap64 ((wrap64 (bt137.1 * 400)) + (wrap64 ((mn (wrap64 (Int.tdiv bt137.2 36524)) 3) * 100)))) + (wrap64 ((wrap64 (Int.tdiv (wrap64 (bt137.2 - (wrap64 ((mn (wrap64 (Int.tdiv bt137.2 36524)) 3) * 36524)))) 1461)) * 4)))) + (mn (wrap64 (Int.tdiv (wrap64 ((wrap64 (bt137.2 - (wrap64 ((mn (wrap64 (Int.tdiv bt137.2 36524)) 3) * 36524)))) - (wrap64 ((wrap64 (Int.tdiv (wrap64 (bt137.2 - (wrap64 ((mn (wrap64 (Int.tdiv bt137.2 36524)) 3) * 36524)))) 1461)) * 1461)))) 365)) 3)), wrap64 ((wrap64 (Int.tdiv (wrap64 ((wrap64 (5 * (wrap64 ((wrap64 ((wrap64 (bt137.2 - (wrap64 ((mn (wrap64 (Int.tdiv bt137.2 36524)) 3) * 36524)))) - (wrap64 ((wrap64 (Int.tdiv (wrap64 (bt137.2 - (wrap64 ((mn (wrap64 (Int.tdiv bt137.2 36524)) 3) * 36524)))) 1461)) * 1461)))) - (wrap64 ((mn (wrap64 (Int.tdiv (wrap64 ((wrap64 (bt137.2 - (wrap64 ((mn (wrap64 (Int.tdiv bt137.2 36524)) 3) * 36524)))) - (wrap64 ((wrap64 (Int.tdiv (wrap64 (bt137.2 - (wrap64 ((mn (wrap64 (Int.tdiv bt137.2 36524)) 3) * 36524)))) 1461)) * 1461)))) 365)) 3) * 365)))))) + 2)) 153)) + 3), wrap64 ((wrap64 ((wrap64 ((wrap64 ((wrap64 (bt137.2 - (wrap64 ((mn (wrap64 (Int.tdiv bt137.2 36524)) 3) * 36524)))) - (wrap64 ((wrap64 (Int.tdiv (wrap64 (bt137.2 - (wrap64 ((mn (wrap64 (Int.tdiv bt137.2 36524)) 3) * 36524)))) 1461)) * 1461)))) - (wrap64 ((mn (wrap64 (Int.tdiv (wrap64 ((wrap64 (bt137.2 - (wrap64 ((mn (wrap64 (Int.tdiv bt137.2 36524)) 3) * 36524)))) - (wrap64 ((wrap64 (Int.tdiv (wrap64 (bt137.2 - (wrap64 ((mn (wrap64 (Int.tdiv bt137.2 36524)) 3) * 36524)))) 1461)) * 1461)))) 365)) 3) * 365)))) - (wrap64 (Int.tdiv (wrap64 ((wrap64 (153 * (wrap64 (Int.tdiv (wrap64 ((wrap64 (5 * (wrap64 ((wrap64 ((wrap64 (bt137.2 - (wrap64 ((mn (wrap64 (Int.tdiv bt137.2 36524)) 3) * 36524)))) - (wrap64 ((wrap64 (Int.tdiv (wrap64 (bt137.2 - (wrap64 ((mn (wrap64 (Int.tdiv bt137.2 36524)) 3) * 36524)))) 1461)) * 1461)))) - (wrap64 ((mn (wrap64 (Int.tdiv (wrap64 ((wrap64 (bt137.2 - (wrap64 ((mn (wrap64 (Int.tdiv bt137.2 36524)) 3) * 36524)))) - (wrap64 ((wrap64 (Int.tdiv (wrap64 (bt137.2 - (wrap64 ((mn (wrap64 (Int.tdiv bt137.2 36524)) 3) * 36524)))) 1461)) * 1461)))) 365)) 3) * 365)))))) + 2)) 153)))) + 2)) 5)))) + 1))))
set_option maxHeartbeats 8000000 in
set_option maxRecDepth 100000 in
theorem jD.calls (a0 : Int) (r1 : Int) (r2 : Int) (r3 : Int) (w : World) (h : jD.f a0 = some (r1, r2, r3)) :
 Calls Tryz.prog 158 #[.int .i64 a0] w fun e w' => e = .returned (.tuple #[.int .i64 r1, .int .i64 r2, .int .i64 r3]) ∧ Below w.heap.size w w' := by
 have HB := Aside0.mk (Below.refl w.heap.size w)
 have H : ((bU.f (wrap64 (a0 + 730425)) 146097).bind fun bt137 => (if (wrap64 (Int.tdiv (wrap64 ((wrap64 (5 * (wrap64 ((wrap64 ((wrap64 (bt137.2 - (wrap64 ((mn (wrap64 (Int.tdiv bt137.2 36524)) 3) * 36524)))) - (wrap64 ((wrap64 (Int.tdiv (wrap64 (bt137.2 - (wrap64 ((mn (wrap64 (Int.tdiv bt137.2 36524)) 3) * 36524)))) 1461)) * 1461)))) - (wrap64 ((mn (wrap64 (Int.tdiv (wrap64 ((wrap64 (bt137.2 - (wrap64 ((mn (wrap64 (Int.tdiv bt137.2 36524)) 3) * 36524)))) - (wrap64 ((wrap64 (Int.tdiv (wrap64 (bt137.2 - (wrap64 ((mn (wrap64 (Int.tdiv bt137.2 36524)) 3) * 36524)))) 1461)) * 1461)))) 365)) 3) * 365)))))) + 2)) 153)) ≥ 10 then (some (wrap64 ((wrap64 ((wrap64 ((wrap64 ((wrap64 (bt137.1 * 400)) + (wrap64 ((mn (wrap64 (Int.tdiv bt137.2 36524)) 3) * 100)))) + (wrap64 ((wrap64 (Int.tdiv (wrap64 (bt137.2 - (wrap64 ((mn (wrap64 (Int.tdiv bt137.2 36524)) 3) * 36524)))) 1461)) * 4)))) + (mn (wrap64 (Int.tdiv (wrap64 ((wrap64 (bt137.2 - (wrap64 ((mn (wrap64 (Int.tdiv bt137.2 36524)) 3) * 36524)))) - (wrap64 ((wrap64 (Int.tdiv (wrap64 (bt137.2 - (wrap64 ((mn (wrap64 (Int.tdiv bt137.2 36524)) 3) * 36524)))) 1461)) * 1461)))) 365)) 3))) + 1), wrap64 ((wrap64 (Int.tdiv (wrap64 ((wrap64 (5 * (wrap64 ((wrap64 ((wrap64 (bt137.2 - (wrap64 ((mn (wrap64 (Int.tdiv bt137.2 36524)) 3) * 36524)))) - (wrap64 ((wrap64 (Int.tdiv (wrap64 (bt137.2 - (wrap64 ((mn (wrap64 (Int.tdiv bt137.2 36524)) 3) * 36524)))) 1461)) * 1461)))) - (wrap64 ((mn (wrap64 (Int.tdiv (wrap64 ((wrap64 (bt137.2 - (wrap64 ((mn (wrap64 (Int.tdiv bt137.2 36524)) 3) * 36524)))) - (wrap64 ((wrap64 (Int.tdiv (wrap64 (bt137.2 - (wrap64 ((mn (wrap64 (Int.tdiv bt137.2 36524)) 3) * 36524)))) 1461)) * 1461)))) 365)) 3) * 365)))))) + 2)) 153)) - 9), wrap64 ((wrap64 ((wrap64 ((wrap64 ((wrap64 (bt137.2 - (wrap64 ((mn (wrap64 (Int.tdiv bt137.2 36524)) 3) * 36524)))) - (wrap64 ((wrap64 (Int.tdiv (wrap64 (bt137.2 - (wrap64 ((mn (wrap64 (Int.tdiv bt137.2 36524)) 3) * 36524)))) 1461)) * 1461)))) - (wrap64 ((mn (wrap64 (Int.tdiv (wrap64 ((wrap64 (bt137.2 - (wrap64 ((mn (wrap64 (Int.tdiv bt137.2 36524)) 3) * 36524)))) - (wrap64 ((wrap64 (Int.tdiv (wrap64 (bt137.2 - (wrap64 ((mn (wrap64 (Int.tdiv bt137.2 36524)) 3) * 36524)))) 1461)) * 1461)))) 365)) 3) * 365)))) - (wrap64 (Int.tdiv (wrap64 ((wrap64 (153 * (wrap64 (Int.tdiv (wrap64 ((wrap64 (5 * (wrap64 ((wrap64 ((wrap64 (bt137.2 - (wrap64 ((mn (wrap64 (Int.tdiv bt137.2 36524)) 3) * 36524)))) - (wrap64 ((wrap64 (Int.tdiv (wrap64 (bt137.2 - (wrap64 ((mn (wrap64 (Int.tdiv bt137.2 36524)) 3) * 36524)))) 1461)) * 1461)))) - (wrap64 ((mn (wrap64 (Int.tdiv (wrap64 ((wrap64 (bt137.2 - (wrap64 ((mn (wrap64 (Int.tdiv bt137.2 36524)) 3) * 36524)))) - (wrap64 ((wrap64 (Int.tdiv (wrap64 (bt137.2 - (wrap64 ((mn (wrap64 (Int.tdiv bt137.2 36524)) 3) * 36524)))) 1461)) * 1461)))) 365)) 3) * 365)))))) + 2)) 153)))) + 2)) 5)))) + 1))) else (some (wrap64 ((wrap64 ((wrap64 ((wrap64 (bt137.1 * 400)) + (wrap64 ((mn (wrap64 (Int.tdiv bt137.2 36524)) 3) * 100)))) + (wrap64 ((wrap64 (Int.tdiv (wrap64 (bt137.2 - (wrap64 ((mn (wrap64 (Int.tdiv bt137.2 36524)) 3) * 36524)))) 1461)) * 4)))) + (mn (wrap64 (Int.tdiv (wrap64 ((wrap64 (bt137.2 - (wrap64 ((mn (wrap64 (Int.tdiv bt137.2 36524)) 3) * 36524)))) - (wrap64 ((wrap64 (Int.tdiv (wrap64 (bt137.2 - (wrap64 ((mn (wrap64 (Int.tdiv bt137.2 36524)) 3) * 36524)))) 1461)) * 1461)))) 365)) 3)), wrap64 ((wrap64 (Int.tdiv (wrap64 ((wrap64 (5 * (wrap64 ((wrap64 ((wrap64 (bt137.2 - (wrap64 ((mn (wrap64 (Int.tdiv bt137.2 36524)) 3) * 36524)))) - (wrap64 ((wrap64 (Int.tdiv (wrap64 (bt137.2 - (wrap64 ((mn (wrap64 (Int.tdiv bt137.2 36524)) 3) * 36524)))) 1461)) * 1461)))) - (wrap64 ((mn (wrap64 (Int.tdiv (wrap64 ((wrap64 (bt137.2 - (wrap64 ((mn (wrap64 (Int.tdiv bt137.2 36524)) 3) * 36524)))) - (wrap64 ((wrap64 (Int.tdiv (wrap64 (bt137.2 - (wrap64 ((mn (wrap64 (Int.tdiv bt137.2 36524)) 3) * 36524)))) 1461)) * 1461)))) 365)) 3) * 365)))))) + 2)) 153)) + 3), wrap64 ((wrap64 ((wrap64 ((wrap64 ((wrap64 (bt137.2 - (wrap64 ((mn (wrap64 (Int.tdiv bt137.2 36524)) 3) * 36524)))) - (wrap64 ((wrap64 (Int.tdiv (wrap64 (bt137.2 - (wrap64 ((mn (wrap64 (Int.tdiv bt137.2 36524)) 3) * 36524)))) 1461)) * 1461)))) - (wrap64 ((mn (wrap64 (Int.tdiv (wrap64 ((wrap64 (bt137.2 - (wrap64 ((mn (wrap64 (Int.tdiv bt137.2 36524)) 3) * 36524)))) - (wrap64 ((wrap64 (Int.tdiv (wrap64 (bt137.2 - (wrap64 ((mn (wrap64 (Int.tdiv bt137.2 36524)) 3) * 36524)))) 1461)) * 1461)))) 365)) 3) * 365)))) - (wrap64 (Int.tdiv (wrap64 ((wrap64 (153 * (wrap64 (Int.tdiv (wrap64 ((wrap64 (5 * (wrap64 ((wrap64 ((wrap64 (bt137.2 - (wrap64 ((mn (wrap64 (Int.tdiv bt137.2 36524)) 3) * 36524)))) - (wrap64 ((wrap64 (Int.tdiv (wrap64 (bt137.2 - (wrap64 ((mn (wrap64 (Int.tdiv bt137.2 36524)) 3) * 36524)))) 1461)) * 1461)))) - (wrap64 ((mn (wrap64 (Int.tdiv (wrap64 ((wrap64 (bt137.2 - (wrap64 ((mn (wrap64 (Int.tdiv bt137.2 36524)) 3) * 36524)))) - (wrap64 ((wrap64 (Int.tdiv (wrap64 (bt137.2 - (wrap64 ((mn (wrap64 (Int.tdiv bt137.2 36524)) 3) * 36524)))) 1461)) * 1461)))) 365)) 3) * 365)))))) + 2)) 153)))) + 2)) 5)))) + 1))))) = some (r1, r2, r3) := h
 clear h
 replace H := Option.bind_eq_some_iff.mp H
 obtain ⟨⟨t137, t138⟩, A20, H⟩ := H
 replace H : (if (wrap64 (Int.tdiv (wrap64 ((wrap64 (5 * (wrap64 ((wrap64 ((wrap64 (t138 - (wrap64 ((mn (wrap64 (Int.tdiv t138 36524)) 3) * 36524)))) - (wrap64 ((wrap64 (Int.tdiv (wrap64 (t138 - (wrap64 ((mn (wrap64 (Int.tdiv t138 36524)) 3) * 36524)))) 1461)) * 1461)))) - (wrap64 ((mn (wrap64 (Int.tdiv (wrap64 ((wrap64 (t138 - (wrap64 ((mn (wrap64 (Int.tdiv t138 36524)) 3) * 36524)))) - (wrap64 ((wrap64 (Int.tdiv (wrap64 (t138 - (wrap64 ((mn (wrap64 (Int.tdiv t138 36524)) 3) * 36524)))) 1461)) * 1461)))) 365)) 3) * 365)))))) + 2)) 153)) ≥ 10 then (some (wrap64 ((wrap64 ((wrap64 ((wrap64 ((wrap64 (t137 * 400)) + (wrap64 ((mn (wrap64 (Int.tdiv t138 36524)) 3) * 100)))) + (wrap64 ((wrap64 (Int.tdiv (wrap64 (t138 - (wrap64 ((mn (wrap64 (Int.tdiv t138 36524)) 3) * 36524)))) 1461)) * 4)))) + (mn (wrap64 (Int.tdiv (wrap64 ((wrap64 (t138 - (wrap64 ((mn (wrap64 (Int.tdiv t138 36524)) 3) * 36524)))) - (wrap64 ((wrap64 (Int.tdiv (wrap64 (t138 - (wrap64 ((mn (wrap64 (Int.tdiv t138 36524)) 3) * 36524)))) 1461)) * 1461)))) 365)) 3))) + 1), wrap64 ((wrap64 (Int.tdiv (wrap64 ((wrap64 (5 * (wrap64 ((wrap64 ((wrap64 (t138 - (wrap64 ((mn (wrap64 (Int.tdiv t138 36524)) 3) * 36524)))) - (wrap64 ((wrap64 (Int.tdiv (wrap64 (t138 - (wrap64 ((mn (wrap64 (Int.tdiv t138 36524)) 3) * 36524)))) 1461)) * 1461)))) - (wrap64 ((mn (wrap64 (Int.tdiv (wrap64 ((wrap64 (t138 - (wrap64 ((mn (wrap64 (Int.tdiv t138 36524)) 3) * 36524)))) - (wrap64 ((wrap64 (Int.tdiv (wrap64 (t138 - (wrap64 ((mn (wrap64 (Int.tdiv t138 36524)) 3) * 36524)))) 1461)) * 1461)))) 365)) 3) * 365)))))) + 2)) 153)) - 9), wrap64 ((wrap64 ((wrap64 ((wrap64 ((wrap64 (t138 - (wrap64 ((mn (wrap64 (Int.tdiv t138 36524)) 3) * 36524)))) - (wrap64 ((wrap64 (Int.tdiv (wrap64 (t138 - (wrap64 ((mn (wrap64 (Int.tdiv t138 36524)) 3) * 36524)))) 1461)) * 1461)))) - (wrap64 ((mn (wrap64 (Int.tdiv (wrap64 ((wrap64 (t138 - (wrap64 ((mn (wrap64 (Int.tdiv t138 36524)) 3) * 36524)))) - (wrap64 ((wrap64 (Int.tdiv (wrap64 (t138 - (wrap64 ((mn (wrap64 (Int.tdiv t138 36524)) 3) * 36524)))) 1461)) * 1461)))) 365)) 3) * 365)))) - (wrap64 (Int.tdiv (wrap64 ((wrap64 (153 * (wrap64 (Int.tdiv (wrap64 ((wrap64 (5 * (wrap64 ((wrap64 ((wrap64 (t138 - (wrap64 ((mn (wrap64 (Int.tdiv t138 36524)) 3) * 36524)))) - (wrap64 ((wrap64 (Int.tdiv (wrap64 (t138 - (wrap64 ((mn (wrap64 (Int.tdiv t138 36524)) 3) * 36524)))) 1461)) * 1461)))) - (wrap64 ((mn (wrap64 (Int.tdiv (wrap64 ((wrap64 (t138 - (wrap64 ((mn (wrap64 (Int.tdiv t138 36524)) 3) * 36524)))) - (wrap64 ((wrap64 (Int.tdiv (wrap64 (t138 - (wrap64 ((mn (wrap64 (Int.tdiv t138 36524)) 3) * 36524)))) 1461)) * 1461)))) 365)) 3) * 365)))))) + 2)) 153)))) + 2)) 5)))) + 1))) else (some (wrap64 ((wrap64 ((wrap64 ((wrap64 (t137 * 400)) + (wrap64 ((mn (wrap64 (Int.tdiv t138 36524)) 3) * 100)))) + (wrap64 ((wrap64 (Int.tdiv (wrap64 (t138 - (wrap64 ((mn (wrap64 (Int.tdiv t138 36524)) 3) * 36524)))) 1461)) * 4)))) + (mn (wrap64 (Int.tdiv (wrap64 ((wrap64 (t138 - (wrap64 ((mn (wrap64 (Int.tdiv t138 36524)) 3) * 36524)))) - (wrap64 ((wrap64 (Int.tdiv (wrap64 (t138 - (wrap64 ((mn (wrap64 (Int.tdiv t138 36524)) 3) * 36524)))) 1461)) * 1461)))) 365)) 3)), wrap64 ((wrap64 (Int.tdiv (wrap64 ((wrap64 (5 * (wrap64 ((wrap64 ((wrap64 (t138 - (wrap64 ((mn (wrap64 (Int.tdiv t138 36524)) 3) * 36524)))) - (wrap64 ((wrap64 (Int.tdiv (wrap64 (t138 - (wrap64 ((mn (wrap64 (Int.tdiv t138 36524)) 3) * 36524)))) 1461)) * 1461)))) - (wrap64 ((mn (wrap64 (Int.tdiv (wrap64 ((wrap64 (t138 - (wrap64 ((mn (wrap64 (Int.tdiv t138 36524)) 3) * 36524)))) - (wrap64 ((wrap64 (Int.tdiv (wrap64 (t138 - (wrap64 ((mn (wrap64 (Int.tdiv t138 36524)) 3) * 36524)))) 1461)) * 1461)))) 365)) 3) * 365)))))) + 2)) 153)) + 3), wrap64 ((wrap64 ((wrap64 ((wrap64 ((wrap64 (t138 - (wrap64 ((mn (wrap64 (Int.tdiv t138 36524)) 3) * 36524)))) - (wrap64 ((wrap64 (Int.tdiv (wrap64 (t138 - (wrap64 ((mn (wrap64 (Int.tdiv t138 36524)) 3) * 36524)))) 1461)) * 1461)))) - (wrap64 ((mn (wrap64 (Int.tdiv (wrap64 ((wrap64 (t138 - (wrap64 ((mn (wrap64 (Int.tdiv t138 36524)) 3) * 36524)))) - (wrap64 ((wrap64 (Int.tdiv (wrap64 (t138 - (wrap64 ((mn (wrap64 (Int.tdiv t138 36524)) 3) * 36524)))) 1461)) * 1461)))) 365)) 3) * 365)))) - (wrap64 (Int.tdiv (wrap64 ((wrap64 (153 * (wrap64 (Int.tdiv (wrap64 ((wrap64 (5 * (wrap64 ((wrap64 ((wrap64 (t138 - (wrap64 ((mn (wrap64 (Int.tdiv t138 36524)) 3) * 36524)))) - (wrap64 ((wrap64 (Int.tdiv (wrap64 (t138 - (wrap64 ((mn (wrap64 (Int.tdiv t138 36524)) 3) * 36524)))) 1461)) * 1461)))) - (wrap64 ((mn (wrap64 (Int.tdiv (wrap64 ((wrap64 (t138 - (wrap64 ((mn (wrap64 (Int.tdiv t138 36524)) 3) * 36524)))) - (wrap64 ((wrap64 (Int.tdiv (wrap64 (t138 - (wrap64 ((mn (wrap64 (Int.tdiv t138 36524)) 3) * 36524)))) 1461)) * 1461)))) 365)) 3) * 365)))))) + 2)) 153)))) + 2)) 5)))) + 1)))) = some (r1, r2, r3) := H
 have A2 := Aside0.mk A20
 clear A20
 obtain ⟨ji3, hji3⟩ : ∃ j_ : Int, (mn (wrap64 (Int.tdiv t138 36524)) 3) = j_ := ⟨_, rfl⟩
 replace H : (if (wrap64 (Int.tdiv (wrap64 ((wrap64 (5 * (wrap64 ((wrap64 ((wrap64 (t138 - (wrap64 ((ji3) * 36524)))) - (wrap64 ((wrap64 (Int.tdiv (wrap64 (t138 - (wrap64 ((ji3) * 36524)))) 1461)) * 1461)))) - (wrap64 ((mn (wrap64 (Int.tdiv (wrap64 ((wrap64 (t138 - (wrap64 ((ji3) * 36524)))) - (wrap64 ((wrap64 (Int.tdiv (wrap64 (t138 - (wrap64 ((ji3) * 36524)))) 1461)) * 1461)))) 365)) 3) * 365)))))) + 2)) 153)) ≥ 10 then (some (wrap64 ((wrap64 ((wrap64 ((wrap64 ((wrap64 (t137 * 400)) + (wrap64 ((ji3) * 100)))) + (wrap64 ((wrap64 (Int.tdiv (wrap64 (t138 - (wrap64 ((ji3) * 36524)))) 1461)) * 4)))) + (mn (wrap64 (Int.tdiv (wrap64 ((wrap64 (t138 - (wrap64 ((ji3) * 36524)))) - (wrap64 ((wrap64 (Int.tdiv (wrap64 (t138 - (wrap64 ((ji3) * 36524)))) 1461)) * 1461)))) 365)) 3))) + 1), wrap64 ((wrap64 (Int.tdiv (wrap64 ((wrap64 (5 * (wrap64 ((wrap64 ((wrap64 (t138 - (wrap64 ((ji3) * 36524)))) - (wrap64 ((wrap64 (Int.tdiv (wrap64 (t138 - (wrap64 ((ji3) * 36524)))) 1461)) * 1461)))) - (wrap64 ((mn (wrap64 (Int.tdiv (wrap64 ((wrap64 (t138 - (wrap64 ((ji3) * 36524)))) - (wrap64 ((wrap64 (Int.tdiv (wrap64 (t138 - (wrap64 ((ji3) * 36524)))) 1461)) * 1461)))) 365)) 3) * 365)))))) + 2)) 153)) - 9), wrap64 ((wrap64 ((wrap64 ((wrap64 ((wrap64 (t138 - (wrap64 ((ji3) * 36524)))) - (wrap64 ((wrap64 (Int.tdiv (wrap64 (t138 - (wrap64 ((ji3) * 36524)))) 1461)) * 1461)))) - (wrap64 ((mn (wrap64 (Int.tdiv (wrap64 ((wrap64 (t138 - (wrap64 ((ji3) * 36524)))) - (wrap64 ((wrap64 (Int.tdiv (wrap64 (t138 - (wrap64 ((ji3) * 36524)))) 1461)) * 1461)))) 365)) 3) * 365)))) - (wrap64 (Int.tdiv (wrap64 ((wrap64 (153 * (wrap64 (Int.tdiv (wrap64 ((wrap64 (5 * (wrap64 ((wrap64 ((wrap64 (t138 - (wrap64 ((ji3) * 36524)))) - (wrap64 ((wrap64 (Int.tdiv (wrap64 (t138 - (wrap64 ((ji3) * 36524)))) 1461)) * 1461)))) - (wrap64 ((mn (wrap64 (Int.tdiv (wrap64 ((wrap64 (t138 - (wrap64 ((ji3) * 36524)))) - (wrap64 ((wrap64 (Int.tdiv (wrap64 (t138 - (wrap64 ((ji3) * 36524)))) 1461)) * 1461)))) 365)) 3) * 365)))))) + 2)) 153)))) + 2)) 5)))) + 1))) else (some (wrap64 ((wrap64 ((wrap64 ((wrap64 (t137 * 400)) + (wrap64 ((ji3) * 100)))) + (wrap64 ((wrap64 (Int.tdiv (wrap64 (t138 - (wrap64 ((ji3) * 36524)))) 1461)) * 4)))) + (mn (wrap64 (Int.tdiv (wrap64 ((wrap64 (t138 - (wrap64 ((ji3) * 36524)))) - (wrap64 ((wrap64 (Int.tdiv (wrap64 (t138 - (wrap64 ((ji3) * 36524)))) 1461)) * 1461)))) 365)) 3)), wrap64 ((wrap64 (Int.tdiv (wrap64 ((wrap64 (5 * (wrap64 ((wrap64 ((wrap64 (t138 - (wrap64 ((ji3) * 36524)))) - (wrap64 ((wrap64 (Int.tdiv (wrap64 (t138 - (wrap64 ((ji3) * 36524)))) 1461)) * 1461)))) - (wrap64 ((mn (wrap64 (Int.tdiv (wrap64 ((wrap64 (t138 - (wrap64 ((ji3) * 36524)))) - (wrap64 ((wrap64 (Int.tdiv (wrap64 (t138 - (wrap64 ((ji3) * 36524)))) 1461)) * 1461)))) 365)) 3) * 365)))))) + 2)) 153)) + 3), wrap64 ((wrap64 ((wrap64 ((wrap64 ((wrap64 (t138 - (wrap64 ((ji3) * 36524)))) - (wrap64 ((wrap64 (Int.tdiv (wrap64 (t138 - (wrap64 ((ji3) * 36524)))) 1461)) * 1461)))) - (wrap64 ((mn (wrap64 (Int.tdiv (wrap64 ((wrap64 (t138 - (wrap64 ((ji3) * 36524)))) - (wrap64 ((wrap64 (Int.tdiv (wrap64 (t138 - (wrap64 ((ji3) * 36524)))) 1461)) * 1461)))) 365)) 3) * 365)))) - (wrap64 (Int.tdiv (wrap64 ((wrap64 (153 * (wrap64 (Int.tdiv (wrap64 ((wrap64 (5 * (wrap64 ((wrap64 ((wrap64 (t138 - (wrap64 ((ji3) * 36524)))) - (wrap64 ((wrap64 (Int.tdiv (wrap64 (t138 - (wrap64 ((ji3) * 36524)))) 1461)) * 1461)))) - (wrap64 ((mn (wrap64 (Int.tdiv (wrap64 ((wrap64 (t138 - (wrap64 ((ji3) * 36524)))) - (wrap64 ((wrap64 (Int.tdiv (wrap64 (t138 - (wrap64 ((ji3) * 36524)))) 1461)) * 1461)))) 365)) 3) * 365)))))) + 2)) 153)))) + 2)) 5)))) + 1)))) = some (r1, r2, r3) := by first | (rw [hji3] at H; exact H) | (simp only [hji3] at H ⊢; exact H)
 (try rw [hji3] at A2)
 (try (have hji3h : ji3 ≤ 3 := by (rw [← hji3]; unfold mn; (repeat' split) <;> omega)))
 (try (have hji3g : ji3 ≤ 64 := by omega))
 have hji3_ : (if 3 < (wrap64 (Int.tdiv t138 36524)) then 3 else (wrap64 (Int.tdiv t138 36524))) = ji3 := hji3
 obtain ⟨ji4, hji4⟩ : ∃ j_ : Int, (mn (wrap64 (Int.tdiv (wrap64 ((wrap64 (t138 - (wrap64 ((ji3) * 36524)))) - (wrap64 ((wrap64 (Int.tdiv (wrap64 (t138 - (wrap64 ((ji3) * 36524)))) 1461)) * 1461)))) 365)) 3) = j_ := ⟨_, rfl⟩
 replace H : (if (wrap64 (Int.tdiv (wrap64 ((wrap64 (5 * (wrap64 ((wrap64 ((wrap64 (t138 - (wrap64 ((ji3) * 36524)))) - (wrap64 ((wrap64 (Int.tdiv (wrap64 (t138 - (wrap64 ((ji3) * 36524)))) 1461)) * 1461)))) - (wrap64 ((ji4) * 365)))))) + 2)) 153)) ≥ 10 then (some (wrap64 ((wrap64 ((wrap64 ((wrap64 ((wrap64 (t137 * 400)) + (wrap64 ((ji3) * 100)))) + (wrap64 ((wrap64 (Int.tdiv (wrap64 (t138 - (wrap64 ((ji3) * 36524)))) 1461)) * 4)))) + (ji4))) + 1), wrap64 ((wrap64 (Int.tdiv (wrap64 ((wrap64 (5 * (wrap64 ((wrap64 ((wrap64 (t138 - (wrap64 ((ji3) * 36524)))) - (wrap64 ((wrap64 (Int.tdiv (wrap64 (t138 - (wrap64 ((ji3) * 36524)))) 1461)) * 1461)))) - (wrap64 ((ji4) * 365)))))) + 2)) 153)) - 9), wrap64 ((wrap64 ((wrap64 ((wrap64 ((wrap64 (t138 - (wrap64 ((ji3) * 36524)))) - (wrap64 ((wrap64 (Int.tdiv (wrap64 (t138 - (wrap64 ((ji3) * 36524)))) 1461)) * 1461)))) - (wrap64 ((ji4) * 365)))) - (wrap64 (Int.tdiv (wrap64 ((wrap64 (153 * (wrap64 (Int.tdiv (wrap64 ((wrap64 (5 * (wrap64 ((wrap64 ((wrap64 (t138 - (wrap64 ((ji3) * 36524)))) - (wrap64 ((wrap64 (Int.tdiv (wrap64 (t138 - (wrap64 ((ji3) * 36524)))) 1461)) * 1461)))) - (wrap64 ((ji4) * 365)))))) + 2)) 153)))) + 2)) 5)))) + 1))) else (some (wrap64 ((wrap64 ((wrap64 ((wrap64 (t137 * 400)) + (wrap64 ((ji3) * 100)))) + (wrap64 ((wrap64 (Int.tdiv (wrap64 (t138 - (wrap64 ((ji3) * 36524)))) 1461)) * 4)))) + (ji4)), wrap64 ((wrap64 (Int.tdiv (wrap64 ((wrap64 (5 * (wrap64 ((wrap64 ((wrap64 (t138 - (wrap64 ((ji3) * 36524)))) - (wrap64 ((wrap64 (Int.tdiv (wrap64 (t138 - (wrap64 ((ji3) * 36524)))) 1461)) * 1461)))) - (wrap64 ((ji4) * 365)))))) + 2)) 153)) + 3), wrap64 ((wrap64 ((wrap64 ((wrap64 ((wrap64 (t138 - (wrap64 ((ji3) * 36524)))) - (wrap64 ((wrap64 (Int.tdiv (wrap64 (t138 - (wrap64 ((ji3) * 36524)))) 1461)) * 1461)))) - (wrap64 ((ji4) * 365)))) - (wrap64 (Int.tdiv (wrap64 ((wrap64 (153 * (wrap64 (Int.tdiv (wrap64 ((wrap64 (5 * (wrap64 ((wrap64 ((wrap64 (t138 - (wrap64 ((ji3) * 36524)))) - (wrap64 ((wrap64 (Int.tdiv (wrap64 (t138 - (wrap64 ((ji3) * 36524)))) 1461)) * 1461)))) - (wrap64 ((ji4) * 365)))))) + 2)) 153)))) + 2)) 5)))) + 1)))) = some (r1, r2, r3) := by first | (rw [hji4] at H; exact H) | (simp only [hji4] at H ⊢; exact H)
 (try rw [hji4] at A2)
 have hji4_ : (if 3 < (wrap64 (Int.tdiv (wrap64 ((wrap64 (t138 - (wrap64 ((ji3) * 36524)))) - (wrap64 ((wrap64 (Int.tdiv (wrap64 (t138 - (wrap64 ((ji3) * 36524)))) 1461)) * 1461)))) 365)) then 3 else (wrap64 (Int.tdiv (wrap64 ((wrap64 (t138 - (wrap64 ((ji3) * 36524)))) - (wrap64 ((wrap64 (Int.tdiv (wrap64 (t138 - (wrap64 ((ji3) * 36524)))) 1461)) * 1461)))) 365))) = ji4 := hji4
 by_cases c5 : (wrap64 (Int.tdiv (wrap64 ((wrap64 (5 * (wrap64 ((wrap64 ((wrap64 (t138 - (wrap64 ((ji3) * 36524)))) - (wrap64 ((wrap64 (Int.tdiv (wrap64 (t138 - (wrap64 ((ji3) * 36524)))) 1461)) * 1461)))) - (wrap64 ((ji4) * 365)))))) + 2)) 153)) ≥ 10
 · rw [if_pos c5] at H
   have c5b0 : decide (10 ≤ (wrap64 (Int.tdiv (wrap64 ((wrap64 (5 * (wrap64 ((wrap64 ((wrap64 (t138 - (wrap64 ((ji3) * 36524)))) - (wrap64 ((wrap64 (Int.tdiv (wrap64 (t138 - (wrap64 ((ji3) * 36524)))) 1461)) * 1461)))) - (wrap64 ((ji4) * 365)))))) + 2)) 153))) = true := decide_eq_true c5
   clear c5
   simp only [Option.some.injEq, Prod.mk.injEq] at H
   obtain ⟨rfl, rfl, rfl⟩ := H
   go_enter Tryz.func158, Tryz.ntmps158
   go_wp2_with (first | ((with_reducible refine bC (f := 159) rfl ?_); refine jH (some 16) rfl rfl Tryz.func159 (by kernel_rfl) rfl #[.int .i64 (wrap64 (a0 + 730425)), .int .i64 146097] rfl (by (try simp only [List.map_toArray, List.map_cons, List.map_nil]); first | done | rfl | (simp only [List.length_drop, List.length_take]; rfl)) ?_; (with_reducible refine (bU.calls (wrap64 (a0 + 730425)) 146097 t137 t138 _ A2.out).mono ?_); rintro e w' ⟨rfl, ⟨nd, rfl⟩⟩; refine ⟨_, rfl, ?_⟩))
   go_ret3
   exact ⟨by first | rfl | (simp [errW_none, errW_some] <;> rfl) | (simp only [← hji3, ← hji4]; first | rfl | (simp [errW_none, errW_some] <;> rfl)) | (simp [*, errW_none, errW_some] <;> rfl), by repeat (first | (with_reducible first | exact HB.out | apply below_alloc | apply zG | apply below_drew1) | exact HB.out)⟩
 · rw [if_neg c5] at H
   have c5b0 : decide (10 ≤ (wrap64 (Int.tdiv (wrap64 ((wrap64 (5 * (wrap64 ((wrap64 ((wrap64 (t138 - (wrap64 ((ji3) * 36524)))) - (wrap64 ((wrap64 (Int.tdiv (wrap64 (t138 - (wrap64 ((ji3) * 36524)))) 1461)) * 1461)))) - (wrap64 ((ji4) * 365)))))) + 2)) 153))) = false := decide_eq_false c5
   clear c5
   simp only [Option.some.injEq, Prod.mk.injEq] at H
   obtain ⟨rfl, rfl, rfl⟩ := H
   go_enter Tryz.func158, Tryz.ntmps158
   go_wp2_with (first | ((with_reducible refine bC (f := 159) rfl ?_); refine jH (some 16) rfl rfl Tryz.func159 (by kernel_rfl) rfl #[.int .i64 (wrap64 (a0 + 730425)), .int .i64 146097] rfl (by (try simp only [List.map_toArray, List.map_cons, List.map_nil]); first | done | rfl | (simp only [List.length_drop, List.length_take]; rfl)) ?_; (with_reducible refine (bU.calls (wrap64 (a0 + 730425)) 146097 t137 t138 _ A2.out).mono ?_); rintro e w' ⟨rfl, ⟨nd, rfl⟩⟩; refine ⟨_, rfl, ?_⟩))
   go_ret3
   exact ⟨by first | rfl | (simp [errW_none, errW_some] <;> rfl) | (simp only [← hji3, ← hji4]; first | rfl | (simp [errW_none, errW_some] <;> rfl)) | (simp [*, errW_none, errW_some] <;> rfl), by repeat (first | (with_reducible first | exact HB.out | apply below_alloc | apply zG | apply below_drew1) | exact HB.out)⟩
noncomputable def jD.con : Con
 | [.int .i64 a0] => some ((jD.f a0).isSome, .tup [.int .i64 (gd (jD.f a0)).1, .int .i64 (gd (jD.f a0)).2.1, .int .i64 (gd (jD.f a0)).2.2])
 | _ => none
set_option maxRecDepth 100000 in
theorem jD.cok : COk Tryz.prog 158 (jD.con) := by
 intro args p v hc hp w A hA
 unfold jD.con at hc
 split at hc
 · rename_i a0
   simp only [Option.some.injEq, Prod.mk.injEq] at hc
   obtain ⟨rfl, rfl⟩ := hc
   rcases hf : jD.f a0 with _ | ⟨r1, r2, r3⟩
   · rw [hf] at hp; cases hp
   obtain rfl : A = [.int .i64 a0] := by simpa [kG, kL, kM, kN, kZ, kV, jP] using hA
   exact kK (fn := Tryz.f158) Tryz.func158 (by kernel_rfl) (by kernel_rfl) (jD.calls _ _ _ _ w hf) (fun _ => by simp [kH, kG, kL, kM, kN, kZ, kV, bK]) (fun _ h => h)
 · cases hc
def jJ.f (a0 : Int) : Option (Int × Int × Int × Int) := (zE.f a0).bind fun t139 => (if t139 = true then ((jD.f a0).bind fun bt140 => (some (bt140.1, bt140.2.1, bt140.2.2, 0))) else (some (0, 0, 0, 10)))
set_option maxRecDepth 100000 in
theorem jJ.vc (a0 : Int) (K : AV → Prop) : afv PA Tryz.prog (tab [(157, zE.con), (158, jD.con)]) noLoops 2 130 [.int .i64 a0] K = (brc (Option.isSome (zE.f a0)) (∀ m0 : Bool, m0 = gd (zE.f a0) → brc (!m0) (K (AV.tup [.int .i64 0, .int .i64 0, .int .i64 0, .int .i64 10])) (brc (Option.isSome (jD.f a0)) (∀ m1 : Int, m1 = Prod.fst (gd (jD.f a0)) → ∀ m2 : Int, m2 = Prod.fst (Prod.snd (gd (jD.f a0))) → ∀ m3 : Int, m3 = Prod.snd (Prod.snd (gd (jD.f a0))) → K (AV.tup [.int .i64 m1, .int .i64 m2, .int .i64 m3, .int .i64 0])) False)) False) := by kernel_rfl
set_option maxHeartbeats 1000000 in
set_option maxRecDepth 100000 in
theorem jJ.calls (a0 : Int) (r1 : Int) (r2 : Int) (r3 : Int) (r4 : Int) (w : World) (h : jJ.f a0 = some (r1, r2, r3, r4)) :
 Calls Tryz.prog 130 #[.int .i64 a0] w fun e w' => e = .returned (.tuple #[.int .i64 r1, .int .i64 r2, .int .i64 r3, .int .i64 r4]) ∧ Below w.heap.size w w' := by
 refine bW (A := [.int .i64 a0]) (v := .tup [.int .i64 r1, .int .i64 r2, .int .i64 r3, .int .i64 r4]) (kD (zE.cok) (kD (jD.cok) (bE))) ((jJ.vc a0 _).mpr ?_) (by simp [kG, kL, kM, kN, kZ, kV, jP]) (fun ρ V' hV => by simpa [kG, kL, kM, kN, kZ, kV, bK] using hV)
 unfold jJ.f at h
 (try simp only [bne, Option.bind_eq_some_iff, bN] at h)
 (try simp only [bne, jS, wrap_i64])
 first
  | grind (splits := 60) [kH]
  | ((repeat' (first | (have or_ : Or _ _ := h; clear or_; rcases h with h | h) | (have or_ : Exists _ := h; clear or_; obtain ⟨_, h⟩ := h) | (have or_ : And _ _ := h; clear or_; obtain ⟨hq_, h⟩ := h))) <;> (try simp only [Option.some.injEq, Prod.mk.injEq, reduceCtorEq] at h) <;> (try subst_vars) <;> first | (simp_all [kH] <;> (try omega) <;> done) | grind (splits := 60) [kH])
  | (intros; subst_vars; simp_all [kH]; done)
noncomputable def jJ.con : Con
 | [.int .i64 a0] => some ((jJ.f a0).isSome, .tup [.int .i64 (gd (jJ.f a0)).1, .int .i64 (gd (jJ.f a0)).2.1, .int .i64 (gd (jJ.f a0)).2.2.1, .int .i64 (gd (jJ.f a0)).2.2.2])
 | _ => none
set_option maxRecDepth 100000 in
theorem jJ.cok : COk Tryz.prog 130 (jJ.con) := by
 intro args p v hc hp w A hA
 unfold jJ.con at hc
 split at hc
 · rename_i a0
   simp only [Option.some.injEq, Prod.mk.injEq] at hc
   obtain ⟨rfl, rfl⟩ := hc
   rcases hf : jJ.f a0 with _ | ⟨r1, r2, r3, r4⟩
   · rw [hf] at hp; cases hp
   obtain rfl : A = [.int .i64 a0] := by simpa [kG, kL, kM, kN, kZ, kV, jP] using hA
   exact kK (fn := Tryz.f130) Tryz.func130 (by kernel_rfl) (by kernel_rfl) (jJ.calls _ _ _ _ _ w hf) (fun _ => by simp [kH, kG, kL, kM, kN, kZ, kV, bK]) (fun _ h => h)
 · cases hc
def jI.f (a0 : Int) : Option (Bool) := (jJ.f a0).bind fun bt143 => (if bt143.2.2.2 = 0 then (if bt143.1 ≥ (-4712) then (some (decide (bt143.1 ≤ 294276))) else (some false)) else (some false))
set_option maxRecDepth 100000 in
theorem jI.vc (a0 : Int) (K : AV → Prop) : afv PA Tryz.prog (tab [(130, jJ.con)]) noLoops 2 95 [.int .i64 a0] K = (brc (Option.isSome (jJ.f a0)) (∀ m0 : Int, m0 = Prod.fst (gd (jJ.f a0)) → ∀ m1 : Int, m1 = Prod.fst (Prod.snd (gd (jJ.f a0))) → ∀ m2 : Int, m2 = Prod.fst (Prod.snd (Prod.snd (gd (jJ.f a0)))) → ∀ m3 : Int, m3 = Prod.snd (Prod.snd (Prod.snd (gd (jJ.f a0)))) → brc (m3 == 0) (brc (decide (m0 ≥ -4712)) (K (AV.bool (decide (m0 ≤ 294276)))) (K (AV.bool false))) (K (AV.bool false))) False) := by kernel_rfl
set_option maxHeartbeats 1000000 in
set_option maxRecDepth 100000 in
theorem jI.calls (a0 : Int) (r : Bool) (w : World) (h : jI.f a0 = some r) :
 Calls Tryz.prog 95 #[.int .i64 a0] w fun e w' => e = .returned (.bool r) ∧ Below w.heap.size w w' := by
 refine bW (A := [.int .i64 a0]) (v := .bool r) (kD (jJ.cok) (bE)) ((jI.vc a0 _).mpr ?_) (by simp [kG, kL, kM, kN, kZ, kV, jP]) (fun ρ V' hV => by simpa [kG, kL, kM, kN, kZ, kV, bK] using hV)
 unfold jI.f at h
 (try simp only [bne, Option.bind_eq_some_iff, bN] at h)
 (try simp only [bne, jS, wrap_i64])
 first
  | grind (splits := 60) [kH]
  | ((repeat' (first | (have or_ : Or _ _ := h; clear or_; rcases h with h | h) | (have or_ : Exists _ := h; clear or_; obtain ⟨_, h⟩ := h) | (have or_ : And _ _ := h; clear or_; obtain ⟨hq_, h⟩ := h))) <;> (try simp only [Option.some.injEq, Prod.mk.injEq, reduceCtorEq] at h) <;> (try subst_vars) <;> first | (simp_all [kH] <;> (try omega) <;> done) | grind (splits := 60) [kH])
  | (intros; subst_vars; simp_all [kH]; done)
noncomputable def jI.con : Con
 | [.int .i64 a0] => some ((jI.f a0).isSome, .bool (gd (jI.f a0)))
 | _ => none
set_option maxRecDepth 100000 in
theorem jI.cok : COk Tryz.prog 95 (jI.con) := by
 intro args p v hc hp w A hA
 unfold jI.con at hc
 split at hc
 · rename_i a0
   simp only [Option.some.injEq, Prod.mk.injEq] at hc
   obtain ⟨rfl, rfl⟩ := hc
   rcases hf : jI.f a0 with _ | r
   · rw [hf] at hp; cases hp
   obtain rfl : A = [.int .i64 a0] := by simpa [kG, kL, kM, kN, kZ, kV, jP] using hA
   exact kK (fn := Tryz.f95) Tryz.func95 (by kernel_rfl) (by kernel_rfl) (jI.calls _ _ w hf) (fun _ => by simp [kH, kG, kL, kM, kN, kZ, kV, bK]) (fun _ h => h)
 · cases hc
def kX.f (k : Nat) (a0_0 : Int) (a0_1 : Int) : Option (Bool) := (jL.f k a0_1).bind fun bt148 => (if (a0_0 == (-1) && (a0_1 == 0)) = true then (some true) else (if (a0_0 == 1 && (a0_1 == 0)) = true then (some true) else (if a0_0 = 0 then ((jI.f bt148.1).bind fun t152 => (some t152)) else (some false))))
theorem kX.mono : ∀ a0 a1 k, LeO (kX.f k a0 a1) (kX.f (k + 1) a0 a1) := by
 intro a0 a1 k
 unfold kX.f
 repeat' first
  | (with_reducible exact jL.mono _ _)
  | (with_reducible exact LeO.refl _)
  | (with_reducible exact LeO.none _)
  | (with_reducible refine LeO.ite ?_ ?_)
  | (with_reducible refine LeO.bind ?_ (fun _ => ?_))
  | exact jL.mono _ _
  | exact LeO.none _
  | refine LeO.ite ?_ ?_
  | refine LeO.bind ?_ (fun _ => ?_)
set_option maxRecDepth 100000 in
theorem kX.vc (k : Nat) (a0_0 : Int) (a0_1 : Int) (K : AV → Prop) : afv PA Tryz.prog (tab [(94, jL.con k), (95, jI.con)]) noLoops 2 51 [.agg [.int .i64 a0_0, .int .i64 a0_1]] K = (brc (Option.isSome (jL.f k a0_1)) (∀ m0 : Int, m0 = Prod.fst (gd (jL.f k a0_1)) → ∀ m1 : Int, m1 = Prod.snd (gd (jL.f k a0_1)) → brc (a0_0 == -1 && (a0_1 == 0 && true)) (K (AV.bool true)) (brc (a0_0 == 1 && (a0_1 == 0 && true)) (K (AV.bool true)) (brc (a0_0 == 0) (brc (Option.isSome (jI.f m0)) (∀ m2 : Bool, m2 = gd (jI.f m0) → K (AV.bool m2)) False) (K (AV.bool false))))) False) := by kernel_rfl
set_option maxHeartbeats 1000000 in
set_option maxRecDepth 100000 in
theorem kX.calls (k : Nat) (a0_0 : Int) (a0_1 : Int) (r : Bool) (w : World) (h : kX.f k a0_0 a0_1 = some r) :
 Calls Tryz.prog 51 #[.agg #[.int .i64 a0_0, .int .i64 a0_1]] w fun e w' => e = .returned (.bool r) ∧ Below w.heap.size w w' := by
 refine bW (A := [.agg #[.int .i64 a0_0, .int .i64 a0_1]]) (v := .bool r) (kD (jL.cok k) (kD (jI.cok) (bE))) ((kX.vc k a0_0 a0_1 _).mpr ?_) (by simp [kG, kL, kM, kN, kZ, kV, jP]) (fun ρ V' hV => by simpa [kG, kL, kM, kN, kZ, kV, bK] using hV)
 unfold kX.f at h
 (try simp only [bne, Option.bind_eq_some_iff, bN] at h)
 (try simp only [bne, jS, wrap_i64])
 first
  | grind (splits := 60) [kH]
  | ((repeat' (first | (have or_ : Or _ _ := h; clear or_; rcases h with h | h) | (have or_ : Exists _ := h; clear or_; obtain ⟨_, h⟩ := h) | (have or_ : And _ _ := h; clear or_; obtain ⟨hq_, h⟩ := h))) <;> (try simp only [Option.some.injEq, Prod.mk.injEq, reduceCtorEq] at h) <;> (try subst_vars) <;> first | (simp_all [kH] <;> (try omega) <;> done) | grind (splits := 60) [kH])
  | (intros; subst_vars; simp_all [kH]; done)
noncomputable def kX.con (k : Nat) : Con
 | [.agg [.int .i64 a0_0, .int .i64 a0_1]] => some ((kX.f k a0_0 a0_1).isSome, .bool (gd (kX.f k a0_0 a0_1)))
 | _ => none
set_option maxRecDepth 100000 in
theorem kX.cok (k : Nat) : COk Tryz.prog 51 (kX.con k) := by
 intro args p v hc hp w A hA
 unfold kX.con at hc
 split at hc
 · rename_i a0_0 a0_1
   simp only [Option.some.injEq, Prod.mk.injEq] at hc
   obtain ⟨rfl, rfl⟩ := hc
   rcases hf : kX.f k a0_0 a0_1 with _ | r
   · rw [hf] at hp; cases hp
   obtain rfl : A = [.agg #[.int .i64 a0_0, .int .i64 a0_1]] := by simpa [kG, kL, kM, kN, kZ, kV, jP] using hA
   exact kK (fn := Tryz.f51) Tryz.func51 (by kernel_rfl) (by kernel_rfl) (kX.calls _ _ _ _ w hf) (fun _ => by simp [kH, kG, kL, kM, kN, kZ, kV, bK]) (fun _ h => h)
 · cases hc
theorem kX.up {k : Nat} {a0_0 : Int} {a0_1 : Int} {r : Bool} (h : kX.f k a0_0 a0_1 = some r) : kX.f (k + 1) a0_0 a0_1 = some r := kX.mono a0_0 a0_1 k _ h
theorem kX.le {a0_0 : Int} {a0_1 : Int} {r : Bool} {k n : Nat} (h : kX.f k a0_0 a0_1 = some r) (hk : k ≤ n) : kX.f n a0_0 a0_1 = some r := by
 induction hk with
 | refl => exact h
 | step _ ih => exact kX.up ih
def jZ.f (k : Nat) (a0_0 : Int) (a0_1 : Int) : Option (Int × Int × Int × Int) := (kX.f k a0_0 a0_1).bind fun t155 => (if t155 = true then (if a0_0 = 0 then ((jL.f k a0_1).bind fun bt156 => (some (0, bt156.1, bt156.2, 0))) else (some (a0_0, 0, 0, 0))) else (some (0, 0, 0, 1)))
theorem jZ.mono : ∀ a0 a1 k, LeO (jZ.f k a0 a1) (jZ.f (k + 1) a0 a1) := by
 intro a0 a1 k
 unfold jZ.f
 repeat' first
  | (with_reducible exact kX.mono _ _ _)
  | (with_reducible exact jL.mono _ _)
  | (with_reducible exact LeO.refl _)
  | (with_reducible exact LeO.none _)
  | (with_reducible refine LeO.ite ?_ ?_)
  | (with_reducible refine LeO.bind ?_ (fun _ => ?_))
  | exact kX.mono _ _ _
  | exact jL.mono _ _
  | exact LeO.none _
  | refine LeO.ite ?_ ?_
  | refine LeO.bind ?_ (fun _ => ?_)
set_option maxRecDepth 100000 in
theorem jZ.vc (k : Nat) (a0_0 : Int) (a0_1 : Int) (K : AV → Prop) : afv PA Tryz.prog (tab [(51, kX.con k), (94, jL.con k)]) noLoops 2 83 [.agg [.int .i64 a0_0, .int .i64 a0_1]] K = (brc (Option.isSome (kX.f k a0_0 a0_1)) (∀ m0 : Bool, m0 = gd (kX.f k a0_0 a0_1) → brc (!m0) (K (AV.tup [.agg [.int .i64 0, .int .i64 0], .int .i64 0, .int .i64 1])) (brc (a0_0 != 0) (K (AV.tup [.agg [.int .i64 a0_0, .int .i64 0], .int .i64 0, .int .i64 0])) (brc (Option.isSome (jL.f k a0_1)) (∀ m1 : Int, m1 = Prod.fst (gd (jL.f k a0_1)) → ∀ m2 : Int, m2 = Prod.snd (gd (jL.f k a0_1)) → K (AV.tup [.agg [.int .i64 0, .int .i64 m1], .int .i64 m2, .int .i64 0])) False))) False) := by kernel_rfl
set_option maxHeartbeats 1000000 in
set_option maxRecDepth 100000 in
theorem jZ.calls (k : Nat) (a0_0 : Int) (a0_1 : Int) (r1 : Int) (r2 : Int) (r3 : Int) (r4 : Int) (w : World) (h : jZ.f k a0_0 a0_1 = some (r1, r2, r3, r4)) :
 Calls Tryz.prog 83 #[.agg #[.int .i64 a0_0, .int .i64 a0_1]] w fun e w' => e = .returned (.tuple #[.agg #[.int .i64 r1, .int .i64 r2], .int .i64 r3, .int .i64 r4]) ∧ Below w.heap.size w w' := by
 refine bW (A := [.agg #[.int .i64 a0_0, .int .i64 a0_1]]) (v := .tup [.agg [.int .i64 r1, .int .i64 r2], .int .i64 r3, .int .i64 r4]) (kD (kX.cok k) (kD (jL.cok k) (bE))) ((jZ.vc k a0_0 a0_1 _).mpr ?_) (by simp [kG, kL, kM, kN, kZ, kV, jP]) (fun ρ V' hV => by simpa [kG, kL, kM, kN, kZ, kV, bK] using hV)
 unfold jZ.f at h
 (try simp only [bne, Option.bind_eq_some_iff, bN] at h)
 (try simp only [bne, jS, wrap_i64])
 first
  | grind (splits := 60) [kH]
  | ((repeat' (first | (have or_ : Or _ _ := h; clear or_; rcases h with h | h) | (have or_ : Exists _ := h; clear or_; obtain ⟨_, h⟩ := h) | (have or_ : And _ _ := h; clear or_; obtain ⟨hq_, h⟩ := h))) <;> (try simp only [Option.some.injEq, Prod.mk.injEq, reduceCtorEq] at h) <;> (try subst_vars) <;> first | (simp_all [kH] <;> (try omega) <;> done) | grind (splits := 60) [kH])
  | (intros; subst_vars; simp_all [kH]; done)
noncomputable def jZ.con (k : Nat) : Con
 | [.agg [.int .i64 a0_0, .int .i64 a0_1]] => some ((jZ.f k a0_0 a0_1).isSome, .tup [.agg [.int .i64 (gd (jZ.f k a0_0 a0_1)).1, .int .i64 (gd (jZ.f k a0_0 a0_1)).2.1], .int .i64 (gd (jZ.f k a0_0 a0_1)).2.2.1, .int .i64 (gd (jZ.f k a0_0 a0_1)).2.2.2])
 | _ => none
set_option maxRecDepth 100000 in
theorem jZ.cok (k : Nat) : COk Tryz.prog 83 (jZ.con k) := by
 intro args p v hc hp w A hA
 unfold jZ.con at hc
 split at hc
 · rename_i a0_0 a0_1
   simp only [Option.some.injEq, Prod.mk.injEq] at hc
   obtain ⟨rfl, rfl⟩ := hc
   rcases hf : jZ.f k a0_0 a0_1 with _ | ⟨r1, r2, r3, r4⟩
   · rw [hf] at hp; cases hp
   obtain rfl : A = [.agg #[.int .i64 a0_0, .int .i64 a0_1]] := by simpa [kG, kL, kM, kN, kZ, kV, jP] using hA
   exact kK (fn := Tryz.f83) Tryz.func83 (by kernel_rfl) (by kernel_rfl) (jZ.calls _ _ _ _ _ _ _ w hf) (fun _ => by simp [kH, kG, kL, kM, kN, kZ, kV, bK]) (fun _ h => h)
 · cases hc
theorem jZ.up {k : Nat} {a0_0 : Int} {a0_1 : Int} {r : Int × Int × Int × Int} (h : jZ.f k a0_0 a0_1 = some r) : jZ.f (k + 1) a0_0 a0_1 = some r := jZ.mono a0_0 a0_1 k _ h
theorem jZ.le {a0_0 : Int} {a0_1 : Int} {r : Int × Int × Int × Int} {k n : Nat} (h : jZ.f k a0_0 a0_1 = some r) (hk : k ≤ n) : jZ.f n a0_0 a0_1 = some r := by
 induction hk with
 | refl => exact h
 | step _ ih => exact jZ.up ih
end Go.Proofs.YtimgphlfaninnaaGreat.P
namespace Go.Proofs.YtimgphlfaninnaaGreat.P
open Go.RowKit Go.Proofs.YtimgphlfaninnaaGreatW.PrintWords Go.Proofs.YtimgphlfaninnaaGreatW.PrintLast Go.Proofs.YtimgphlfaninnaaGreatW.PrintMore
 attribute [local go_sem] bR bQ jC jB bL bM bP bS
set_option linter.unusedVariables false
set_option linter.unusedSimpArgs false
theorem eqA103 (d : Nat) (w : World) (x0 y0 : Int) (x1 y1 : Int) :
 (Op.equalIn (d + 2) 103 (.agg #[.int .i64 x0, .int .i64 x1]) (.agg #[.int .i64 y0, .int .i64 y1])).run Tryz.prog w = .ok (x0 == y0 && (x1 == y1)) w := by
 refine eqA_of Tryz.underlying103 (by kernel_rfl) ?_
 refine eqf_cons (by rfl) (by go_simp; rfl) (by go_simp; rfl) (by go_simp) ?_
 exact eqf_last (by rfl) (by go_simp; rfl) (by go_simp; rfl) (by go_simp)
end Go.Proofs.YtimgphlfaninnaaGreat.P
