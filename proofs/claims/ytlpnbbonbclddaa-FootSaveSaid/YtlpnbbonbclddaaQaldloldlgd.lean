/- Contracts of what layer 11 reaches, as the abstract machine takes them; the calendar's functions, whose printed proofs stand already. -/
import Derived.Test.YtlpnbbonbclddaaQbdbfnlbcim
import Derived.Test.YtlpnbbonbclddaaQmeopfklnda
import Derived.Test.YtlpnbbonbclddaaQopjonpkfce
import Derived.Test.YtlpnbbonbclddaaQjmocehbbid
import Derived.Test.YtlpnbbonbclddaaQljbbhhpdkl
import Derived.Test.YtlpnbbonbclddaaQeldondhjdn
import Derived.Test.YtlpnbbonbclddaaQggkjnpgone
import Derived.Test.YtlpnbbonbclddaaQhbelkoaemm
import Derived.Test.YtlpnbbonbclddaaQjmofcepakh
import Derived.Test.YtlpnbbonbclddaaQbbmlejlogb
namespace Go.Proofs.Ytlpnbbonbclddaa.P
open Go Go.RowKit Go.Proofs.YtlpnbbonbclddaaW.PrintWords Go.Proofs.YtlpnbbonbclddaaW.PrintLast Go.Proofs.YtlpnbbonbclddaaW.PrintMore Go.Proofs.Ytlpnbbonbclddaa.Civ Go.Proofs.Ytlpnbbonbclddaa.Ft
set_option linter.unusedVariables false
set_option linter.unusedSimpArgs false
theorem mo_ex (n : Int) : ∃ m d, IsDate n (yOf n) m d := by
  obtain ⟨y, m, d, h⟩ := date_of n
  rw [yOf_date h]; exact ⟨m, d, h⟩
noncomputable def mOf (n : Int) : Int := if CanDay n then Classical.choose (mo_ex n) else 0
noncomputable def eOf (n : Int) : Int := if CanDay n then Classical.choose (Classical.choose_spec (mo_ex n)) else 0
theorem ymd_is (n : Int) (h : CanDay n) : IsDate n (yOf n) (mOf n) (eOf n) := by
  unfold mOf eOf
  rw [if_pos h, if_pos h]
  exact Classical.choose_spec (Classical.choose_spec (mo_ex n))
section
open A
def two (n : Int) : ByteArray := ⟨#[UInt8.ofNat (48 + n / 10).toNat, UInt8.ofNat (48 + n % 10).toNat]⟩
def avH (h : Hf) : List AV := [.int .i64 h.m, .int .i64 h.k, .int .i64 h.w, .int .i64 h.n, .int .i64 h.s, .int .u8 h.c, .int .i64 h.v, .str h.ab]
def avF (F : Ft) : List AV := [.bool F.z, .int .i64 F.fr, .int .i64 F.off, .int .i64 F.a.m, .int .i64 F.a.k, .int .i64 F.a.w, .int .i64 F.a.n, .int .i64 F.a.s, .int .u8 F.a.c, .int .i64 F.a.v, .str F.a.ab, .int .i64 F.b.m, .int .i64 F.b.k, .int .i64 F.b.w, .int .i64 F.b.n, .int .i64 F.b.s, .int .u8 F.b.c, .int .i64 F.b.v, .str F.b.ab]
def rdH : List AV → Option Hf
  | [.int .i64 m, .int .i64 k, .int .i64 w, .int .i64 n, .int .i64 s, .int .u8 c, .int .i64 v, .str ab] => some ⟨m, k, w, n, s, c, v, ab⟩
  | _ => none
def rdF : List AV → Option Ft
  | [.bool z, .int .i64 fr, .int .i64 off, .int .i64 m1, .int .i64 k1, .int .i64 w1, .int .i64 n1, .int .i64 s1, .int .u8 c1, .int .i64 v1, .str b1, .int .i64 m2, .int .i64 k2, .int .i64 w2, .int .i64 n2, .int .i64 s2, .int .u8 c2, .int .i64 v2, .str b2] => some ⟨z, fr, off, ⟨m1, k1, w1, n1, s1, c1, v1, b1⟩, ⟨m2, k2, w2, n2, s2, c2, v2, b2⟩⟩
  | _ => none
def avT (x : Tr) : List AV := [.int .i64 x.t, .int .i64 x.off, .bool x.dst, .str x.ab]
def pair (a b : Int) : AV := .tup [.int .i64 a, .int .i64 b]
noncomputable def ccDays : Con
  | [.int .i64 y, .int .i64 m, .int .i64 d] => some (true, .tup [.int .i64 (if DateOk y m d then dnum y m d else 0), .int .i64 (if DateOk y m d then 0 else 10)])
  | _ => none
def ccLen : Con
  | [.int .i64 y, .int .i64 m] => some (true, .int .i64 (mlen y m))
  | _ => none
def ccWk : Con
  | [.int .i64 n] => some (decide (-9223372036854775808 ≤ n ∧ n ≤ 9223372036854775807), .int .i64 (wday n))
  | _ => none
def ccFirst : Con
  | [] => some (true, .int .i64 (-2453698))
  | _ => none
def ccLast : Con
  | [] => some (true, .int .i64 106754173)
  | _ => none
noncomputable def ccDate : Con
  | [.int .i64 n] => some (true, .tup [.int .i64 (if CanDay n then yOf n else 0), .int .i64 (mOf n), .int .i64 (eOf n), .int .i64 (if CanDay n then 0 else 10)])
  | _ => none
noncomputable def cyDay : Con
  | [.int .i64 y, .int .i64 m, .agg [.int .i64 k, .int .i64 w, .int .i64 n]] => some (decide (-4718 < y ∧ y < 294282 ∧ 1 ≤ m ∧ m ≤ 12 ∧ OnOk k w n), .tup [.int .i64 (dayOn y m k w n), .int .i64 0])
  | _ => none
def stOk (st : Int) : Bool := decide (st = 1 ∨ st = -1)
def cyTo : Con
  | [.int .i64 n, .int .i64 wd, .int .i64 st] => some (stOk st && decide (-10000000000 ≤ n ∧ n ≤ 10000000000 ∧ 0 ≤ wd ∧ wd ≤ 6), .int .i64 (toF n wd st))
  | _ => none
def cyInst : Con
  | [.int .i64 d, .int .i64 s, .int .u8 c, .int .i64 off, .int .i64 v] => some (decide (-10000000000 ≤ d ∧ d ≤ 10000000000 ∧ 0 ≤ s ∧ s ≤ 86400 ∧ -50400 ≤ off ∧ off ≤ 50400 ∧ 0 ≤ v ∧ v ≤ 7200), .int .i64 (inst d s c off v))
  | _ => none
def cyTwo : Con
  | [.int .i64 n] => some (decide (0 ≤ n ∧ n ≤ 99), .str (two n))
  | _ => none
def cyBad : Con
  | [.agg [.int .i64 k, .int .i64 w, .int .i64 n]] => some (decide (¬ OnOk k w n), .nili)
  | _ => none
def cyOn : Con
  | [.agg [.int .i64 k, .int .i64 w, .int .i64 n]] => some (true, .tup [.anys, .int .i64 (if OnOk k w n then 0 else 1)])
  | _ => none
def cyAt : Con
  | [.agg [.int .i64 s, .int .u8 c]] => some (true, .tup [.anys, .int .i64 (if AtOk s c then 0 else 1)])
  | _ => none
noncomputable def cyRight : Con
  | [.agg l] => match rdH l with
    | some h => some (true, .bool (decide (HfOk h)))
    | none => none
  | _ => none
noncomputable def cyCan : Con
  | [.agg l] => match rdF l with
    | some F => some (decide (-9223372036854775808 ≤ F.a.m ∧ F.a.m ≤ 9223372036854775807 ∧ -9223372036854775808 ≤ F.b.m ∧ F.b.m ≤ 9223372036854775807), .bool (decide (FtOk F)))
    | none => none
  | _ => none
noncomputable def cyShift : Con
  | [.agg l, .int .i64 y, .bool b] => match rdF l with
    | some F => some (decide (FtOk F ∧ -4718 < y ∧ y < 294282), .agg (avT (tr F b y)))
    | none => none
  | _ => none
noncomputable def cyRshift : Con
  | [.agg l, .agg k, .int .i64 off, .int .i64 y] => match rdH l, rdH k with
    | some h, some o => some (decide (HfOk h ∧ HfOk o ∧ -50400 ≤ off ∧ off ≤ 50400 ∧ -4718 < y ∧ y < 294282), .agg (avT (tran h o off y)))
    | _, _ => none
  | _ => none
noncomputable def cyYear : Con
  | [.int .i64 u] => some (decide (-9223372036854775808 ≤ u ∧ u ≤ 9223372036854775807), .int .i64 (yAt u))
  | _ => none
noncomputable def err2 (F : Ft) (u : Int) : Int := if FtOk F then (if -4714 ≤ yAt u ∧ yAt u ≤ 294278 then 0 else 10) else 1
noncomputable def tZ (F : Ft) (u : Int) (i : Int) : Tr := ⟨if AskOk F u then (sI F i).t else 0, if AskOk F u then (sI F i).off else 0, if AskOk F u then (sI F i).dst else false, if AskOk F u then (sI F i).ab else ⟨#[]⟩⟩
noncomputable def cyStand (d : Int) : Con
  | [.agg l, .int .i64 u] => match rdF l with
    | some F => some (decide (-9223372036854775808 ≤ u ∧ u ≤ 9223372036854775807 ∧ -9223372036854775808 ≤ F.a.m ∧ F.a.m ≤ 9223372036854775807 ∧ -9223372036854775808 ≤ F.b.m ∧ F.b.m ≤ 9223372036854775807), .tup [.agg (avT (tZ F u (ix F u + d))), .int .i64 (err2 F u)])
    | none => none
  | _ => none
noncomputable def cyRyear : Con
  | [.agg l, .int .i64 y] => match rdF l with
    | some F => some (decide (FtOk F ∧ -4718 < y ∧ y < 294282), .tup [.nu 46 4 2 (avT (tr F true y) ++ avT (tr F false y)), .int .i64 0])
    | none => none
  | _ => none
noncomputable def nearL (F : Ft) : Nat → Int → List AV
  | 0, _ => []
  | n + 1, Y => avT (tr F true Y) ++ (avT (tr F false Y) ++ nearL F n (Y + 1))
noncomputable def cyNear : Con
  | [.agg l, .int .i64 u] => match rdF l with
    | some F => some (decide (AskOk F u) && decide (-9223372036854775808 ≤ u ∧ u ≤ 9223372036854775807), .tup [.nu 46 4 10 (nearL F 5 (yAt u - 2)), .int .i64 0])
    | none => none
  | _ => none
def cyKnown : Con
  | [] => some (true, .bool true)
  | _ => none
def cyGiven : Con
  | [.agg l] => match rdF l with
    | some F => some (true, .agg (avF F))
    | none => none
  | _ => none
def cyHalf : Con
  | [.agg l] => match rdH l with
    | some h => some (true, .agg (avH h))
    | none => none
  | _ => none
theorem rdH_ok {l : List AV} {h : Hf} (e : rdH l = some h) : l = avH h := by
  unfold rdH at e
  split at e
  · cases e; rfl
  · cases e
theorem rdF_ok {l : List AV} {F : Ft} (e : rdF l = some F) : l = avF F := by
  unfold rdF at e
  split at e
  · cases e; rfl
  · cases e
/-- What a function that is walked in its place must come to. -/
@[irreducible] def AF (T : Tab) (n g : Nat) (args : List AV) (K : AV → Prop) : Prop := afn PA Try.prog T noLoops n g args fun u h => K (toNu h 4 u)
theorem af_con {T : Tab} (hT : TabOk Try.prog T) {g : Nat} (hn : (Try.prog.funcs[g]?).any (fun fn => !(fn.name == "runtime.NumGoroutine")) = true) {con : Con} (h : ∀ args p v, con args = some (p, v) → p = true → v.okN 4 = true ∧ ∃ n, AF T n g args fun u => u = v) : COk Try.prog g con := by
  intro args p v hc hp w A hA
  obtain ⟨h1, n, h2⟩ := h args p v hc hp
  refine givesN_ok mixed hT hn (ltOk_none Try.prog g) (n := n) h1 ?_ hA
  unfold AF at h2
  with_reducible exact h2
/-- A call's answer, at one place. -/
theorem af_gives {T : Tab} (hT : TabOk Try.prog T) {g : Nat} (hn : (Try.prog.funcs[g]?).any (fun fn => !(fn.name == "runtime.NumGoroutine")) = true) {args : List AV} {v : AV} (h1 : v.okN 4 = true) {n : Nat} (h2 : AF T n g args fun u => u = v) {w : World} {A : List Value} (hA : RL noNames w args A) : Gives Try.prog g A.toArray w fun V w' => (RV noNames w' v V ∧ Below w.heap.size w w') ∧ Fr w.heap.size 4 v V := by
  refine givesN_ok mixed hT hn (ltOk_none Try.prog g) (n := n) h1 ?_ hA
  unfold AF at h2
  with_reducible exact h2
/-- The same where nobody looks at the text: an error alone. -/
theorem af_text {T : Tab} (hT : TabOk Try.prog T) {g : Nat} (hn : (Try.prog.funcs[g]?).any (fun fn => !(fn.name == "runtime.NumGoroutine")) = true) {args : List AV} {x : Int} {n : Nat} (h2 : AF T n g args fun u => ∃ s, u = .tup [.str s, .int .i64 x]) {w : World} {A : List Value} (hA : RL noNames w args A) :
    Gives Try.prog g A.toArray w fun V w' => (RV noNames w' (.tup [.anys, .int .i64 x]) V ∧ Below w.heap.size w w') ∧ Fr w.heap.size 4 (.tup [.anys, .int .i64 x]) V := by
  cases hf : Try.prog.funcs[g]? with
  | none => simp [hf] at hn
  | some fn =>
    simp [hf] at hn
    unfold AF at h2
    have hb : fn.body.isSome = true := by
      have h3 := h2
      unfold afn at h3
      simp only [hf] at h3
      exact bodyA_some h3
    refine .inl ⟨callFunc_enter hf hb (by simpa using hn) _ _, (afn_ok mixed hT (ltOk_none Try.prog g) h2 hA).mono fun e w' he => ?_⟩
    obtain ⟨V, g1, ρ', u, h', g2, g3, s, hs⟩ := he
    obtain ⟨k1, k2⟩ := toNu_ok g3 4 g2 (by rw [hs]; rfl)
    rw [hs] at k1
    refine ⟨V, g1, ⟨?_, g3.bel⟩, Fr.flat 4 rfl⟩
    simp only [rv_tup, rl_cons, rl_nil, rv_str, rv_int] at k1
    obtain ⟨_, rfl, _, _, rfl, rfl, _, _, rfl, rfl, rfl⟩ := k1
    exact .tup (.cons (.anys _) (.cons (.int _ _) .nil))
theorem brcT {b : Bool} {X Y : Prop} (h : b = true) (a : X) : brc b X Y := by subst h; exact a
theorem brcF {b : Bool} {X Y : Prop} (h : b = false) (a : Y) : brc b X Y := by subst h; exact a
theorem brc_tt (X Y : Prop) : brc true X Y = X := rfl
theorem brc_ff (X Y : Prop) : brc false X Y = Y := rfl
theorem wv {x : Int} (h1 : -9223372036854775808 ≤ x) (h2 : x ≤ 9223372036854775807) : IntKind.wrap .i64 x = x := by rw [A.wrap_i64]; exact w64 h1 h2
theorem ccDays_ok : COk Try.prog 41 ccDays := by
  intro args p v hc hp w A hA
  unfold ccDays at hc
  split at hc
  case h_2 => cases hc
  rename_i y m d
  simp only [Option.some.injEq, Prod.mk.injEq] at hc
  obtain ⟨hq, rfl⟩ := hc
  obtain rfl : A = [.int .i64 y, .int .i64 m, .int .i64 d] := by simpa [rl_cons, rl_nil, rv_int] using hA
  have hf := days_eq y m d
  by_cases h : DateOk y m d
  · rw [if_pos h] at hf
    exact gives_of_calls (fn := Try.f41) Try.func41 (by kernel_rfl) (by kernel_rfl) (civil_Days.calls _ _ _ _ _  w hf) (fun _ => by simp [h, rl_cons, rl_nil, rv_int, rv_tup]) (fun _ h => by first | exact h | exact h.below)
  · rw [if_neg h] at hf
    exact gives_of_calls (fn := Try.f41) Try.func41 (by kernel_rfl) (by kernel_rfl) (civil_Days.calls _ _ _ _ _  w hf) (fun _ => by simp [h, rl_cons, rl_nil, rv_int, rv_tup]) (fun _ h => by first | exact h | exact h.below)
theorem ccDays_okR : COk Try.prog 46 ccDays := by
  intro args p v hc hp w A hA
  unfold ccDays at hc
  split at hc
  case h_2 => cases hc
  rename_i y m d
  simp only [Option.some.injEq, Prod.mk.injEq] at hc
  obtain ⟨hq, rfl⟩ := hc
  obtain rfl : A = [.int .i64 y, .int .i64 m, .int .i64 d] := by simpa [rl_cons, rl_nil, rv_int] using hA
  obtain ⟨K, hK⟩ := rdays_ev y m d
  have hf := hK K (Nat.le_refl _)
  by_cases h : DateOk y m d
  · rw [if_pos h] at hf
    exact gives_of_calls (fn := Try.f46) Try.func46 (by kernel_rfl) (by kernel_rfl) (computusref02_Days.calls K _ _ _ _ _  w hf) (fun _ => by simp [h, rl_cons, rl_nil, rv_int, rv_tup]) (fun _ h => by first | exact h | exact h.below)
  · rw [if_neg h] at hf
    exact gives_of_calls (fn := Try.f46) Try.func46 (by kernel_rfl) (by kernel_rfl) (computusref02_Days.calls K _ _ _ _ _  w hf) (fun _ => by simp [h, rl_cons, rl_nil, rv_int, rv_tup]) (fun _ h => by first | exact h | exact h.below)
theorem ccLen_ok : COk Try.prog 43 ccLen := by
  intro args p v hc hp w A hA
  unfold ccLen at hc
  split at hc
  case h_2 => cases hc
  rename_i y m
  simp only [Option.some.injEq, Prod.mk.injEq] at hc
  obtain ⟨hq, rfl⟩ := hc
  obtain rfl : A = [.int .i64 y, .int .i64 m] := by simpa [rl_cons, rl_nil, rv_int] using hA
  have hf := len_eq y m
  exact gives_of_calls (fn := Try.f43) Try.func43 (by kernel_rfl) (by kernel_rfl) (civil_Len.calls _ _ _  w hf) (fun _ => by simp [rl_cons, rl_nil, rv_int, rv_tup]) (fun _ h => by first | exact h | exact h.below)
theorem ccLen_okR : COk Try.prog 47 ccLen := by
  intro args p v hc hp w A hA
  unfold ccLen at hc
  split at hc
  case h_2 => cases hc
  rename_i y m
  simp only [Option.some.injEq, Prod.mk.injEq] at hc
  obtain ⟨hq, rfl⟩ := hc
  obtain rfl : A = [.int .i64 y, .int .i64 m] := by simpa [rl_cons, rl_nil, rv_int] using hA
  obtain ⟨K, hK⟩ := rlen_ev y m
  have hf := hK K (Nat.le_refl _)
  exact gives_of_calls (fn := Try.f47) Try.func47 (by kernel_rfl) (by kernel_rfl) (computusref02_Len.calls K _ _ _  w hf) (fun _ => by simp [rl_cons, rl_nil, rv_int, rv_tup]) (fun _ h => by first | exact h | exact h.below)
theorem ccWk_ok : COk Try.prog 60 ccWk := by
  intro args p v hc hp w A hA
  unfold ccWk at hc
  split at hc
  case h_2 => cases hc
  rename_i n
  simp only [Option.some.injEq, Prod.mk.injEq] at hc
  obtain ⟨hq, rfl⟩ := hc
  obtain rfl : A = [.int .i64 n] := by simpa [rl_cons, rl_nil, rv_int] using hA
  subst hq
  have hp := of_decide_eq_true hp
  have hf := weekday_eq n hp
  exact gives_of_calls (fn := Try.f60) Try.func60 (by kernel_rfl) (by kernel_rfl) (civil_Weekday.calls _ _  w hf) (fun _ => by simp [rl_cons, rl_nil, rv_int, rv_tup]) (fun _ h => by first | exact h | exact h.below)
theorem ccWk_okR : COk Try.prog 48 ccWk := by
  intro args p v hc hp w A hA
  unfold ccWk at hc
  split at hc
  case h_2 => cases hc
  rename_i n
  simp only [Option.some.injEq, Prod.mk.injEq] at hc
  obtain ⟨hq, rfl⟩ := hc
  obtain rfl : A = [.int .i64 n] := by simpa [rl_cons, rl_nil, rv_int] using hA
  have hf := rweekday_eq n
  exact gives_of_calls (fn := Try.f48) Try.func48 (by kernel_rfl) (by kernel_rfl) (computusref02_Weekday.calls _ _  w hf) (fun _ => by simp [rl_cons, rl_nil, rv_int, rv_tup]) (fun _ h => by first | exact h | exact h.below)
theorem ccFirst_ok : COk Try.prog 50 ccFirst := by
  intro args p v hc hp w A hA
  unfold ccFirst at hc
  split at hc
  case h_2 => cases hc
  simp only [Option.some.injEq, Prod.mk.injEq] at hc
  obtain ⟨hq, rfl⟩ := hc
  obtain rfl : A = [] := by simpa [rl_cons, rl_nil, rv_int] using hA
  have hf := firstday_eq
  exact gives_of_calls (fn := Try.f50) Try.func50 (by kernel_rfl) (by kernel_rfl) (civil_First.calls _  w hf) (fun _ => by simp [rl_cons, rl_nil, rv_int, rv_tup]) (fun _ h => by first | exact h | exact h.below)
theorem ccLast_ok : COk Try.prog 51 ccLast := by
  intro args p v hc hp w A hA
  unfold ccLast at hc
  split at hc
  case h_2 => cases hc
  simp only [Option.some.injEq, Prod.mk.injEq] at hc
  obtain ⟨hq, rfl⟩ := hc
  obtain rfl : A = [] := by simpa [rl_cons, rl_nil, rv_int] using hA
  have hf := lastday_eq
  exact gives_of_calls (fn := Try.f51) Try.func51 (by kernel_rfl) (by kernel_rfl) (civil_Last.calls _  w hf) (fun _ => by simp [rl_cons, rl_nil, rv_int, rv_tup]) (fun _ h => by first | exact h | exact h.below)
theorem ccFirst_okR : COk Try.prog 53 ccFirst := by
  intro args p v hc hp w A hA
  unfold ccFirst at hc
  split at hc
  case h_2 => cases hc
  simp only [Option.some.injEq, Prod.mk.injEq] at hc
  obtain ⟨hq, rfl⟩ := hc
  obtain rfl : A = [] := by simpa [rl_cons, rl_nil, rv_int] using hA
  obtain ⟨K, hK⟩ := rfirst_ev
  have hf := hK K (Nat.le_refl _)
  exact gives_of_calls (fn := Try.f53) Try.func53 (by kernel_rfl) (by kernel_rfl) (computusref02_First.calls K _  w hf) (fun _ => by simp [rl_cons, rl_nil, rv_int, rv_tup]) (fun _ h => by first | exact h | exact h.below)
theorem ccDate_ok : COk Try.prog 52 ccDate := by
  intro args p v hc hp w A hA
  unfold ccDate at hc
  split at hc
  case h_2 => cases hc
  rename_i n
  simp only [Option.some.injEq, Prod.mk.injEq] at hc
  obtain ⟨hq, rfl⟩ := hc
  obtain rfl : A = [.int .i64 n] := by simpa [rl_cons, rl_nil, rv_int] using hA
  by_cases h : CanDay n
  · have hf := date_eq (ymd_is n h) h
    exact gives_of_calls (fn := Try.f52) Try.func52 (by kernel_rfl) (by kernel_rfl) (civil_Date.calls _ _ _ _ _  w hf) (fun _ => by simp [h, rl_cons, rl_nil, rv_int, rv_tup]) (fun _ h => by first | exact h | exact h.below)
  · have hf := date_no h
    exact gives_of_calls (fn := Try.f52) Try.func52 (by kernel_rfl) (by kernel_rfl) (civil_Date.calls _ _ _ _ _  w hf) (fun _ => by simp [h, mOf, eOf, rl_cons, rl_nil, rv_int, rv_tup]) (fun _ h => by first | exact h | exact h.below)
theorem ccDate_okR : COk Try.prog 54 ccDate := by
  intro args p v hc hp w A hA
  unfold ccDate at hc
  split at hc
  case h_2 => cases hc
  rename_i n
  simp only [Option.some.injEq, Prod.mk.injEq] at hc
  obtain ⟨hq, rfl⟩ := hc
  obtain rfl : A = [.int .i64 n] := by simpa [rl_cons, rl_nil, rv_int] using hA
  by_cases h : CanDay n
  · obtain ⟨K, hK⟩ := rdate_ev (ymd_is n h) h
    have hf := hK K (Nat.le_refl _)
    exact gives_of_calls (fn := Try.f54) Try.func54 (by kernel_rfl) (by kernel_rfl) (computusref02_Date.calls K _ _ _ _ _  w hf) (fun _ => by simp [h, rl_cons, rl_nil, rv_int, rv_tup]) (fun _ h => by first | exact h | exact h.below)
  · obtain ⟨K, hK⟩ := rdate_no h
    have hf := hK K (Nat.le_refl _)
    exact gives_of_calls (fn := Try.f54) Try.func54 (by kernel_rfl) (by kernel_rfl) (computusref02_Date.calls K _ _ _ _ _  w hf) (fun _ => by simp [h, mOf, eOf, rl_cons, rl_nil, rv_int, rv_tup]) (fun _ h => by first | exact h | exact h.below)
end
end Go.Proofs.Ytlpnbbonbclddaa.P
