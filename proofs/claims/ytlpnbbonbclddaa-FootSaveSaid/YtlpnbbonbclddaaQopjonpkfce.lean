/- How clocks are shifted for ever, in plain numbers: which halves and feet can be, their days and instants, the order of the shifts; no program in sight. -/
import Derived.Test.YtlpnbbonbclddaaQddohnjcahl
import Derived.Test.YtlpnbbonbclddaaQogbdjaeeap
import Derived.Test.YtlpnbbonbclddaaQbdbfnlbcim
import Derived.Test.YtlpnbbonbclddaaQjdcnbjmghn
namespace Go.Proofs.Ytlpnbbonbclddaa.Ft
set_option linter.unusedVariables false
set_option linter.unusedSimpArgs false
open Go Go.Proofs.Ytlpnbbonbclddaa.Civ
/-- A half: its month, its day of the month (kind, weekday, number), its seconds and clock, its save, its name. -/
structure Hf where
  m : Int
  k : Int
  w : Int
  n : Int
  s : Int
  c : Int
  v : Int
  ab : ByteArray
structure Ft where
  z : Bool
  fr : Int
  off : Int
  a : Hf
  b : Hf
def OnOk (k w n : Int) : Prop := (k = 0 ∧ w = 0 ∧ 1 ≤ n ∧ n ≤ 31) ∨ (k = 1 ∧ n = 0 ∧ 0 ≤ w ∧ w ≤ 6) ∨ ((k = 2 ∨ k = 3) ∧ 0 ≤ w ∧ w ≤ 6 ∧ 1 ≤ n ∧ n ≤ 31)
instance (k w n : Int) : Decidable (OnOk k w n) := inferInstanceAs (Decidable (_ ∨ _))
def AtOk (s c : Int) : Prop := 0 ≤ s ∧ s ≤ 86400 ∧ (c = 119 ∨ c = 115 ∨ c = 117)
instance (s c : Int) : Decidable (AtOk s c) := inferInstanceAs (Decidable (_ ∧ _))
def HfOk (h : Hf) : Prop := 1 ≤ h.m ∧ h.m ≤ 12 ∧ OnOk h.k h.w h.n ∧ AtOk h.s h.c ∧ 0 ≤ h.v ∧ h.v ≤ 7200
instance (h : Hf) : Decidable (HfOk h) := inferInstanceAs (Decidable (_ ∧ _))
def FtOk (F : Ft) : Prop := F.z = true ∧ HfOk F.a ∧ HfOk F.b ∧ -50400 ≤ F.off ∧ F.off ≤ 50400 ∧ (2 ≤ F.a.m - F.b.m ∨ 2 ≤ F.b.m - F.a.m) ∧ F.a.m - F.b.m ≤ 10 ∧ F.b.m - F.a.m ≤ 10
instance (F : Ft) : Decidable (FtOk F) := inferInstanceAs (Decidable (_ ∧ _))
/-- The next day that is a weekday, at a day, on or back. -/
def toF (n wd st : Int) : Int := if st = 1 then n + (wd - wday n) % 7 else n - (wday n - wd) % 7
/-- Which day it is, of a month. -/
def dayOn (y m k w n : Int) : Int :=
  if k = 0 then dnum y m 1 + n - 1 else if k = 1 then toF (dnum y m 1 + mlen y m - 1) w (-1) else if k = 2 then toF (dnum y m 1 + n - 1) w 1 else toF (dnum y m 1 + n - 1) w (-1)
/-- The instant of a day and seconds by a clock. -/
def inst (d s c off v : Int) : Int := (d + 10957) * 86400 + s - (if c = 117 then 0 else off) - (if c = 117 ∨ c = 115 then 0 else v)
structure Tr where
  t : Int
  off : Int
  dst : Bool
  ab : ByteArray
def tran (h o : Hf) (off y : Int) : Tr := ⟨inst (dayOn y h.m h.k h.w h.n) h.s h.c off o.v, off + h.v, decide (h.v ≠ 0), h.ab⟩
def fstH (F : Ft) : Hf := if F.a.m < F.b.m then F.a else F.b
def sndH (F : Ft) : Hf := if F.a.m < F.b.m then F.b else F.a
/-- A year's earlier shift, or its later one. -/
def tr (F : Ft) (b : Bool) (y : Int) : Tr := if b = true then tran (fstH F) (sndH F) F.off y else tran (sndH F) (fstH F) F.off y
/-- All shifts, one behind the other. -/
def sI (F : Ft) (i : Int) : Tr := tr F (decide (i % 2 = 0)) (i / 2)
theorem sI_even (F : Ft) (y : Int) : sI F (2 * y) = tr F true y := by
  unfold sI; rw [show (2 * y) % 2 = 0 by omega, show 2 * y / 2 = y by omega]; rfl
theorem sI_odd (F : Ft) (y : Int) : sI F (2 * y + 1) = tr F false y := by
  unfold sI; rw [show (2 * y + 1) % 2 = 1 by omega, show (2 * y + 1) / 2 = y by omega]; rfl
theorem toF_bd (n wd st : Int) : n - 6 ≤ toF n wd st ∧ toF n wd st ≤ n + 6 ∧ (st = 1 → n ≤ toF n wd st) ∧ (st = -1 → toF n wd st ≤ n) := by
  unfold toF; split <;> omega
theorem dayOn_bd {y m k w n : Int} (h1 : 1 ≤ m) (h2 : m ≤ 12) (h : OnOk k w n) : dby y + cum y m - 6 ≤ dayOn y m k w n ∧ dayOn y m k w n ≤ dby y + cum y m + 36 := by
  have hl := mlen_bd y m h1 h2
  have a1 := toF_bd (dnum y m 1 + mlen y m - 1) w (-1)
  have a2 := toF_bd (dnum y m 1 + n - 1) w 1
  have a3 := toF_bd (dnum y m 1 + n - 1) w (-1)
  have hd : dnum y m 1 = dby y + cum y m := by unfold dnum; omega
  unfold dayOn
  rcases h with ⟨rfl, _, _, _⟩ | ⟨rfl, _, _, _⟩ | ⟨h, _, _, _, _⟩
  · rw [if_pos rfl]; omega
  · rw [if_neg (by omega), if_pos rfl]; omega
  · rcases h with rfl | rfl
    · rw [if_neg (by omega), if_neg (by omega), if_pos rfl]; omega
    · rw [if_neg (by omega), if_neg (by omega), if_neg (by omega)]; omega
theorem inst_bd {d s c off v : Int} (h : AtOk s c) (h1 : -50400 ≤ off) (h2 : off ≤ 50400) (h3 : 0 ≤ v) (h4 : v ≤ 7200) : (d + 10957) * 86400 - 57600 ≤ inst d s c off v ∧ inst d s c off v ≤ (d + 10957) * 86400 + 136800 := by
  obtain ⟨a, b, _⟩ := h
  unfold inst
  split <;> split <;> omega
theorem cum_gap {y a b : Int} (h1 : 1 ≤ a) (h2 : a + 2 ≤ b) (h3 : b ≤ 12) (h4 : b - a ≤ 10) : cum y a + 59 ≤ cum y b ∧ cum y b ≤ cum y a + 310 := by
  have hl := lp_01 y
  rcases twelve h1 (by omega) with e | e | e | e | e | e | e | e | e | e | e | e <;> subst e <;>
  rcases twelve (by omega) h3 with e | e | e | e | e | e | e | e | e | e | e | e <;> subst e <;> simp [cum] <;> omega
theorem cum_gap2 {y a b : Int} (h1 : 1 ≤ a) (h2 : a + 2 ≤ b) (h3 : b ≤ 12) (h4 : b - a ≤ 10) : dby y + cum y b + 59 ≤ dby (y + 1) + cum (y + 1) a ∧ dby (y + 1) + cum (y + 1) a ≤ dby y + cum y b + 310 := by
  have hs := dby_succ y
  have hl := lp_01 y
  have hk := lp_01 (y + 1)
  rcases twelve h1 (by omega) with e | e | e | e | e | e | e | e | e | e | e | e <;> subst e <;>
  rcases twelve (by omega) h3 with e | e | e | e | e | e | e | e | e | e | e | e <;> subst e <;> simp [cum] <;> omega
theorem cum_top {y m : Int} (h1 : 1 ≤ m) (h2 : m ≤ 12) : 0 ≤ cum y m ∧ cum y m ≤ 335 := by
  have hl := lp_01 y
  rcases twelve h1 h2 with e | e | e | e | e | e | e | e | e | e | e | e <;> subst e <;> simp [cum] <;> omega
theorem FtOk.fst {F : Ft} (h : FtOk F) : HfOk (fstH F) := by unfold fstH; split; exact h.2.1; exact h.2.2.1
theorem FtOk.snd {F : Ft} (h : FtOk F) : HfOk (sndH F) := by unfold sndH; split; exact h.2.2.1; exact h.2.1
theorem FtOk.months {F : Ft} (h : FtOk F) : (fstH F).m + 2 ≤ (sndH F).m ∧ (sndH F).m - (fstH F).m ≤ 10 := by
  obtain ⟨_, _, _, _, _, h1, h2, h3⟩ := h
  unfold fstH sndH
  split <;> omega
theorem tran_bd {h o : Hf} {off y : Int} (hh : HfOk h) (ho : HfOk o) (h1 : -50400 ≤ off) (h2 : off ≤ 50400) :
    (dby y + cum y h.m - 6 + 10957) * 86400 - 57600 ≤ (tran h o off y).t ∧ (tran h o off y).t ≤ (dby y + cum y h.m + 36 + 10957) * 86400 + 136800 := by
  have a := dayOn_bd (y := y) hh.1 hh.2.1 hh.2.2.1
  have b := inst_bd (d := dayOn y h.m h.k h.w h.n) hh.2.2.2.1 h1 h2 ho.2.2.2.2.1 ho.2.2.2.2.2
  unfold tran
  simp only
  omega
/-- The shifts rise, and there are less than 400 days between one and the next. -/
theorem sI_step {F : Ft} (h : FtOk F) (i : Int) : (sI F i).t < (sI F (i + 1)).t ∧ (sI F (i + 1)).t - (sI F i).t < 400 * 86400 := by
  obtain ⟨y, hy | hy⟩ : ∃ y, i = 2 * y ∨ i = 2 * y + 1 := ⟨i / 2, by omega⟩
  · subst hy
    rw [sI_even, sI_odd]
    show (tran (fstH F) (sndH F) F.off y).t < (tran (sndH F) (fstH F) F.off y).t ∧ _
    have a := tran_bd (y := y) h.fst h.snd h.2.2.2.1 h.2.2.2.2.1
    have b := tran_bd (y := y) h.snd h.fst h.2.2.2.1 h.2.2.2.2.1
    have c := cum_gap (y := y) h.fst.1 h.months.1 h.snd.2.1 h.months.2
    have e1 : (tr F true y).t = (tran (fstH F) (sndH F) F.off y).t := rfl
    have e2 : (tr F false y).t = (tran (sndH F) (fstH F) F.off y).t := rfl
    omega
  · subst hy
    rw [show 2 * y + 1 + 1 = 2 * (y + 1) by omega, sI_even, sI_odd]
    have a := tran_bd (y := y + 1) h.fst h.snd h.2.2.2.1 h.2.2.2.2.1
    have b := tran_bd (y := y) h.snd h.fst h.2.2.2.1 h.2.2.2.2.1
    have c := cum_gap2 (y := y) h.fst.1 h.months.1 h.snd.2.1 h.months.2
    have e1 : (tr F true (y + 1)).t = (tran (fstH F) (sndH F) F.off (y + 1)).t := rfl
    have e2 : (tr F false y).t = (tran (sndH F) (fstH F) F.off y).t := rfl
    omega
theorem sI_mono {F : Ft} (h : FtOk F) (i : Int) (n : Nat) : (sI F i).t ≤ (sI F (i + n)).t := by
  induction n with
  | zero => simp
  | succ n ih => have := (sI_step h (i + n)).1; rw [show i + ((n + 1 : Nat) : Int) = i + n + 1 by omega]; omega
theorem sI_le {F : Ft} (h : FtOk F) {i j : Int} (hij : i ≤ j) : (sI F i).t ≤ (sI F j).t := by
  have := sI_mono h i (j - i).toNat
  rwa [show i + ((j - i).toNat : Int) = j by omega] at this
/-- The year of a day. -/
noncomputable def yOf (n : Int) : Int := Classical.choose (year_of n)
theorem yOf_spec (n : Int) : dby (yOf n) ≤ n ∧ n < dby (yOf n + 1) := Classical.choose_spec (year_of n)
theorem yOf_date {n y m d : Int} (h : IsDate n y m d) : yOf n = y := by
  have a := yOf_spec n
  have b := h.year
  exact year_unique a.1 a.2 b.1 b.2
/-- The day of an instant. -/
def dOf (u : Int) : Int := u / 86400 - 10957
/-- The shifts about an instant. -/
theorem near_bd {F : Ft} (h : FtOk F) (u : Int) : (sI F (2 * yOf (dOf u) - 3)).t ≤ u ∧ u < (sI F (2 * yOf (dOf u) + 4)).t := by
  obtain ⟨h1, h2⟩ := yOf_spec (dOf u)
  generalize yOf (dOf u) = y at *
  rw [show 2 * y - 3 = 2 * (y - 2) + 1 by omega, show 2 * y + 4 = 2 * (y + 2) by omega, sI_even, sI_odd]
  have a := tran_bd (y := y - 2) h.snd h.fst h.2.2.2.1 h.2.2.2.2.1
  have b := tran_bd (y := y + 2) h.fst h.snd h.2.2.2.1 h.2.2.2.2.1
  have c := cum_top (y := y - 2) h.snd.1 h.snd.2.1
  have d := cum_top (y := y + 2) h.fst.1 h.fst.2.1
  have e1 : (tr F true (y + 2)).t = (tran (fstH F) (sndH F) F.off (y + 2)).t := rfl
  have e2 : (tr F false (y - 2)).t = (tran (sndH F) (fstH F) F.off (y - 2)).t := rfl
  have f1 := dby_far (y - 2) y (by omega)
  have f2 := dby_far (y + 1) (y + 2) (by omega)
  unfold dOf at h1 h2
  omega
theorem ix_ex {F : Ft} (h : FtOk F) (u : Int) : ∃ i, (sI F i).t ≤ u ∧ u < (sI F (i + 1)).t := by
  obtain ⟨h1, h2⟩ := near_bd h u
  generalize yOf (dOf u) = y at *
  have key : ∀ k : Nat, u < (sI F (2 * y - 3 + k)).t → ∃ i, (sI F i).t ≤ u ∧ u < (sI F (i + 1)).t := by
    intro k
    induction k with
    | zero => intro g; simp at g; omega
    | succ k ih =>
      intro g
      by_cases q : u < (sI F (2 * y - 3 + k)).t
      · exact ih q
      · exact ⟨2 * y - 3 + k, by omega, by rw [show 2 * y - 3 + (k : Int) + 1 = 2 * y - 3 + ((k + 1 : Nat) : Int) by omega]; exact g⟩
  exact key 7 (by rw [show 2 * y - 3 + ((7 : Nat) : Int) = 2 * y + 4 by omega]; exact h2)
open Classical in
/-- The last shift that is not behind an instant. -/
noncomputable def ix (F : Ft) (u : Int) : Int := if h : FtOk F then Classical.choose (ix_ex h u) else 0
theorem ix_spec {F : Ft} (h : FtOk F) (u : Int) : (sI F (ix F u)).t ≤ u ∧ u < (sI F (ix F u + 1)).t := by
  unfold ix; rw [dif_pos h]; exact Classical.choose_spec (ix_ex h u)
theorem ix_bd {F : Ft} (h : FtOk F) (u : Int) : 2 * yOf (dOf u) - 3 ≤ ix F u ∧ ix F u ≤ 2 * yOf (dOf u) + 3 := by
  obtain ⟨a, b⟩ := ix_spec h u
  obtain ⟨c, d⟩ := near_bd h u
  constructor
  · rcases Int.lt_or_le (ix F u) (2 * yOf (dOf u) - 3) with g | g
    · have := sI_le h (i := ix F u + 1) (j := 2 * yOf (dOf u) - 3) (by omega); omega
    · exact g
  · rcases Int.lt_or_le (2 * yOf (dOf u) + 3) (ix F u) with g | g
    · have := sI_le h (i := 2 * yOf (dOf u) + 4) (j := ix F u) (by omega); omega
    · exact g
/-- What an instant's year comes to, by clocks that tell the years that can be. -/
noncomputable def yAt (u : Int) : Int := if dOf u < -2453698 then -4718 else if dOf u > 106754173 then 294282 else yOf (dOf u)
theorem yAt_in {u : Int} (h1 : -4718 < yAt u) (h2 : yAt u < 294282) : yAt u = yOf (dOf u) ∧ -2453698 ≤ dOf u ∧ dOf u ≤ 106754173 := by
  unfold yAt at *
  split at h1
  · omega
  · rename_i a
    split at h1
    · rename_i b; rw [if_neg a, if_pos b] at h2; omega
    · rename_i b; rw [if_neg a, if_neg b]; omega
def AskOk (F : Ft) (u : Int) : Prop := FtOk F ∧ -4714 ≤ yAt u ∧ yAt u ≤ 294278
noncomputable instance (F : Ft) (u : Int) : Decidable (AskOk F u) := inferInstanceAs (Decidable (_ ∧ _))
end Go.Proofs.Ytlpnbbonbclddaa.Ft
