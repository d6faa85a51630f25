-- Written by a program of the session (a print of the seat's translation, functions given by hand among it). Lean checks it.
import Derived.Test.YthkmckmfgglafaaGreatQefmlpbeiik
import Derived.Test.YthkmckmfgglafaaGreatQacoejdoegp
namespace Go.Proofs.YthkmckmfgglafaaGreat.P
open Go.RowKit Go.Proofs.YthkmckmfgglafaaGreatW.PrintWords Go.Proofs.YthkmckmfgglafaaGreatW.PrintLast Go.Proofs.YthkmckmfgglafaaGreatW.PrintMore
open Go.Proofs.YthkmckmfgglafaaGreat.A
attribute [local go_sem] max2_int min2_int max_two min_two max_three min_three max_four min_four   -- for this text's walks alone
set_option linter.unusedVariables false
set_option linter.unusedSimpArgs false
def loI (x : Int) : Int := if 65 ≤ x ∧ x ≤ 90 then Go.bits .or .u8 x 32 else x
def loB (s : ByteArray) (j : Nat) : Int := ((s.data.toList.getD j 0).toNat : Int)
def loS (s : ByteArray) : ByteArray := strOfNums ((List.range s.size).map fun j => loI (loB s j))
theorem loI_bd {x : Int} (h : 0 ≤ x ∧ x < 256) : 0 ≤ loI x ∧ loI x < 256 := by
  unfold loI
  split
  · rename_i hx
    obtain ⟨n, rfl⟩ : ∃ n : Nat, x = n := ⟨x.toNat, by omega⟩
    have : ∀ m : Nat, m < 256 → 0 ≤ Go.bits .or .u8 (m : Int) 32 ∧ Go.bits .or .u8 (m : Int) 32 < 256 := by decide +kernel
    exact this n (by omega)
  · exact h
theorem loB_bd (s : ByteArray) (j : Nat) : 0 ≤ loB s j ∧ loB s j < 256 := by
  unfold loB
  have := (s.data.toList.getD j 0).toNat_lt
  omega
/-- What holds of the row while its first i bytes are small letters. -/
def LoInv (w : World) (s : ByteArray) (i : Nat) (W : World) : Prop :=
  ∃ cur : Array Value, W.heap[w.heap.size]? = some (.cells cur 5 (cur.size, cur.size + 1)) ∧ s.size ≤ cur.size ∧ (∀ j, j < s.size → cur[j]? = some (.int .u8 (if j < i then loI (loB s j) else loB s j))) ∧ Below w.heap.size w W
theorem LoInv.cell {w W : World} {s : ByteArray} {i : Nat} (h : LoInv w s i W) {j : Nat} (hj : j < s.size) : W.cell? ⟨w.heap.size, j, none⟩ = some (.int .u8 (if j < i then loI (loB s j) else loB s j)) ∧ W.frozen? ⟨w.heap.size, j, none⟩ = false := by
  obtain ⟨cur, hb, hl, hc, _⟩ := h
  refine ⟨?_, ?_⟩
  · simp only [World.cell?, hb, Option.bind_some]
    exact hc j hj
  · simp only [World.frozen?, hb]
    simp; omega
theorem LoInv.skip {w W : World} {s : ByteArray} {i : Nat} (h : LoInv w s i W) (hi : i < s.size) (hn : ¬ (65 ≤ loB s i ∧ loB s i ≤ 90)) : LoInv w s (i + 1) W := by
  obtain ⟨cur, hb, hl, hc, hB⟩ := h
  refine ⟨cur, hb, hl, fun j hj => ?_, hB⟩
  rw [hc j hj]
  rcases Nat.lt_trichotomy j i with h1 | rfl | h1
  · rw [if_pos h1, if_pos (by omega)]
  · rw [if_neg (by omega), if_pos (by omega)]
    unfold loI; rw [if_neg hn]
  · rw [if_neg (by omega), if_neg (by omega)]
theorem LoInv.put {w W : World} {s : ByteArray} {i : Nat} (h : LoInv w s i W) (hi : i < s.size) {v : Int} (hv : v = loI (loB s i)) : LoInv w s (i + 1) (W.setCell ⟨w.heap.size, i, none⟩ (.int .u8 v)) := by
  obtain ⟨cur, hb, hl, hc, hB⟩ := h
  refine ⟨cur.setIfInBounds i (.int .u8 v), ?_, by simpa using hl, fun j hj => ?_, ?_⟩
  · simp only [World.setCell, Array.getElem?_modify, if_pos, hb]
    simp
  · rw [Array.getElem?_setIfInBounds]
    rcases Nat.lt_trichotomy j i with h1 | rfl | h1
    · rw [if_neg (by omega), hc j hj, if_pos h1, if_pos (by omega)]
    · rw [if_pos rfl, if_pos (by omega), if_pos (by omega), hv]
    · rw [if_neg (by omega), hc j hj, if_neg (by omega), if_neg (by omega)]
  · exact kD hB (Nat.le_refl _)
theorem LoInv.start (w : World) (s : ByteArray) : LoInv w s 0 (Lib.bytesWorld w 5 s) := by
  refine ⟨Lib.bytesCells w 5 s, Lib.bytesWorld_at_new w 5 s, ?_, fun j hj => ?_, bytes_below (Below.refl _ _) (Nat.le_refl _) 5 s⟩
  · simp [Lib.bytesCells]
  · have h1 := Lib.bytesWorld_cell w 5 s j hj
    simp only [World.cell?, Lib.bytesWorld_at_new, Option.bind_some] at h1
    rw [if_neg (by omega)]
    exact h1
theorem LoInv.bytes {w W : World} {s : ByteArray} (h : LoInv w s s.size W) : Go.Lib.Bytes W w.heap.size 0 (loS s) := by
  refine Go.Lib.bytes_of_nums (n := s.size) (by simp) ?_ ?_
  · intro x hx
    simp only [List.mem_map, List.mem_range] at hx
    obtain ⟨j, _, rfl⟩ := hx
    exact loI_bd (loB_bd s j)
  · intro i hi
    rw [Nat.zero_add, (LoInv.cell h hi).1, if_pos hi]
    simp [List.getD_eq_getElem?_getD, hi]
theorem loS_size (s : ByteArray) : (loS s).size = s.size := by unfold loS; rw [strOfNums_size]; simp
theorem word_Lower.calls (s : ByteArray) (hs : s.size ≤ 9223372036854775807) (w : World) : Calls Tryz.prog 83 #[.string s] w fun e w' => e = .returned (.string (loS s)) ∧ Below w.heap.size w w' := by
  have hconv := Lib.run_convert_string_bytes (P := Tryz.prog) w 9 163 5 s Tryz.underlying9 Tryz.underlying163 Tryz.underlying5
  have hst := LoInv.start w s
  go_enter Tryz.func83, Tryz.ntmps83
  go_wp2
  go_loopg [4, 5, 10] s.size (fun kq v4 v5 v10 W => ∃ i : Nat, i + kq = s.size ∧ v10 = .int .i64 i ∧ LoInv w s i W)
  case atStart => exact ⟨0, by omega, rfl, hst⟩
  case round =>
    obtain ⟨i, hi, rfl, hI⟩ := hrel
    cases gk with
    | zero =>
      obtain rfl : i = s.size := by omega
      have hback := Go.Lib.run_convert_whole (P := Tryz.prog) wr 163 5 9 Tryz.underlying163 Tryz.underlying5 Tryz.underlying9 w.heap.size 0 (loS s) (LoInv.bytes hI) (grownCap w s.size 0 5)
      rw [loS_size] at hback
      have hc : ¬ (s.size : Int) < (s.size : Int) := by omega
      go_wp2
      go_ret
      exact ⟨rfl, by obtain ⟨_, _, _, _, hB⟩ := hI; exact hB⟩
    | succ k1 =>
      have hc : (i : Int) < (s.size : Int) := by omega
      have hc0 : (0 : Int) ≤ (i : Int) := by omega
      obtain ⟨hx, hf⟩ := LoInv.cell hI (j := i) (by omega)
      rw [if_neg (by omega)] at hx
      by_cases h1 : 65 ≤ loB s i
      · by_cases h2 : loB s i ≤ 90
        · have hp := LoInv.put hI (v := Go.bits .or .u8 (loB s i) 32) (by omega) (by unfold loI; rw [if_pos ⟨h1, h2⟩])
          go_wp2
          go_roundg k1
          case measure => omega
          case rel => exact ⟨i + 1, by omega, rfl, hp⟩
        · have hp := LoInv.skip hI (by omega) (fun h => h2 h.2)
          go_wp2
          go_roundg k1
          case measure => omega
          case rel => exact ⟨i + 1, by omega, rfl, hp⟩
      · have hp := LoInv.skip hI (by omega) (fun h => h1 h.1)
        go_wp2
        go_roundg k1
        case measure => omega
        case rel => exact ⟨i + 1, by omega, rfl, hp⟩
open A in
noncomputable def trFo (f : ByteArray) : Con
  | [.str s] => some (decide ((loS s).data.toList = f.data.toList), .str f)
  | _ => none
open A in
noncomputable def trOf (k : Nat) : Con
  | [.agg [.int .i64 x, .int .i64 y]] => some ((day_Of.f k x y).isSome, .tup [.agg [.int .i64 (gd (day_Of.f k x y)).1, .int .i64 (gd (day_Of.f k x y)).2.1], .int .i64 (gd (day_Of.f k x y)).2.2.1, .int .i64 (gd (day_Of.f k x y)).2.2.2])
  | _ => none
def trMdF (k : Nat) (x : Int) : Option (Int × Int × Int) := (day_RightStamp.f k 0 x).bind fun t => some (if t = true then (0, x, 0) else (0, 0, 10))
open A in
noncomputable def trMd (k : Nat) : Con
  | [.int .i64 x, .nilsl] => some ((trMdF k x).isSome, .tup [.agg [.int .i64 (gd (trMdF k x)).1, .int .i64 (gd (trMdF k x)).2.1], .int .i64 (gd (trMdF k x)).2.2])
  | _ => none
open A in
noncomputable def trRs (k : Nat) : Con
  | [.agg [.int .i64 x, .int .i64 y]] => some ((day_RightStamp.f k x y).isSome, .bool (gd (day_RightStamp.f k x y)))
  | _ => none
open A in
noncomputable def trFl (k : Nat) : Con
  | [.int .i64 x, .int .i64 y] => some ((ops_floor.f k x y).isSome, .int .i64 (gd (ops_floor.f k x y)))
  | _ => none
open A in
noncomputable def trWd : Con
  | [.int .i64 x] => some ((civil_Weekday.f x).isSome, .int .i64 (gd (civil_Weekday.f x)))
  | _ => none
open A in
noncomputable def trPa : Con
  | [.agg [.int .i64 x, .int .i64 y]] => some ((day_Parts.f x y).isSome, .tup [.int .i64 (gd (day_Parts.f x y)).1, .int .i64 (gd (day_Parts.f x y)).2.1, .int .i64 (gd (day_Parts.f x y)).2.2.1, .int .i64 (gd (day_Parts.f x y)).2.2.2])
  | _ => none
open A in
noncomputable def trMa : Con
  | [.int .i64 x, .int .i64 y, .int .i64 z] => some ((day_Make.f x y z).isSome, .tup [.agg [.int .i64 (gd (day_Make.f x y z)).1, .int .i64 (gd (day_Make.f x y z)).2.1], .int .i64 (gd (day_Make.f x y z)).2.2])
  | _ => none
open A in
noncomputable def trSt (k : Nat) : Con
  | [.agg [.int .i64 x, .int .i64 y]] => some ((day_Start.f k x y).isSome, .tup [.agg [.int .i64 (gd (day_Start.f k x y)).1, .int .i64 (gd (day_Start.f k x y)).2.1], .int .i64 (gd (day_Start.f k x y)).2.2])
  | _ => none
open A in
def trUn : Con
  | [.str f] => if f.data.toList = [109, 105, 99, 114, 111, 115, 101, 99, 111, 110, 100, 115] then some (true, .int .i64 1) else if f.data.toList = [109, 105, 108, 108, 105, 115, 101, 99, 111, 110, 100, 115] then some (true, .int .i64 1000) else if f.data.toList = [115, 101, 99, 111, 110, 100] then some (true, .int .i64 1000000) else if f.data.toList = [109, 105, 110, 117, 116, 101] then some (true, .int .i64 60000000) else if f.data.toList = [104, 111, 117, 114] then some (true, .int .i64 3600000000) else if f.data.toList = [100, 97, 121] then some (true, .int .i64 86400000000) else none
  | _ => none
def trIdx (f : ByteArray) : Option Nat := if f.data.toList = [109, 105, 99, 114, 111, 115, 101, 99, 111, 110, 100, 115] then some 0 else if f.data.toList = [109, 105, 108, 108, 105, 115, 101, 99, 111, 110, 100, 115] then some 1 else if f.data.toList = [115, 101, 99, 111, 110, 100] then some 2 else if f.data.toList = [109, 105, 110, 117, 116, 101] then some 3 else if f.data.toList = [104, 111, 117, 114] then some 4 else if f.data.toList = [100, 97, 121] then some 5 else if f.data.toList = [119, 101, 101, 107] then some 6 else if f.data.toList = [109, 111, 110, 116, 104] then some 7 else if f.data.toList = [113, 117, 97, 114, 116, 101, 114] then some 8 else if f.data.toList = [121, 101, 97, 114] then some 9 else if f.data.toList = [100, 101, 99, 97, 100, 101] then some 10 else if f.data.toList = [99, 101, 110, 116, 117, 114, 121] then some 11 else if f.data.toList = [109, 105, 108, 108, 101, 110, 110, 105, 117, 109] then some 12 else none
open A in
noncomputable def trNo : Con
  | [.str f] => some (decide (trIdx f = none), .bool false)
  | _ => none
open A in
def trDead : Con := fun _ => some (false, .undef)
open A in
theorem trNil {ρ : Names} {W : World} {V : Value} : RV ρ W .nilsl V ↔ V = .slice none 0 0 := ⟨fun h => by cases h; rfl, fun h => by subst h; exact .nilsl⟩
set_option linter.unusedSimpArgs false in
open A in
theorem trOf_ok (k : Nat) : COk Tryz.prog 30 (trOf k) := by
  intro args p v hc hp w A hA
  unfold trOf at hc
  split at hc
  · rename_i x y
    simp only [Option.some.injEq, Prod.mk.injEq] at hc
    obtain ⟨rfl, rfl⟩ := hc
    rcases hf : day_Of.f k x y with _ | ⟨r1, r2, r3, r4⟩
    · rw [hf] at hp; cases hp
    obtain rfl : A = [.agg #[.int .i64 x, .int .i64 y]] := by simpa [rl_cons, rl_nil, rv_int, rv_bool, rv_str, rv_agg, rv_fn, trNil] using hA
    exact gives_of_calls (fn := Tryz.f30) Tryz.func30 (by kernel_rfl) (by kernel_rfl) (day_Of.calls _ _ _ _ _ _ _ w hf) (fun _ => by simp [gd_some, rl_cons, rl_nil, rv_int, rv_bool, rv_str, rv_agg, rv_tup]) (fun _ h => h)
  · cases hc
open A in
theorem brY {b : Bool} {A B : Prop} (h : b = true) (a : A) : brc b A B := by subst h; exact a
open A in
theorem brN {b : Bool} {A B : Prop} (h : b = false) (a : B) : brc b A B := by subst h; exact a
set_option linter.unusedSimpArgs false in
open A in
theorem trRs_ok (k : Nat) : COk Tryz.prog 44 (trRs k) := by
  intro args p v hc hp w A hA
  unfold trRs at hc
  split at hc
  · rename_i x y
    simp only [Option.some.injEq, Prod.mk.injEq] at hc
    obtain ⟨rfl, rfl⟩ := hc
    rcases hf : day_RightStamp.f k x y with _ | r
    · rw [hf] at hp; cases hp
    obtain rfl : A = [.agg #[.int .i64 x, .int .i64 y]] := by simpa [rl_cons, rl_nil, rv_int, rv_bool, rv_str, rv_agg, rv_fn, trNil] using hA
    exact gives_of_calls (fn := Tryz.f44) Tryz.func44 (by kernel_rfl) (by kernel_rfl) (day_RightStamp.calls _ _ _ _ w hf) (fun _ => by simp [gd_some, rl_cons, rl_nil, rv_int, rv_bool, rv_str, rv_agg, rv_tup]) (fun _ h => h)
  · cases hc
open A in
theorem trMd_vc (k : Nat) (x : Int) (K : AV → Prop) : afv PA Tryz.prog (tab [(44, trRs k)]) noLoops 8 33 [.int .i64 x, .nilsl] K = (brc (Option.isSome (day_RightStamp.f k 0 x)) (∀ (m0 : Bool), m0 = gd (day_RightStamp.f k 0 x) → brc (!m0) (K (AV.tup [AV.agg [AV.int IntKind.i64 0, AV.int IntKind.i64 0], AV.int IntKind.i64 10])) (K (AV.tup [AV.agg [AV.int IntKind.i64 0, AV.int IntKind.i64 x], AV.int IntKind.i64 0]))) False) := by kernel_rfl
open A in
theorem made_calls (k : Nat) (x r1 r2 r3 : Int) (w : World) (h : trMdF k x = some (r1, r2, r3)) : Calls Tryz.prog 33 #[.int .i64 x, .slice none 0 0] w fun e w' => e = .returned (.tuple #[.agg #[.int .i64 r1, .int .i64 r2], .int .i64 r3]) ∧ Below w.heap.size w w' := by
  have hA : RL noNames w [.int .i64 x, .nilsl] [.int .i64 x, .slice none 0 0] := .cons (.int _ _) (.cons .nilsl .nil)
  have hV : ∀ ρ V', RV ρ w (AV.tup [.agg [.int .i64 r1, .int .i64 r2], .int .i64 r3]) V' → V' = .tuple #[.agg #[.int .i64 r1, .int .i64 r2], .int .i64 r3] := fun ρ V' hV => by simpa [rl_cons, rl_nil, rv_int, rv_agg, rv_tup] using hV
  have hT := tab_cons (trRs_ok k) tab_nil
  refine calls_of_vc hT (n := 8) (g := 33) ?_ hA hV
  rw [trMd_vc]
  unfold trMdF at h
  rcases hq : day_RightStamp.f k 0 x with _ | t
  · rw [hq] at h; cases h
  · rw [hq] at h
    refine brY rfl ?_
    intro m hm
    have hm : m = t := hm
    subst hm
    cases m
    · simp at h; obtain ⟨rfl, rfl, rfl⟩ := h; exact brY rfl rfl
    · simp at h; obtain ⟨rfl, rfl, rfl⟩ := h; exact brN rfl rfl
set_option linter.unusedSimpArgs false in
open A in
theorem trMd_ok (k : Nat) : COk Tryz.prog 33 (trMd k) := by
  intro args p v hc hp w A hA
  unfold trMd at hc
  split at hc
  · rename_i x
    simp only [Option.some.injEq, Prod.mk.injEq] at hc
    obtain ⟨rfl, rfl⟩ := hc
    rcases hf : trMdF k x with _ | ⟨r1, r2, r3⟩
    · rw [hf] at hp; cases hp
    obtain rfl : A = [.int .i64 x, .slice none 0 0] := by simpa [rl_cons, rl_nil, rv_int, rv_bool, rv_str, rv_agg, rv_fn, trNil] using hA
    exact gives_of_calls (fn := Tryz.f33) Tryz.func33 (by kernel_rfl) (by kernel_rfl) (made_calls _ _ _ _ _ w hf) (fun _ => by simp [gd_some, rl_cons, rl_nil, rv_int, rv_bool, rv_str, rv_agg, rv_tup]) (fun _ h => h)
  · cases hc
set_option linter.unusedSimpArgs false in
open A in
theorem trFl_ok (k : Nat) : COk Tryz.prog 34 (trFl k) := by
  intro args p v hc hp w A hA
  unfold trFl at hc
  split at hc
  · rename_i x y
    simp only [Option.some.injEq, Prod.mk.injEq] at hc
    obtain ⟨rfl, rfl⟩ := hc
    rcases hf : ops_floor.f k x y with _ | r
    · rw [hf] at hp; cases hp
    obtain rfl : A = [.int .i64 x, .int .i64 y] := by simpa [rl_cons, rl_nil, rv_int, rv_bool, rv_str, rv_agg, rv_fn, trNil] using hA
    exact gives_of_calls (fn := Tryz.f34) Tryz.func34 (by kernel_rfl) (by kernel_rfl) (ops_floor.calls _ _ _ _ w hf) (fun _ => by simp [gd_some, rl_cons, rl_nil, rv_int, rv_bool, rv_str, rv_agg, rv_tup]) (fun _ h => h)
  · cases hc
set_option linter.unusedSimpArgs false in
open A in
theorem trWd_ok : COk Tryz.prog 36 (trWd) := by
  intro args p v hc hp w A hA
  unfold trWd at hc
  split at hc
  · rename_i x
    simp only [Option.some.injEq, Prod.mk.injEq] at hc
    obtain ⟨rfl, rfl⟩ := hc
    rcases hf : civil_Weekday.f x with _ | r
    · rw [hf] at hp; cases hp
    obtain rfl : A = [.int .i64 x] := by simpa [rl_cons, rl_nil, rv_int, rv_bool, rv_str, rv_agg, rv_fn, trNil] using hA
    exact gives_of_calls (fn := Tryz.f36) Tryz.func36 (by kernel_rfl) (by kernel_rfl) (civil_Weekday.calls _ _ w hf) (fun _ => by simp [gd_some, rl_cons, rl_nil, rv_int, rv_bool, rv_str, rv_agg, rv_tup]) (fun _ h => h.below)
  · cases hc
set_option linter.unusedSimpArgs false in
open A in
theorem trPa_ok : COk Tryz.prog 37 (trPa) := by
  intro args p v hc hp w A hA
  unfold trPa at hc
  split at hc
  · rename_i x y
    simp only [Option.some.injEq, Prod.mk.injEq] at hc
    obtain ⟨rfl, rfl⟩ := hc
    rcases hf : day_Parts.f x y with _ | ⟨r1, r2, r3, r4⟩
    · rw [hf] at hp; cases hp
    obtain rfl : A = [.agg #[.int .i64 x, .int .i64 y]] := by simpa [rl_cons, rl_nil, rv_int, rv_bool, rv_str, rv_agg, rv_fn, trNil] using hA
    exact gives_of_calls (fn := Tryz.f37) Tryz.func37 (by kernel_rfl) (by kernel_rfl) (day_Parts.calls _ _ _ _ _ _ w hf) (fun _ => by simp [gd_some, rl_cons, rl_nil, rv_int, rv_bool, rv_str, rv_agg, rv_tup]) (fun _ h => h)
  · cases hc
set_option linter.unusedSimpArgs false in
open A in
theorem trMa_ok : COk Tryz.prog 39 (trMa) := by
  intro args p v hc hp w A hA
  unfold trMa at hc
  split at hc
  · rename_i x y z
    simp only [Option.some.injEq, Prod.mk.injEq] at hc
    obtain ⟨rfl, rfl⟩ := hc
    rcases hf : day_Make.f x y z with _ | ⟨r1, r2, r3⟩
    · rw [hf] at hp; cases hp
    obtain rfl : A = [.int .i64 x, .int .i64 y, .int .i64 z] := by simpa [rl_cons, rl_nil, rv_int, rv_bool, rv_str, rv_agg, rv_fn, trNil] using hA
    exact gives_of_calls (fn := Tryz.f39) Tryz.func39 (by kernel_rfl) (by kernel_rfl) (day_Make.calls _ _ _ _ _ _ w hf) (fun _ => by simp [gd_some, rl_cons, rl_nil, rv_int, rv_bool, rv_str, rv_agg, rv_tup]) (fun _ h => h)
  · cases hc
set_option linter.unusedSimpArgs false in
open A in
theorem trSt_ok (k : Nat) : COk Tryz.prog 40 (trSt k) := by
  intro args p v hc hp w A hA
  unfold trSt at hc
  split at hc
  · rename_i x y
    simp only [Option.some.injEq, Prod.mk.injEq] at hc
    obtain ⟨rfl, rfl⟩ := hc
    rcases hf : day_Start.f k x y with _ | ⟨r1, r2, r3⟩
    · rw [hf] at hp; cases hp
    obtain rfl : A = [.agg #[.int .i64 x, .int .i64 y]] := by simpa [rl_cons, rl_nil, rv_int, rv_bool, rv_str, rv_agg, rv_fn, trNil] using hA
    exact gives_of_calls (fn := Tryz.f40) Tryz.func40 (by kernel_rfl) (by kernel_rfl) (day_Start.calls _ _ _ _ _ _ w hf) (fun _ => by simp [gd_some, rl_cons, rl_nil, rv_int, rv_bool, rv_str, rv_agg, rv_tup]) (fun _ h => h)
  · cases hc
open A in
theorem trDead_ok (g : FuncId) : COk Tryz.prog g trDead := by
  intro args p v hc hp
  simp only [trDead, Option.some.injEq, Prod.mk.injEq] at hc
  rw [← hc.1] at hp; cases hp
open A in
noncomputable def trLo : Con
  | [.str s] => some (decide (s.size ≤ 9223372036854775807), .str (loS s))
  | _ => none
open A in
theorem trLo_ok : COk Tryz.prog 83 trLo := by
  intro args p v hc hp w A hA
  unfold trLo at hc
  split at hc
  · rename_i s
    simp only [Option.some.injEq, Prod.mk.injEq] at hc
    obtain ⟨rfl, rfl⟩ := hc
    obtain rfl : A = [.string s] := by simpa [rl_cons, rl_nil, rv_str] using hA
    exact gives_of_calls (fn := Tryz.f83) Tryz.func83 (by kernel_rfl) (by kernel_rfl) (word_Lower.calls s (of_decide_eq_true hp) w) (fun _ => .str _) (fun _ h => h)
  · cases hc
open A in
theorem trFo_vc (s : ByteArray) (K : AV → Prop) : afv PA Tryz.prog (tab [(83, trLo)]) noLoops 4 29 [.str s] K = (brc (decide (s.size ≤ 9223372036854775807)) (K (AV.str (loS s))) False) := by kernel_rfl
open A in
theorem trFo_ok (f : ByteArray) (hn : f.size ≤ 9223372036854775807) : COk Tryz.prog 29 (trFo f) := by
  intro args p v hc hp w A hA
  unfold trFo at hc
  split at hc
  · rename_i s
    simp only [Option.some.injEq, Prod.mk.injEq] at hc
    obtain ⟨rfl, rfl⟩ := hc
    have e : loS s = f := Go.WideShapes.bytes_inj (of_decide_eq_true hp)
    subst e
    obtain rfl : A = [.string s] := by simpa [rl_cons, rl_nil, rv_str] using hA
    rw [loS_size] at hn
    refine gives_of_calls (fn := Tryz.f29) Tryz.func29 (by kernel_rfl) (by kernel_rfl) (V := .string (loS s)) (R := fun w w' => Below w.heap.size w w') ?_ (fun _ => .str _) (fun _ h => h)
    have hT : TabOk Tryz.prog (tab [(83, trLo)]) := tab_cons trLo_ok tab_nil
    have hA1 : RL noNames w [.str s] [.string s] := by simp [rl_cons, rl_nil, rv_str]
    have hV : ∀ ρ V', RV ρ w (AV.str (loS s)) V' → V' = .string (loS s) := fun ρ V' hV => by simpa [rv_str] using hV
    refine calls_of_vc hT (n := 4) (g := 29) ?_ hA1 hV
    rw [trFo_vc]
    exact brY (decide_eq_true hn) rfl
  · cases hc
open A in
theorem trUnE_0 (K : AV → Prop) : afv PA Tryz.prog (tab []) noLoops 4 35 [.str ⟨#[109, 105, 99, 114, 111, 115, 101, 99, 111, 110, 100, 115]⟩] K = K (.int .i64 1) := by kernel_rfl
open A in
theorem trUnC_0 (w : World) : Calls Tryz.prog 35 #[.string ⟨#[109, 105, 99, 114, 111, 115, 101, 99, 111, 110, 100, 115]⟩] w fun e w' => e = .returned (.int .i64 1) ∧ Below w.heap.size w w' := by
  have hA1 : RL noNames w [.str ⟨#[109, 105, 99, 114, 111, 115, 101, 99, 111, 110, 100, 115]⟩] [.string ⟨#[109, 105, 99, 114, 111, 115, 101, 99, 111, 110, 100, 115]⟩] := by simp [rl_cons, rl_nil, rv_str]
  have hV : ∀ ρ V', RV ρ w (AV.int .i64 1) V' → V' = .int .i64 1 := fun ρ V' hV => by simpa [rv_int] using hV
  refine calls_of_vc tab_nil (n := 4) (g := 35) ?_ hA1 hV
  rw [trUnE_0]
open A in
theorem trUnE_1 (K : AV → Prop) : afv PA Tryz.prog (tab []) noLoops 4 35 [.str ⟨#[109, 105, 108, 108, 105, 115, 101, 99, 111, 110, 100, 115]⟩] K = K (.int .i64 1000) := by kernel_rfl
open A in
theorem trUnC_1 (w : World) : Calls Tryz.prog 35 #[.string ⟨#[109, 105, 108, 108, 105, 115, 101, 99, 111, 110, 100, 115]⟩] w fun e w' => e = .returned (.int .i64 1000) ∧ Below w.heap.size w w' := by
  have hA1 : RL noNames w [.str ⟨#[109, 105, 108, 108, 105, 115, 101, 99, 111, 110, 100, 115]⟩] [.string ⟨#[109, 105, 108, 108, 105, 115, 101, 99, 111, 110, 100, 115]⟩] := by simp [rl_cons, rl_nil, rv_str]
  have hV : ∀ ρ V', RV ρ w (AV.int .i64 1000) V' → V' = .int .i64 1000 := fun ρ V' hV => by simpa [rv_int] using hV
  refine calls_of_vc tab_nil (n := 4) (g := 35) ?_ hA1 hV
  rw [trUnE_1]
open A in
theorem trUnE_2 (K : AV → Prop) : afv PA Tryz.prog (tab []) noLoops 4 35 [.str ⟨#[115, 101, 99, 111, 110, 100]⟩] K = K (.int .i64 1000000) := by kernel_rfl
open A in
theorem trUnC_2 (w : World) : Calls Tryz.prog 35 #[.string ⟨#[115, 101, 99, 111, 110, 100]⟩] w fun e w' => e = .returned (.int .i64 1000000) ∧ Below w.heap.size w w' := by
  have hA1 : RL noNames w [.str ⟨#[115, 101, 99, 111, 110, 100]⟩] [.string ⟨#[115, 101, 99, 111, 110, 100]⟩] := by simp [rl_cons, rl_nil, rv_str]
  have hV : ∀ ρ V', RV ρ w (AV.int .i64 1000000) V' → V' = .int .i64 1000000 := fun ρ V' hV => by simpa [rv_int] using hV
  refine calls_of_vc tab_nil (n := 4) (g := 35) ?_ hA1 hV
  rw [trUnE_2]
open A in
theorem trUnE_3 (K : AV → Prop) : afv PA Tryz.prog (tab []) noLoops 4 35 [.str ⟨#[109, 105, 110, 117, 116, 101]⟩] K = K (.int .i64 60000000) := by kernel_rfl
open A in
theorem trUnC_3 (w : World) : Calls Tryz.prog 35 #[.string ⟨#[109, 105, 110, 117, 116, 101]⟩] w fun e w' => e = .returned (.int .i64 60000000) ∧ Below w.heap.size w w' := by
  have hA1 : RL noNames w [.str ⟨#[109, 105, 110, 117, 116, 101]⟩] [.string ⟨#[109, 105, 110, 117, 116, 101]⟩] := by simp [rl_cons, rl_nil, rv_str]
  have hV : ∀ ρ V', RV ρ w (AV.int .i64 60000000) V' → V' = .int .i64 60000000 := fun ρ V' hV => by simpa [rv_int] using hV
  refine calls_of_vc tab_nil (n := 4) (g := 35) ?_ hA1 hV
  rw [trUnE_3]
open A in
theorem trUnE_4 (K : AV → Prop) : afv PA Tryz.prog (tab []) noLoops 4 35 [.str ⟨#[104, 111, 117, 114]⟩] K = K (.int .i64 3600000000) := by kernel_rfl
open A in
theorem trUnC_4 (w : World) : Calls Tryz.prog 35 #[.string ⟨#[104, 111, 117, 114]⟩] w fun e w' => e = .returned (.int .i64 3600000000) ∧ Below w.heap.size w w' := by
  have hA1 : RL noNames w [.str ⟨#[104, 111, 117, 114]⟩] [.string ⟨#[104, 111, 117, 114]⟩] := by simp [rl_cons, rl_nil, rv_str]
  have hV : ∀ ρ V', RV ρ w (AV.int .i64 3600000000) V' → V' = .int .i64 3600000000 := fun ρ V' hV => by simpa [rv_int] using hV
  refine calls_of_vc tab_nil (n := 4) (g := 35) ?_ hA1 hV
  rw [trUnE_4]
open A in
theorem trUnE_5 (K : AV → Prop) : afv PA Tryz.prog (tab []) noLoops 4 35 [.str ⟨#[100, 97, 121]⟩] K = K (.int .i64 86400000000) := by kernel_rfl
open A in
theorem trUnC_5 (w : World) : Calls Tryz.prog 35 #[.string ⟨#[100, 97, 121]⟩] w fun e w' => e = .returned (.int .i64 86400000000) ∧ Below w.heap.size w w' := by
  have hA1 : RL noNames w [.str ⟨#[100, 97, 121]⟩] [.string ⟨#[100, 97, 121]⟩] := by simp [rl_cons, rl_nil, rv_str]
  have hV : ∀ ρ V', RV ρ w (AV.int .i64 86400000000) V' → V' = .int .i64 86400000000 := fun ρ V' hV => by simpa [rv_int] using hV
  refine calls_of_vc tab_nil (n := 4) (g := 35) ?_ hA1 hV
  rw [trUnE_5]
open A in
theorem trUn_ok : COk Tryz.prog 35 trUn := by
  intro args p v hc hp w A hA
  unfold trUn at hc
  split at hc
  · rename_i f
    obtain rfl : A = [.string f] := by simpa [rl_cons, rl_nil, rv_str] using hA
    by_cases h0 : f.data.toList = [109, 105, 99, 114, 111, 115, 101, 99, 111, 110, 100, 115]
    · rw [if_pos h0] at hc
      simp only [Option.some.injEq, Prod.mk.injEq] at hc
      obtain ⟨rfl, rfl⟩ := hc
      have e : f = ⟨#[109, 105, 99, 114, 111, 115, 101, 99, 111, 110, 100, 115]⟩ := Go.WideShapes.bytes_inj h0
      subst e
      exact gives_of_calls (A := [.string ⟨#[109, 105, 99, 114, 111, 115, 101, 99, 111, 110, 100, 115]⟩]) (fn := Tryz.f35) Tryz.func35 (by kernel_rfl) (by kernel_rfl) (trUnC_0 w) (fun _ => .int _ _) (fun _ h => h)
    rw [if_neg h0] at hc
    by_cases h1 : f.data.toList = [109, 105, 108, 108, 105, 115, 101, 99, 111, 110, 100, 115]
    · rw [if_pos h1] at hc
      simp only [Option.some.injEq, Prod.mk.injEq] at hc
      obtain ⟨rfl, rfl⟩ := hc
      have e : f = ⟨#[109, 105, 108, 108, 105, 115, 101, 99, 111, 110, 100, 115]⟩ := Go.WideShapes.bytes_inj h1
      subst e
      exact gives_of_calls (A := [.string ⟨#[109, 105, 108, 108, 105, 115, 101, 99, 111, 110, 100, 115]⟩]) (fn := Tryz.f35) Tryz.func35 (by kernel_rfl) (by kernel_rfl) (trUnC_1 w) (fun _ => .int _ _) (fun _ h => h)
    rw [if_neg h1] at hc
    by_cases h2 : f.data.toList = [115, 101, 99, 111, 110, 100]
    · rw [if_pos h2] at hc
      simp only [Option.some.injEq, Prod.mk.injEq] at hc
      obtain ⟨rfl, rfl⟩ := hc
      have e : f = ⟨#[115, 101, 99, 111, 110, 100]⟩ := Go.WideShapes.bytes_inj h2
      subst e
      exact gives_of_calls (A := [.string ⟨#[115, 101, 99, 111, 110, 100]⟩]) (fn := Tryz.f35) Tryz.func35 (by kernel_rfl) (by kernel_rfl) (trUnC_2 w) (fun _ => .int _ _) (fun _ h => h)
    rw [if_neg h2] at hc
    by_cases h3 : f.data.toList = [109, 105, 110, 117, 116, 101]
    · rw [if_pos h3] at hc
      simp only [Option.some.injEq, Prod.mk.injEq] at hc
      obtain ⟨rfl, rfl⟩ := hc
      have e : f = ⟨#[109, 105, 110, 117, 116, 101]⟩ := Go.WideShapes.bytes_inj h3
      subst e
      exact gives_of_calls (A := [.string ⟨#[109, 105, 110, 117, 116, 101]⟩]) (fn := Tryz.f35) Tryz.func35 (by kernel_rfl) (by kernel_rfl) (trUnC_3 w) (fun _ => .int _ _) (fun _ h => h)
    rw [if_neg h3] at hc
    by_cases h4 : f.data.toList = [104, 111, 117, 114]
    · rw [if_pos h4] at hc
      simp only [Option.some.injEq, Prod.mk.injEq] at hc
      obtain ⟨rfl, rfl⟩ := hc
      have e : f = ⟨#[104, 111, 117, 114]⟩ := Go.WideShapes.bytes_inj h4
      subst e
      exact gives_of_calls (A := [.string ⟨#[104, 111, 117, 114]⟩]) (fn := Tryz.f35) Tryz.func35 (by kernel_rfl) (by kernel_rfl) (trUnC_4 w) (fun _ => .int _ _) (fun _ h => h)
    rw [if_neg h4] at hc
    by_cases h5 : f.data.toList = [100, 97, 121]
    · rw [if_pos h5] at hc
      simp only [Option.some.injEq, Prod.mk.injEq] at hc
      obtain ⟨rfl, rfl⟩ := hc
      have e : f = ⟨#[100, 97, 121]⟩ := Go.WideShapes.bytes_inj h5
      subst e
      exact gives_of_calls (A := [.string ⟨#[100, 97, 121]⟩]) (fn := Tryz.f35) Tryz.func35 (by kernel_rfl) (by kernel_rfl) (trUnC_5 w) (fun _ => .int _ _) (fun _ h => h)
    rw [if_neg h5] at hc
    cases hc
  · cases hc
theorem trIdx_none {f : ByteArray} (h : trIdx f = none) : ∀ l ∈ ([[109, 105, 99, 114, 111, 115, 101, 99, 111, 110, 100, 115], [109, 105, 108, 108, 105, 115, 101, 99, 111, 110, 100, 115], [115, 101, 99, 111, 110, 100], [109, 105, 110, 117, 116, 101], [104, 111, 117, 114], [100, 97, 121], [119, 101, 101, 107], [109, 111, 110, 116, 104], [113, 117, 97, 114, 116, 101, 114], [121, 101, 97, 114], [100, 101, 99, 97, 100, 101], [99, 101, 110, 116, 117, 114, 121], [109, 105, 108, 108, 101, 110, 110, 105, 117, 109]] : List (List UInt8)), (ByteArray.toList f == ByteArray.toList ⟨l.toArray⟩) = false := by
  unfold trIdx at h
  intro l hl
  rw [ByteArray.toList_eq, ByteArray.toList_eq]
  simp only [beq_eq_false_iff_ne, ne_eq]
  intro e
  simp only [List.mem_cons, List.not_mem_nil, or_false] at hl
  (repeat' split at h) <;> (try (cases h; done))
  rcases hl with rfl | rfl | rfl | rfl | rfl | rfl | rfl | rfl | rfl | rfl | rfl | rfl | rfl <;> simp_all
open A in
theorem trSm_vc (f : ByteArray) (K : AV → Prop) : afv PA Tryz.prog (tab []) noLoops 14 31 [.str f] K = (brc (ByteArray.toList f == ByteArray.toList { data := #[109, 105, 99, 114, 111, 115, 101, 99, 111, 110, 100, 115] }) (K (AV.bool true)) (brc (ByteArray.toList f == ByteArray.toList { data := #[109, 105, 108, 108, 105, 115, 101, 99, 111, 110, 100, 115] }) (K (AV.bool true)) (brc (ByteArray.toList f == ByteArray.toList { data := #[115, 101, 99, 111, 110, 100] }) (K (AV.bool true)) (brc (ByteArray.toList f == ByteArray.toList { data := #[109, 105, 110, 117, 116, 101] }) (K (AV.bool true)) (brc (ByteArray.toList f == ByteArray.toList { data := #[104, 111, 117, 114] }) (K (AV.bool true)) (K (AV.bool false))))))) := by kernel_rfl
open A in
theorem trSm_ok : COk Tryz.prog 31 trNo := by
  intro args p v hc hp w A hA
  unfold trNo at hc
  split at hc
  · rename_i f
    simp only [Option.some.injEq, Prod.mk.injEq] at hc
    obtain ⟨rfl, rfl⟩ := hc
    obtain rfl : A = [.string f] := by simpa [rl_cons, rl_nil, rv_str] using hA
    have hA1 : RL noNames w [.str f] [.string f] := by simp [rl_cons, rl_nil, rv_str]
    have hV : ∀ ρ V', RV ρ w (AV.bool false) V' → V' = .bool false := fun ρ V' hV => by simpa [rv_bool] using hV
    have hn := trIdx_none (of_decide_eq_true hp)
    refine gives_of_calls (A := [.string f]) (fn := Tryz.f31) Tryz.func31 (by kernel_rfl) (by kernel_rfl) (V := .bool false) (R := fun w w' => Below w.heap.size w w') ?_ (fun _ => .bool _) (fun _ h => h)
    refine calls_of_vc tab_nil (n := 14) (g := 31) ?_ hA1 hV
    rw [trSm_vc]
    repeat' first
      | rfl
      | refine brN (hn _ (by simp)) ?_
  · cases hc
open A in
theorem trDa_vc (f : ByteArray) (K : AV → Prop) : afv PA Tryz.prog (tab []) noLoops 22 32 [.str f] K = (brc (ByteArray.toList f == ByteArray.toList { data := #[100, 97, 121] }) (K (AV.bool true)) (brc (ByteArray.toList f == ByteArray.toList { data := #[119, 101, 101, 107] }) (K (AV.bool true)) (brc (ByteArray.toList f == ByteArray.toList { data := #[109, 111, 110, 116, 104] }) (K (AV.bool true)) (brc (ByteArray.toList f == ByteArray.toList { data := #[113, 117, 97, 114, 116, 101, 114] }) (K (AV.bool true)) (brc (ByteArray.toList f == ByteArray.toList { data := #[121, 101, 97, 114] }) (K (AV.bool true)) (brc (ByteArray.toList f == ByteArray.toList { data := #[100, 101, 99, 97, 100, 101] }) (K (AV.bool true)) (brc (ByteArray.toList f == ByteArray.toList { data := #[99, 101, 110, 116, 117, 114, 121] }) (K (AV.bool true)) (brc (ByteArray.toList f == ByteArray.toList { data := #[109, 105, 108, 108, 101, 110, 110, 105, 117, 109] }) (K (AV.bool true)) (K (AV.bool false)))))))))) := by kernel_rfl
open A in
theorem trDa_ok : COk Tryz.prog 32 trNo := by
  intro args p v hc hp w A hA
  unfold trNo at hc
  split at hc
  · rename_i f
    simp only [Option.some.injEq, Prod.mk.injEq] at hc
    obtain ⟨rfl, rfl⟩ := hc
    obtain rfl : A = [.string f] := by simpa [rl_cons, rl_nil, rv_str] using hA
    have hA1 : RL noNames w [.str f] [.string f] := by simp [rl_cons, rl_nil, rv_str]
    have hV : ∀ ρ V', RV ρ w (AV.bool false) V' → V' = .bool false := fun ρ V' hV => by simpa [rv_bool] using hV
    have hn := trIdx_none (of_decide_eq_true hp)
    refine gives_of_calls (A := [.string f]) (fn := Tryz.f32) Tryz.func32 (by kernel_rfl) (by kernel_rfl) (V := .bool false) (R := fun w w' => Below w.heap.size w w') ?_ (fun _ => .bool _) (fun _ h => h)
    refine calls_of_vc tab_nil (n := 22) (g := 32) ?_ hA1 hV
    rw [trDa_vc]
    repeat' first
      | rfl
      | refine brN (hn _ (by simp)) ?_
  · cases hc
open A in
theorem trTab (k : Nat) (f : ByteArray) (hn : f.size ≤ 9223372036854775807) : TabOk Tryz.prog (tab [(29, trFo f), (30, trOf k), (33, trMd k), (34, trFl k), (35, trUn), (36, trWd), (37, trPa), (39, trMa), (40, trSt k)]) :=
  tab_cons (trFo_ok f hn) (tab_cons (trOf_ok k) (tab_cons (trMd_ok k) (tab_cons (trFl_ok k) (tab_cons trUn_ok (tab_cons trWd_ok (tab_cons trPa_ok (tab_cons trMa_ok (tab_cons (trSt_ok k) tab_nil))))))))
open A in
theorem trTabN (k : Nat) (f : ByteArray) (hn : f.size ≤ 9223372036854775807) : TabOk Tryz.prog (tab [(29, trFo f), (30, trOf k), (31, trNo), (32, trNo), (33, trDead), (34, trDead), (35, trDead), (36, trDead), (37, trDead), (38, trDead), (39, trDead), (40, trDead)]) :=
  tab_cons (trFo_ok f hn) (tab_cons (trOf_ok k) (tab_cons trSm_ok (tab_cons trDa_ok (tab_cons (trDead_ok _) (tab_cons (trDead_ok _) (tab_cons (trDead_ok _) (tab_cons (trDead_ok _) (tab_cons (trDead_ok _) (tab_cons (trDead_ok _) (tab_cons (trDead_ok _) (tab_cons (trDead_ok _) tab_nil)))))))))))
open A in
def trK (K : AV → Prop) (a b c : Int) : Prop := K (.tup [.agg [.int .i64 a, .int .i64 b], .int .i64 c])
open A in
def trQ1 (o : Option Int) (C : Int → Prop) : Prop := brc (Option.isSome o) (∀ (m : Int), m = gd o → C m) False
open A in
def trQ3 (o : Option (Int × Int × Int)) (C : Int → Int → Int → Prop) : Prop := brc (Option.isSome o) (∀ (m0 : Int), m0 = Prod.fst (gd o) → ∀ (m1 : Int), m1 = Prod.fst (Prod.snd (gd o)) → ∀ (m2 : Int), m2 = Prod.snd (Prod.snd (gd o)) → C m0 m1 m2) False
open A in
def trQ4 (o : Option (Int × Int × Int × Int)) (C : Int → Int → Int → Int → Prop) : Prop := brc (Option.isSome o) (∀ (m0 : Int), m0 = Prod.fst (gd o) → ∀ (m1 : Int), m1 = Prod.fst (Prod.snd (gd o)) → ∀ (m2 : Int), m2 = Prod.fst (Prod.snd (Prod.snd (gd o))) → ∀ (m3 : Int), m3 = Prod.snd (Prod.snd (Prod.snd (gd o))) → C m0 m1 m2 m3) False
theorem trQ1_ok {o : Option Int} {a : Int} (h : o = some a) {C : Int → Prop} (hc : C a) : trQ1 o C := by
  subst h; refine brY rfl ?_; rintro _ rfl; exact hc
theorem trQ3_ok {o : Option (Int × Int × Int)} {a b c : Int} (h : o = some (a, b, c)) {C : Int → Int → Int → Prop} (hc : C a b c) : trQ3 o C := by
  subst h; refine brY rfl ?_; rintro _ rfl _ rfl _ rfl; exact hc
theorem trQ4_ok {o : Option (Int × Int × Int × Int)} {a b c d : Int} (h : o = some (a, b, c, d)) {C : Int → Int → Int → Int → Prop} (hc : C a b c d) : trQ4 o C := by
  subst h; refine brY rfl ?_; rintro _ rfl _ rfl _ rfl _ rfl; exact hc
open A in
def trHead (f : ByteArray) (k : Nat) (s : ByteArray) (i u : Int) (K : AV → Prop) (R : Int → Int → Prop) : Prop :=
  brc (decide ((loS s).data.toList = f.data.toList)) (trQ4 (day_Of.f k i u) fun m0 m1 _ m3 => brc (m3 != 0) (trK K 0 0 m3) (brc (i != 0) (trK K i u 0) (R m0 m1))) False
open A in
def trMk (k : Nat) (y m : Int) (K : AV → Prop) : Prop := trQ3 (day_Make.f y m 1) fun a b c => brc (c != 0) (trK K 0 0 c) (trQ3 (day_Start.f k a b) (trK K))
def trSmall (k : Nat) (u c : Int) (K : A.AV → Prop) : Prop := ∀ (m4 : Int), m4 = c → trQ1 (ops_floor.f k u m4) fun m5 => ∀ (m6 : Int), m6 = c → trQ3 (trMdF k (IntKind.wrap .i64 (m5 * m6))) (trK K)
open A in
noncomputable abbrev trTb (k : Nat) (f : ByteArray) : Tab := (tab [(29, trFo f), (30, trOf k), (33, trMd k), (34, trFl k), (35, trUn), (36, trWd), (37, trPa), (39, trMa), (40, trSt k)])
open A in
theorem tr_vc0 (k : Nat) (s : ByteArray) (i u : Int) (K : AV → Prop) : afv PA Tryz.prog (trTb k ⟨#[109, 105, 99, 114, 111, 115, 101, 99, 111, 110, 100, 115]⟩) noLoops 22 9 [.str s, .agg [.int .i64 i, .int .i64 u]] K = trHead ⟨#[109, 105, 99, 114, 111, 115, 101, 99, 111, 110, 100, 115]⟩ k s i u K (fun _ _ => trSmall k u 1 K) := by kernel_rfl
open A in
theorem tr_vc1 (k : Nat) (s : ByteArray) (i u : Int) (K : AV → Prop) : afv PA Tryz.prog (trTb k ⟨#[109, 105, 108, 108, 105, 115, 101, 99, 111, 110, 100, 115]⟩) noLoops 22 9 [.str s, .agg [.int .i64 i, .int .i64 u]] K = trHead ⟨#[109, 105, 108, 108, 105, 115, 101, 99, 111, 110, 100, 115]⟩ k s i u K (fun _ _ => trSmall k u 1000 K) := by kernel_rfl
open A in
theorem tr_vc2 (k : Nat) (s : ByteArray) (i u : Int) (K : AV → Prop) : afv PA Tryz.prog (trTb k ⟨#[115, 101, 99, 111, 110, 100]⟩) noLoops 22 9 [.str s, .agg [.int .i64 i, .int .i64 u]] K = trHead ⟨#[115, 101, 99, 111, 110, 100]⟩ k s i u K (fun _ _ => trSmall k u 1000000 K) := by kernel_rfl
open A in
theorem tr_vc3 (k : Nat) (s : ByteArray) (i u : Int) (K : AV → Prop) : afv PA Tryz.prog (trTb k ⟨#[109, 105, 110, 117, 116, 101]⟩) noLoops 22 9 [.str s, .agg [.int .i64 i, .int .i64 u]] K = trHead ⟨#[109, 105, 110, 117, 116, 101]⟩ k s i u K (fun _ _ => trSmall k u 60000000 K) := by kernel_rfl
open A in
theorem tr_vc4 (k : Nat) (s : ByteArray) (i u : Int) (K : AV → Prop) : afv PA Tryz.prog (trTb k ⟨#[104, 111, 117, 114]⟩) noLoops 22 9 [.str s, .agg [.int .i64 i, .int .i64 u]] K = trHead ⟨#[104, 111, 117, 114]⟩ k s i u K (fun _ _ => trSmall k u 3600000000 K) := by kernel_rfl
open A in
theorem tr_vc5 (k : Nat) (s : ByteArray) (i u : Int) (K : AV → Prop) : afv PA Tryz.prog (trTb k ⟨#[100, 97, 121]⟩) noLoops 22 9 [.str s, .agg [.int .i64 i, .int .i64 u]] K = trHead ⟨#[100, 97, 121]⟩ k s i u K (fun _ _ => trSmall k u 86400000000 K) := by kernel_rfl
open A in
theorem tr_vc6 (k : Nat) (s : ByteArray) (i u : Int) (K : AV → Prop) : afv PA Tryz.prog (trTb k ⟨#[119, 101, 101, 107]⟩) noLoops 22 9 [.str s, .agg [.int .i64 i, .int .i64 u]] K = trHead ⟨#[119, 101, 101, 107]⟩ k s i u K (fun _ m1 => trQ1 (civil_Weekday.f m1) fun m4 => trQ3 (trMdF k (IntKind.wrap .i64 (IntKind.wrap .i64 (m1 - Int.tmod (IntKind.wrap .i64 (m4 + 6)) 7) * 86400000000))) (trK K)) := by kernel_rfl
open A in
theorem tr_vc7 (k : Nat) (s : ByteArray) (i u : Int) (K : AV → Prop) : afv PA Tryz.prog (trTb k ⟨#[109, 111, 110, 116, 104]⟩) noLoops 22 9 [.str s, .agg [.int .i64 i, .int .i64 u]] K = trHead ⟨#[109, 111, 110, 116, 104]⟩ k s i u K (fun m0 m1 => trQ4 (day_Parts.f m0 m1) fun m4 m5 _ _ => trMk k m4 m5 K) := by kernel_rfl
open A in
theorem tr_vc8 (k : Nat) (s : ByteArray) (i u : Int) (K : AV → Prop) : afv PA Tryz.prog (trTb k ⟨#[113, 117, 97, 114, 116, 101, 114]⟩) noLoops 22 9 [.str s, .agg [.int .i64 i, .int .i64 u]] K = trHead ⟨#[113, 117, 97, 114, 116, 101, 114]⟩ k s i u K (fun m0 m1 => trQ4 (day_Parts.f m0 m1) fun m4 m5 _ _ => trMk k m4 (IntKind.wrap .i64 (m5 - Int.tmod (IntKind.wrap .i64 (m5 - 1)) 3)) K) := by kernel_rfl
open A in
theorem tr_vc9 (k : Nat) (s : ByteArray) (i u : Int) (K : AV → Prop) : afv PA Tryz.prog (trTb k ⟨#[121, 101, 97, 114]⟩) noLoops 22 9 [.str s, .agg [.int .i64 i, .int .i64 u]] K = trHead ⟨#[121, 101, 97, 114]⟩ k s i u K (fun m0 m1 => trQ4 (day_Parts.f m0 m1) fun m4 m5 _ _ => trMk k m4 1 K) := by kernel_rfl
open A in
theorem tr_vc10 (k : Nat) (s : ByteArray) (i u : Int) (K : AV → Prop) : afv PA Tryz.prog (trTb k ⟨#[100, 101, 99, 97, 100, 101]⟩) noLoops 22 9 [.str s, .agg [.int .i64 i, .int .i64 u]] K = trHead ⟨#[100, 101, 99, 97, 100, 101]⟩ k s i u K (fun m0 m1 => trQ4 (day_Parts.f m0 m1) fun m4 m5 _ _ => trQ1 (ops_floor.f k m4 10) fun m8 => trMk k (IntKind.wrap .i64 (m8 * 10)) 1 K) := by kernel_rfl
open A in
theorem tr_vc11 (k : Nat) (s : ByteArray) (i u : Int) (K : AV → Prop) : afv PA Tryz.prog (trTb k ⟨#[99, 101, 110, 116, 117, 114, 121]⟩) noLoops 22 9 [.str s, .agg [.int .i64 i, .int .i64 u]] K = trHead ⟨#[99, 101, 110, 116, 117, 114, 121]⟩ k s i u K (fun m0 m1 => trQ4 (day_Parts.f m0 m1) fun m4 m5 _ _ => trQ1 (ops_floor.f k (IntKind.wrap .i64 (m4 - 1)) 100) fun m8 => trMk k (IntKind.wrap .i64 (IntKind.wrap .i64 (m8 * 100) + 1)) 1 K) := by kernel_rfl
open A in
theorem tr_vc12 (k : Nat) (s : ByteArray) (i u : Int) (K : AV → Prop) : afv PA Tryz.prog (trTb k ⟨#[109, 105, 108, 108, 101, 110, 110, 105, 117, 109]⟩) noLoops 22 9 [.str s, .agg [.int .i64 i, .int .i64 u]] K = trHead ⟨#[109, 105, 108, 108, 101, 110, 110, 105, 117, 109]⟩ k s i u K (fun m0 m1 => trQ4 (day_Parts.f m0 m1) fun m4 m5 _ _ => trQ1 (ops_floor.f k (IntKind.wrap .i64 (m4 - 1)) 1000) fun m8 => trMk k (IntKind.wrap .i64 (IntKind.wrap .i64 (m8 * 1000) + 1)) 1 K) := by kernel_rfl
open A in
theorem tr_vcN (k : Nat) (s f : ByteArray) (i u : Int) (K : AV → Prop) : afv PA Tryz.prog (tab [(29, trFo f), (30, trOf k), (31, trNo), (32, trNo), (33, trDead), (34, trDead), (35, trDead), (36, trDead), (37, trDead), (38, trDead), (39, trDead), (40, trDead)]) noLoops 22 9 [.str s, .agg [.int .i64 i, .int .i64 u]] K = (brc (decide (Array.toList (ByteArray.data (loS s)) = Array.toList (ByteArray.data f))) (brc (Option.isSome (day_Of.f k i u)) (∀ (m0 : Int), m0 = Prod.fst (gd (day_Of.f k i u)) → ∀ (m1 : Int), m1 = Prod.fst (Prod.snd (gd (day_Of.f k i u))) → ∀ (m2 : Int), m2 = Prod.fst (Prod.snd (Prod.snd (gd (day_Of.f k i u)))) → ∀ (m3 : Int), m3 = Prod.snd (Prod.snd (Prod.snd (gd (day_Of.f k i u)))) → brc (m3 != 0) (K (AV.tup [AV.agg [AV.int IntKind.i64 0, AV.int IntKind.i64 0], AV.int IntKind.i64 m3])) (brc (decide (trIdx f = none)) (∀ (m4 : Bool), m4 = false → brc (!m4) (brc (decide (trIdx f = none)) (∀ (m5 : Bool), m5 = false → brc (!m5) (K (AV.tup [AV.agg [AV.int IntKind.i64 0, AV.int IntKind.i64 0], AV.int IntKind.i64 23])) (brc (i != 0) (K (AV.tup [AV.agg [AV.int IntKind.i64 i, AV.int IntKind.i64 u], AV.int IntKind.i64 0])) (brc (decide (trIdx f = none)) (∀ (m6 : Bool), m6 = false → brc m6 False (brc (ByteArray.toList f == ByteArray.toList { data := #[100, 97, 121] }) False (brc (ByteArray.toList f == ByteArray.toList { data := #[119, 101, 101, 107] }) False False))) False))) False) (brc (i != 0) (K (AV.tup [AV.agg [AV.int IntKind.i64 i, AV.int IntKind.i64 u], AV.int IntKind.i64 0])) (brc (decide (trIdx f = none)) (∀ (m5 : Bool), m5 = false → brc m5 False (brc (ByteArray.toList f == ByteArray.toList { data := #[100, 97, 121] }) False (brc (ByteArray.toList f == ByteArray.toList { data := #[119, 101, 101, 107] }) False False))) False))) False)) False) False) := by kernel_rfl
/-- The first day's year and month of a field (by its number). -/
def trFirst (k j : Nat) (y m : Int) : Option (Int × Int) := match j with
  | 7 => some (y, m)
  | 8 => some (y, wrap64 (m - Int.tmod (wrap64 (m - 1)) 3))
  | 10 => (ops_floor.f k y 10).bind fun q => some (wrap64 (q * 10), 1)
  | 11 => (ops_floor.f k (wrap64 (y - 1)) 100).bind fun q => some (wrap64 (wrap64 (q * 100) + 1), 1)
  | 12 => (ops_floor.f k (wrap64 (y - 1)) 1000).bind fun q => some (wrap64 (wrap64 (q * 1000) + 1), 1)
  | _ => some (y, 1)
def trUnit (j : Nat) : Int := match j with
  | 0 => 1
  | 1 => 1000
  | 2 => 1000000
  | 3 => 60000000
  | 4 => 3600000000
  | _ => 86400000000
def trCut (k j : Nat) (di d u : Int) : Option (Int × Int × Int) :=
  if j < 6 then (ops_floor.f k u (trUnit j)).bind fun q => trMdF k (wrap64 (q * trUnit j))
  else if j = 6 then (civil_Weekday.f d).bind fun v => trMdF k (wrap64 (wrap64 (d - Int.tmod (wrap64 (v + 6)) 7) * 86400000000))
  else (day_Parts.f di d).bind fun p => (trFirst k j p.1 p.2.1).bind fun q => (day_Make.f q.1 q.2 1).bind fun r => if r.2.2 = 0 then day_Start.f k r.1 r.2.1 else some (0, 0, r.2.2)
def ops_Trunc.f (k : Nat) (a0 : ByteArray) (a1_0 : Int) (a1_1 : Int) : Option (Int × Int × Int) :=
  if a0.size ≤ 9223372036854775807 then
  (day_Of.f k a1_0 a1_1).bind fun o => if o.2.2.2 = 0 then (match trIdx (loS a0) with
    | none => some (0, 0, 23)
    | some j => if a1_0 = 0 then trCut k j o.1 o.2.1 a1_1 else some (a1_0, a1_1, 0))
  else some (0, 0, o.2.2.2)
  else none
theorem trFirst_mono (k j : Nat) (y m : Int) : LeO (trFirst k j y m) (trFirst (k + 1) j y m) := by
  unfold trFirst
  split <;> first | exact LeO.refl _ | exact LeO.bind (ops_floor.mono _ _ _) (fun _ => LeO.refl _)
theorem trMdF_mono (k : Nat) (x : Int) : LeO (trMdF k x) (trMdF (k + 1) x) := LeO.bind (day_RightStamp.mono _ _ _) (fun _ => LeO.refl _)
theorem ops_Trunc.mono : ∀ s i u k, LeO (ops_Trunc.f k s i u) (ops_Trunc.f (k + 1) s i u) := by
  intro s i u k
  unfold ops_Trunc.f
  refine LeO.ite (LeO.bind (day_Of.mono _ _ _) fun o => LeO.ite ?_ (LeO.refl _)) (LeO.refl _)
  split
  · exact LeO.refl _
  · refine LeO.ite ?_ (LeO.refl _)
    unfold trCut
    repeat' first
      | (with_reducible exact ops_floor.mono _ _ _)
      | (with_reducible exact trMdF_mono _ _)
      | (with_reducible exact day_Start.mono _ _ _)
      | (with_reducible exact trFirst_mono _ _ _ _)
      | (with_reducible exact LeO.refl _)
      | (with_reducible refine LeO.ite ?_ ?_)
      | (with_reducible refine LeO.bind ?_ (fun _ => ?_))
theorem trIdx_some {f : ByteArray} {j : Nat} (h : trIdx f = some j) : (j = 0 ∧ f = ⟨#[109, 105, 99, 114, 111, 115, 101, 99, 111, 110, 100, 115]⟩) ∨ (j = 1 ∧ f = ⟨#[109, 105, 108, 108, 105, 115, 101, 99, 111, 110, 100, 115]⟩) ∨ (j = 2 ∧ f = ⟨#[115, 101, 99, 111, 110, 100]⟩) ∨ (j = 3 ∧ f = ⟨#[109, 105, 110, 117, 116, 101]⟩) ∨ (j = 4 ∧ f = ⟨#[104, 111, 117, 114]⟩) ∨ (j = 5 ∧ f = ⟨#[100, 97, 121]⟩) ∨ (j = 6 ∧ f = ⟨#[119, 101, 101, 107]⟩) ∨ (j = 7 ∧ f = ⟨#[109, 111, 110, 116, 104]⟩) ∨ (j = 8 ∧ f = ⟨#[113, 117, 97, 114, 116, 101, 114]⟩) ∨ (j = 9 ∧ f = ⟨#[121, 101, 97, 114]⟩) ∨ (j = 10 ∧ f = ⟨#[100, 101, 99, 97, 100, 101]⟩) ∨ (j = 11 ∧ f = ⟨#[99, 101, 110, 116, 117, 114, 121]⟩) ∨ (j = 12 ∧ f = ⟨#[109, 105, 108, 108, 101, 110, 110, 105, 117, 109]⟩) := by
  unfold trIdx at h
  by_cases h0 : f.data.toList = [109, 105, 99, 114, 111, 115, 101, 99, 111, 110, 100, 115]
  · rw [if_pos h0] at h
    cases h
    exact Or.inl (⟨rfl, Go.WideShapes.bytes_inj h0⟩)
  rw [if_neg h0] at h
  by_cases h1 : f.data.toList = [109, 105, 108, 108, 105, 115, 101, 99, 111, 110, 100, 115]
  · rw [if_pos h1] at h
    cases h
    exact Or.inr (Or.inl (⟨rfl, Go.WideShapes.bytes_inj h1⟩))
  rw [if_neg h1] at h
  by_cases h2 : f.data.toList = [115, 101, 99, 111, 110, 100]
  · rw [if_pos h2] at h
    cases h
    exact Or.inr (Or.inr (Or.inl (⟨rfl, Go.WideShapes.bytes_inj h2⟩)))
  rw [if_neg h2] at h
  by_cases h3 : f.data.toList = [109, 105, 110, 117, 116, 101]
  · rw [if_pos h3] at h
    cases h
    exact Or.inr (Or.inr (Or.inr (Or.inl (⟨rfl, Go.WideShapes.bytes_inj h3⟩))))
  rw [if_neg h3] at h
  by_cases h4 : f.data.toList = [104, 111, 117, 114]
  · rw [if_pos h4] at h
    cases h
    exact Or.inr (Or.inr (Or.inr (Or.inr (Or.inl (⟨rfl, Go.WideShapes.bytes_inj h4⟩)))))
  rw [if_neg h4] at h
  by_cases h5 : f.data.toList = [100, 97, 121]
  · rw [if_pos h5] at h
    cases h
    exact Or.inr (Or.inr (Or.inr (Or.inr (Or.inr (Or.inl (⟨rfl, Go.WideShapes.bytes_inj h5⟩))))))
  rw [if_neg h5] at h
  by_cases h6 : f.data.toList = [119, 101, 101, 107]
  · rw [if_pos h6] at h
    cases h
    exact Or.inr (Or.inr (Or.inr (Or.inr (Or.inr (Or.inr (Or.inl (⟨rfl, Go.WideShapes.bytes_inj h6⟩)))))))
  rw [if_neg h6] at h
  by_cases h7 : f.data.toList = [109, 111, 110, 116, 104]
  · rw [if_pos h7] at h
    cases h
    exact Or.inr (Or.inr (Or.inr (Or.inr (Or.inr (Or.inr (Or.inr (Or.inl (⟨rfl, Go.WideShapes.bytes_inj h7⟩))))))))
  rw [if_neg h7] at h
  by_cases h8 : f.data.toList = [113, 117, 97, 114, 116, 101, 114]
  · rw [if_pos h8] at h
    cases h
    exact Or.inr (Or.inr (Or.inr (Or.inr (Or.inr (Or.inr (Or.inr (Or.inr (Or.inl (⟨rfl, Go.WideShapes.bytes_inj h8⟩)))))))))
  rw [if_neg h8] at h
  by_cases h9 : f.data.toList = [121, 101, 97, 114]
  · rw [if_pos h9] at h
    cases h
    exact Or.inr (Or.inr (Or.inr (Or.inr (Or.inr (Or.inr (Or.inr (Or.inr (Or.inr (Or.inl (⟨rfl, Go.WideShapes.bytes_inj h9⟩))))))))))
  rw [if_neg h9] at h
  by_cases h10 : f.data.toList = [100, 101, 99, 97, 100, 101]
  · rw [if_pos h10] at h
    cases h
    exact Or.inr (Or.inr (Or.inr (Or.inr (Or.inr (Or.inr (Or.inr (Or.inr (Or.inr (Or.inr (Or.inl (⟨rfl, Go.WideShapes.bytes_inj h10⟩)))))))))))
  rw [if_neg h10] at h
  by_cases h11 : f.data.toList = [99, 101, 110, 116, 117, 114, 121]
  · rw [if_pos h11] at h
    cases h
    exact Or.inr (Or.inr (Or.inr (Or.inr (Or.inr (Or.inr (Or.inr (Or.inr (Or.inr (Or.inr (Or.inr (Or.inl (⟨rfl, Go.WideShapes.bytes_inj h11⟩))))))))))))
  rw [if_neg h11] at h
  by_cases h12 : f.data.toList = [109, 105, 108, 108, 101, 110, 110, 105, 117, 109]
  · rw [if_pos h12] at h
    cases h
    exact Or.inr (Or.inr (Or.inr (Or.inr (Or.inr (Or.inr (Or.inr (Or.inr (Or.inr (Or.inr (Or.inr (Or.inr (⟨rfl, Go.WideShapes.bytes_inj h12⟩))))))))))))
  rw [if_neg h12] at h
  cases h
theorem trHead_ok {f s : ByteArray} {k : Nat} {i u r1 r2 r3 o1 o2 o3 o4 : Int} {X : Option (Int × Int × Int)} {R : Int → Int → Prop} (e : loS s = f) (hO : day_Of.f k i u = some (o1, o2, o3, o4))
    (h : (if o4 = 0 then (if i = 0 then X else some (i, u, 0)) else some (0, 0, o4)) = some (r1, r2, r3)) (hR : X = some (r1, r2, r3) → R o1 o2) : trHead f k s i u (fun v => v = .tup [.agg [.int .i64 r1, .int .i64 r2], .int .i64 r3]) R := by
  refine brY (decide_eq_true (by rw [e])) (trQ4_ok hO ?_)
  by_cases h4 : o4 = 0
  · rw [if_pos h4] at h
    refine brN (by simp [h4]) ?_
    by_cases hi : i = 0
    · rw [if_pos hi] at h
      exact brN (by simp [hi]) (hR h)
    · rw [if_neg hi] at h
      refine brY (by simp [hi]) ?_
      simp only [Option.some.injEq, Prod.mk.injEq] at h
      obtain ⟨rfl, rfl, rfl⟩ := h
      rfl
  · rw [if_neg h4] at h
    simp only [Option.some.injEq, Prod.mk.injEq] at h
    obtain ⟨rfl, rfl, rfl⟩ := h
    exact brY (by simp [h4]) rfl
theorem trSmall_ok {k j : Nat} (hj : j < 6) {u d1 d2 r1 r2 r3 : Int} (h : trCut k j d1 d2 u = some (r1, r2, r3)) : trSmall k u (trUnit j) (fun v => v = .tup [.agg [.int .i64 r1, .int .i64 r2], .int .i64 r3]) := by
  simp only [trCut, if_pos hj, Option.bind_eq_some_iff] at h
  obtain ⟨q, hq, h⟩ := h
  rintro _ rfl
  refine trQ1_ok hq ?_
  rintro _ rfl
  rw [A.wrap_i64]
  exact trQ3_ok h rfl
open A in
theorem trMk_ok {k : Nat} {y m r1 r2 r3 : Int} (h : ((day_Make.f y m 1).bind fun r => if r.2.2 = 0 then day_Start.f k r.1 r.2.1 else some (0, 0, r.2.2)) = some (r1, r2, r3)) : trMk k y m (fun v => v = .tup [.agg [.int .i64 r1, .int .i64 r2], .int .i64 r3]) := by
  simp only [Option.bind_eq_some_iff] at h
  obtain ⟨⟨z1, z2, z3⟩, hz, h⟩ := h
  refine trQ3_ok hz ?_
  simp only at h
  by_cases hz3 : z3 = 0
  · rw [if_pos hz3] at h
    exact brN (by simp [hz3]) (trQ3_ok h rfl)
  · rw [if_neg hz3] at h
    refine brY (by simp [hz3]) ?_
    simp only [Option.some.injEq, Prod.mk.injEq] at h
    obtain ⟨rfl, rfl, rfl⟩ := h
    rfl
theorem trBig {k j : Nat} (hj : ¬ j < 6 ∧ ¬ j = 6) {u o1 o2 r1 r2 r3 : Int} (h : trCut k j o1 o2 u = some (r1, r2, r3)) {C : Int → Int → Prop}
    (hC : ∀ y m, ((trFirst k j y m).bind fun q => (day_Make.f q.1 q.2 1).bind fun r => if r.2.2 = 0 then day_Start.f k r.1 r.2.1 else some (0, 0, r.2.2)) = some (r1, r2, r3) → C y m) : trQ4 (day_Parts.f o1 o2) fun m4 m5 _ _ => C m4 m5 := by
  simp only [trCut, if_neg hj.1, if_neg hj.2] at h
  rcases hp : day_Parts.f o1 o2 with _ | ⟨p1, p2, p3, p4⟩
  · rw [hp] at h; cases h
  rw [hp] at h
  exact trQ4_ok rfl (hC p1 p2 h)
theorem trFl1 {k : Nat} {a b y2 : Int} {g : Int → Int} {r1 r2 r3 : Int} {D : Int × Int → Option (Int × Int × Int)} (h : (((ops_floor.f k a b).bind fun q => some (g q, y2)).bind D) = some (r1, r2, r3)) {C : Int → Prop} (hC : ∀ q, D (g q, y2) = some (r1, r2, r3) → C q) : trQ1 (ops_floor.f k a b) C := by
  rcases hq : ops_floor.f k a b with _ | q
  · rw [hq] at h; cases h
  rw [hq] at h
  exact trQ1_ok rfl (hC q h)
set_option linter.unusedSimpArgs false in
set_option maxHeartbeats 8000000 in
open A in
theorem ops_Trunc.calls (k : Nat) (a0 : ByteArray) (a1_0 : Int) (a1_1 : Int) (r1 : Int) (r2 : Int) (r3 : Int) (w : World) (h : ops_Trunc.f k a0 a1_0 a1_1 = some (r1, r2, r3)) :
    Calls Tryz.prog 9 #[.string a0, .agg #[.int .i64 a1_0, .int .i64 a1_1]] w fun e w' => e = .returned (.tuple #[.agg #[.int .i64 r1, .int .i64 r2], .int .i64 r3]) ∧ Below w.heap.size w w' := by
  have hA : RL noNames w [.str a0, .agg [.int .i64 a1_0, .int .i64 a1_1]] [.string a0, .agg #[.int .i64 a1_0, .int .i64 a1_1]] := by simp [rl_cons, rl_nil, rv_int, rv_str, rv_agg]
  have hV : ∀ ρ V', RV ρ w (AV.tup [.agg [.int .i64 r1, .int .i64 r2], .int .i64 r3]) V' → V' = .tuple #[.agg #[.int .i64 r1, .int .i64 r2], .int .i64 r3] := fun ρ V' hV => by simpa [rl_cons, rl_nil, rv_int, rv_agg, rv_tup] using hV
  unfold ops_Trunc.f at h
  by_cases hn : a0.size ≤ 9223372036854775807
  case neg => rw [if_neg hn] at h; cases h
  rw [if_pos hn] at h
  have hn2 : (loS a0).size ≤ 9223372036854775807 := by rw [loS_size]; exact hn
  simp only [Option.bind_eq_some_iff] at h
  obtain ⟨⟨o1, o2, o3, o4⟩, hO, h⟩ := h
  simp only at h
  rcases hj : trIdx (loS a0) with _ | j
  · have hT := trTabN k (loS a0) hn2
    refine calls_of_vc hT (n := 22) (g := 9) ?_ hA hV
    rw [tr_vcN]
    rw [hj] at h
    refine brY (decide_eq_true rfl) (trQ4_ok hO ?_)
    by_cases h4 : o4 = 0
    · rw [if_pos h4] at h
      simp only [Option.some.injEq, Prod.mk.injEq] at h
      obtain ⟨rfl, rfl, rfl⟩ := h
      refine brN (by simp [h4]) (brY (decide_eq_true hj) ?_)
      rintro _ rfl
      refine brY rfl (brY (decide_eq_true hj) ?_)
      rintro _ rfl
      exact brY rfl rfl
    · rw [if_neg h4] at h
      simp only [Option.some.injEq, Prod.mk.injEq] at h
      obtain ⟨rfl, rfl, rfl⟩ := h
      exact brY (by simp [h4]) rfl
  · rw [hj] at h
    have hT := trTab k (loS a0) hn2
    have ha := trIdx_some hj
    rcases ha with ⟨rfl, e⟩ | ⟨rfl, e⟩ | ⟨rfl, e⟩ | ⟨rfl, e⟩ | ⟨rfl, e⟩ | ⟨rfl, e⟩ | ⟨rfl, e⟩ | ⟨rfl, e⟩ | ⟨rfl, e⟩ | ⟨rfl, e⟩ | ⟨rfl, e⟩ | ⟨rfl, e⟩ | ⟨rfl, e⟩ <;> rw [e] at hT <;> refine calls_of_vc hT (n := 22) (g := 9) ?_ hA hV
    · rw [tr_vc0]
      exact trHead_ok e hO h fun h => trSmall_ok (j := 0) (by decide) h
    · rw [tr_vc1]
      exact trHead_ok e hO h fun h => trSmall_ok (j := 1) (by decide) h
    · rw [tr_vc2]
      exact trHead_ok e hO h fun h => trSmall_ok (j := 2) (by decide) h
    · rw [tr_vc3]
      exact trHead_ok e hO h fun h => trSmall_ok (j := 3) (by decide) h
    · rw [tr_vc4]
      exact trHead_ok e hO h fun h => trSmall_ok (j := 4) (by decide) h
    · rw [tr_vc5]
      exact trHead_ok e hO h fun h => trSmall_ok (j := 5) (by decide) h
    · rw [tr_vc6]
      simp only [wrap_i64]
      refine trHead_ok e hO h fun h => ?_
      simp only [trCut, if_neg (show ¬ 6 < 6 by decide), if_pos, Option.bind_eq_some_iff] at h
      obtain ⟨q, hq, h⟩ := h
      exact trQ1_ok hq (trQ3_ok h rfl)
    · rw [tr_vc7]
      exact trHead_ok e hO h fun h => trBig (by decide) h fun y m h => trMk_ok h
    · rw [tr_vc8]
      simp only [wrap_i64]
      exact trHead_ok e hO h fun h => trBig (by decide) h fun y m h => trMk_ok h
    · rw [tr_vc9]
      exact trHead_ok e hO h fun h => trBig (by decide) h fun y m h => trMk_ok h
    · rw [tr_vc10]
      simp only [wrap_i64]
      exact trHead_ok e hO h fun h => trBig (by decide) h fun y m h => trFl1 h fun q h => trMk_ok h
    · rw [tr_vc11]
      simp only [wrap_i64]
      exact trHead_ok e hO h fun h => trBig (by decide) h fun y m h => trFl1 h fun q h => trMk_ok h
    · rw [tr_vc12]
      simp only [wrap_i64]
      exact trHead_ok e hO h fun h => trBig (by decide) h fun y m h => trFl1 h fun q h => trMk_ok h
noncomputable def ops_Trunc.con (k : Nat) : Con
  | [.str a0, .agg [.int .i64 a1_0, .int .i64 a1_1]] => some ((ops_Trunc.f k a0 a1_0 a1_1).isSome, .tup [.agg [.int .i64 (gd (ops_Trunc.f k a0 a1_0 a1_1)).1, .int .i64 (gd (ops_Trunc.f k a0 a1_0 a1_1)).2.1], .int .i64 (gd (ops_Trunc.f k a0 a1_0 a1_1)).2.2])
  | _ => none
set_option maxRecDepth 100000 in
theorem ops_Trunc.cok (k : Nat) : COk Tryz.prog 9 (ops_Trunc.con k) := by
  intro args p v hc hp w A hA
  unfold ops_Trunc.con at hc
  split at hc
  · rename_i a0 a1_0 a1_1
    simp only [Option.some.injEq, Prod.mk.injEq] at hc
    obtain ⟨rfl, rfl⟩ := hc
    rcases hf : ops_Trunc.f k a0 a1_0 a1_1 with _ | ⟨r1, r2, r3⟩
    · rw [hf] at hp; cases hp
    obtain rfl : A = [.string a0, .agg #[.int .i64 a1_0, .int .i64 a1_1]] := by simpa [rl_cons, rl_nil, rv_int, rv_bool, rv_str, rv_agg, rv_fn] using hA
    exact gives_of_calls (fn := Tryz.f9) Tryz.func9 (by kernel_rfl) (by kernel_rfl) (ops_Trunc.calls _ _ _ _ _ _ _ w hf) (fun _ => by simp [gd_some, rl_cons, rl_nil, rv_int, rv_bool, rv_str, rv_agg, rv_tup]) (fun _ h => h)
  · cases hc
theorem ops_Trunc.up {k : Nat} {a0 : ByteArray} {a1_0 : Int} {a1_1 : Int} {r : Int × Int × Int} (h : ops_Trunc.f k a0 a1_0 a1_1 = some r) : ops_Trunc.f (k + 1) a0 a1_0 a1_1 = some r := ops_Trunc.mono a0 a1_0 a1_1 k _ h
theorem ops_Trunc.le {a0 : ByteArray} {a1_0 : Int} {a1_1 : Int} {r : Int × Int × Int} {k n : Nat} (h : ops_Trunc.f k a0 a1_0 a1_1 = some r) (hk : k ≤ n) : ops_Trunc.f n a0 a1_0 a1_1 = some r := by
  induction hk with
  | refl => exact h
  | step _ ih => exact ops_Trunc.up ih
end Go.Proofs.YthkmckmfgglafaaGreat.P
namespace Go.Proofs.YthkmckmfgglafaaGreat.P
open Go.RowKit Go.Proofs.YthkmckmfgglafaaGreatW.PrintWords Go.Proofs.YthkmckmfgglafaaGreatW.PrintLast Go.Proofs.YthkmckmfgglafaaGreatW.PrintMore
open Go.Proofs.YthkmckmfgglafaaGreat.A
attribute [local go_sem] max2_int min2_int max_two min_two max_three min_three max_four min_four   -- for this text's walks alone
set_option linter.unusedVariables false
set_option linter.unusedSimpArgs false
-- NOT PRINTED: function 17 (ops_Extract)
def computusref02_mod.f (a0 : Int) (a1 : Int) : Option (Int) := if a1 = 0 then (none) else (if (Int.tmod a0 a1) < 0 then (some (wrap64 ((Int.tmod a0 a1) + a1))) else (some (Int.tmod a0 a1)))
set_option maxHeartbeats 8000000 in
set_option maxRecDepth 100000 in
theorem computusref02_mod.calls (a0 : Int) (a1 : Int) (r : Int) (w : World) (h : computusref02_mod.f a0 a1 = some r) :
    Calls Tryz.prog 113 #[.int .i64 a0, .int .i64 a1] w fun e w' => e = .returned (.int .i64 r) ∧ Drawn0 w w' := by
  have H : (if a1 = 0 then (none) else (if (Int.tmod a0 a1) < 0 then (some (wrap64 ((Int.tmod a0 a1) + a1))) else (some (Int.tmod a0 a1)))) = some r := h
  clear h
  by_cases c3 : a1 = 0
  · rw [if_pos c3] at H
    exact absurd H (by simp)
  · rw [if_neg c3] at H
    have c3b0 : (a1 == 0) = false := beq_eq_false_iff_ne.mpr c3
    have c3b1 : (a1 != 0) = true := bne_iff_ne.mpr c3
    by_cases c4 : (Int.tmod a0 a1) < 0
    · rw [if_pos c4] at H
      have c4b0 : decide ((Int.tmod a0 a1) < 0) = true := decide_eq_true c4
      clear c4
      obtain rfl := Option.some.inj H
      go_enter Tryz.func113, Tryz.ntmps113
      go_wp2
      go_ret
      exact ⟨by first | rfl | (simp; done) | (simp [*]; done), by repeat (first | exact Drawn0.refl _ | apply Drawn0.step)⟩
    · rw [if_neg c4] at H
      have c4b0 : decide ((Int.tmod a0 a1) < 0) = false := decide_eq_false c4
      clear c4
      obtain rfl := Option.some.inj H
      go_enter Tryz.func113, Tryz.ntmps113
      go_wp2
      go_ret
      exact ⟨by first | rfl | (simp; done) | (simp [*]; done), by repeat (first | exact Drawn0.refl _ | apply Drawn0.step)⟩
end Go.Proofs.YthkmckmfgglafaaGreat.P
namespace Go.Proofs.YthkmckmfgglafaaGreat.P
open Go.RowKit Go.Proofs.YthkmckmfgglafaaGreatW.PrintWords Go.Proofs.YthkmckmfgglafaaGreatW.PrintLast Go.Proofs.YthkmckmfgglafaaGreatW.PrintMore
open Go.Proofs.YthkmckmfgglafaaGreat.A
attribute [local go_sem] max2_int min2_int max_two min_two max_three min_three max_four min_four   -- for this text's walks alone
set_option linter.unusedVariables false
set_option linter.unusedSimpArgs false
def computusref02_Leap.f (a0 : Int) : Option (Bool) := (computusref02_mod.f a0 4).bind fun t380 => (if t380 = 0 then ((computusref02_mod.f a0 100).bind fun t381 => (if t381 = 0 then ((computusref02_mod.f a0 400).bind fun t382 => (some (t382 == 0))) else (some true))) else (some false))
set_option maxHeartbeats 8000000 in
set_option maxRecDepth 100000 in
theorem computusref02_Leap.calls (a0 : Int) (r : Bool) (w : World) (h : computusref02_Leap.f a0 = some r) :
    Calls Tryz.prog 143 #[.int .i64 a0] w fun e w' => e = .returned (.bool r) ∧ Drawn0 w w' := by
  have H : ((computusref02_mod.f a0 4).bind fun t380 => (if t380 = 0 then ((computusref02_mod.f a0 100).bind fun t381 => (if t381 = 0 then ((computusref02_mod.f a0 400).bind fun t382 => (some (t382 == 0))) else (some true))) else (some false))) = some r := h
  clear h
  replace H := Option.bind_eq_some_iff.mp H
  obtain ⟨t380, A20, H⟩ := H
  replace H : (if t380 = 0 then ((computusref02_mod.f a0 100).bind fun t381 => (if t381 = 0 then ((computusref02_mod.f a0 400).bind fun t382 => (some (t382 == 0))) else (some true))) else (some false)) = some r := H
  have A2 := Aside0.mk A20
  clear A20
  by_cases c3 : t380 = 0
  · rw [if_pos c3] at H
    have c3b0 : (t380 == 0) = true := beq_iff_eq.mpr c3
    have c3b1 : (t380 != 0) = false := bne_eq_false_iff_eq.mpr c3
    clear c3
    replace H := Option.bind_eq_some_iff.mp H
    obtain ⟨t381, A40, H⟩ := H
    replace H : (if t381 = 0 then ((computusref02_mod.f a0 400).bind fun t382 => (some (t382 == 0))) else (some true)) = some r := H
    have A4 := Aside0.mk A40
    clear A40
    by_cases c5 : t381 = 0
    · rw [if_pos c5] at H
      have c5b0 : (t381 == 0) = true := beq_iff_eq.mpr c5
      have c5b1 : (t381 != 0) = false := bne_eq_false_iff_eq.mpr c5
      clear c5
      replace H := Option.bind_eq_some_iff.mp H
      obtain ⟨t382, A60, H⟩ := H
      replace H : (some (t382 == 0)) = some r := H
      have A6 := Aside0.mk A60
      clear A60
      obtain rfl := Option.some.inj H
      go_enter Tryz.func143, Tryz.ntmps143
      go_wp2_with (first | ((with_reducible refine kM (f := 113) rfl ?_); refine goesL_ (some 4) rfl rfl Tryz.func113 (by kernel_rfl) rfl #[.int .i64 a0, .int .i64 4] rfl (by (try simp only [List.map_toArray, List.map_cons, List.map_nil]); first | done | rfl | (simp only [List.length_drop, List.length_take]; rfl)) ?_; (with_reducible refine (computusref02_mod.calls a0 4 t380 _ A2.out).mono ?_); rintro e w' ⟨rfl, ⟨nd, rfl⟩⟩; refine ⟨_, rfl, ?_⟩) | (go_at_call 113; (with_reducible refine (computusref02_mod.calls a0 100 t381 _ A4.out).mono ?_); rintro e w' ⟨rfl, ⟨nd, rfl⟩⟩) | (go_at_call 113; (with_reducible refine (computusref02_mod.calls a0 400 t382 _ A6.out).mono ?_); rintro e w' ⟨rfl, ⟨nd, rfl⟩⟩))
      go_ret
      exact ⟨by first | rfl | (simp; done) | (simp [*]; done), by repeat (first | exact Drawn0.refl _ | apply Drawn0.step)⟩
    · rw [if_neg c5] at H
      have c5b0 : (t381 == 0) = false := beq_eq_false_iff_ne.mpr c5
      have c5b1 : (t381 != 0) = true := bne_iff_ne.mpr c5
      obtain rfl := Option.some.inj H
      go_enter Tryz.func143, Tryz.ntmps143
      go_wp2_with (first | ((with_reducible refine kM (f := 113) rfl ?_); refine goesL_ (some 4) rfl rfl Tryz.func113 (by kernel_rfl) rfl #[.int .i64 a0, .int .i64 4] rfl (by (try simp only [List.map_toArray, List.map_cons, List.map_nil]); first | done | rfl | (simp only [List.length_drop, List.length_take]; rfl)) ?_; (with_reducible refine (computusref02_mod.calls a0 4 t380 _ A2.out).mono ?_); rintro e w' ⟨rfl, ⟨nd, rfl⟩⟩; refine ⟨_, rfl, ?_⟩) | (go_at_call 113; (with_reducible refine (computusref02_mod.calls a0 100 t381 _ A4.out).mono ?_); rintro e w' ⟨rfl, ⟨nd, rfl⟩⟩))
      go_ret
      exact ⟨by first | rfl | (simp; done) | (simp [*]; done), by repeat (first | exact Drawn0.refl _ | apply Drawn0.step)⟩
  · rw [if_neg c3] at H
    have c3b0 : (t380 == 0) = false := beq_eq_false_iff_ne.mpr c3
    have c3b1 : (t380 != 0) = true := bne_iff_ne.mpr c3
    obtain rfl := Option.some.inj H
    go_enter Tryz.func143, Tryz.ntmps143
    go_wp2_with (first | ((with_reducible refine kM (f := 113) rfl ?_); refine goesL_ (some 4) rfl rfl Tryz.func113 (by kernel_rfl) rfl #[.int .i64 a0, .int .i64 4] rfl (by (try simp only [List.map_toArray, List.map_cons, List.map_nil]); first | done | rfl | (simp only [List.length_drop, List.length_take]; rfl)) ?_; (with_reducible refine (computusref02_mod.calls a0 4 t380 _ A2.out).mono ?_); rintro e w' ⟨rfl, ⟨nd, rfl⟩⟩; refine ⟨_, rfl, ?_⟩))
    go_ret
    exact ⟨by first | rfl | (simp; done) | (simp [*]; done), by repeat (first | exact Drawn0.refl _ | apply Drawn0.step)⟩
end Go.Proofs.YthkmckmfgglafaaGreat.P
namespace Go.Proofs.YthkmckmfgglafaaGreat.P
open Go.RowKit Go.Proofs.YthkmckmfgglafaaGreatW.PrintWords Go.Proofs.YthkmckmfgglafaaGreatW.PrintLast Go.Proofs.YthkmckmfgglafaaGreatW.PrintMore
open Go.Proofs.YthkmckmfgglafaaGreat.A
attribute [local go_sem] max2_int min2_int max_two min_two max_three min_three max_four min_four   -- for this text's walks alone
set_option linter.unusedVariables false
set_option linter.unusedSimpArgs false
mutual
def computusref02_Len.j0 : Nat → Int → Int → Bool → Option (Int)
  | 0, _, _, _ => none
  | k + 1, x0, x5, x6 => if x6 = true then (some 31) else (if x5 = 4 then (computusref02_Len.j1 k x0 x5 (x5 == 4)) else (if x5 = 6 then (computusref02_Len.j1 k x0 x5 (x5 == 6)) else (if x5 = 9 then (computusref02_Len.j1 k x0 x5 (x5 == 9)) else (computusref02_Len.j1 k x0 x5 (x5 == 11)))))
def computusref02_Len.j1 : Nat → Int → Int → Bool → Option (Int)
  | 0, _, _, _ => none
  | k + 1, x0, x5, x14 => if x14 = true then (some 30) else (if x5 = 2 then ((computusref02_Leap.f x0).bind fun t383 => (if t383 = true then (some 29) else (some 28))) else (some 0))
end
def computusref02_Len.f (k : Nat) (a0 : Int) (a1 : Int) : Option (Int) := if a1 = 1 then (computusref02_Len.j0 k a0 a1 (a1 == 1)) else (if a1 = 3 then (computusref02_Len.j0 k a0 a1 (a1 == 3)) else (if a1 = 5 then (computusref02_Len.j0 k a0 a1 (a1 == 5)) else (if a1 = 7 then (computusref02_Len.j0 k a0 a1 (a1 == 7)) else (if a1 = 8 then (computusref02_Len.j0 k a0 a1 (a1 == 8)) else (if a1 = 10 then (computusref02_Len.j0 k a0 a1 (a1 == 10)) else (computusref02_Len.j0 k a0 a1 (a1 == 12)))))))
theorem computusref02_Len.mono_l : ∀ k, (∀ y0 y1 y2, LeO (computusref02_Len.j0 k y0 y1 y2) (computusref02_Len.j0 (k + 1) y0 y1 y2)) ∧ (∀ y0 y1 y2, LeO (computusref02_Len.j1 k y0 y1 y2) (computusref02_Len.j1 (k + 1) y0 y1 y2))
  | 0 => ⟨fun _ _ _ r h => by simp [computusref02_Len.j0] at h, fun _ _ _ r h => by simp [computusref02_Len.j1] at h⟩
  | k + 1 => by
    obtain ⟨ih0, ih1⟩ := computusref02_Len.mono_l k
    refine ⟨?_, ?_⟩
    · intro y0 y1 y2
      unfold computusref02_Len.j0
      repeat' first
      | (with_reducible exact ih0 _ _ _)
      | (with_reducible exact ih1 _ _ _)
      | (with_reducible exact LeO.refl _)
      | (with_reducible exact LeO.none _)
      | (with_reducible refine LeO.ite ?_ ?_)
      | (with_reducible refine LeO.bind ?_ (fun _ => ?_))
      | exact ih0 _ _ _
      | exact ih1 _ _ _
      | exact LeO.none _
      | refine LeO.ite ?_ ?_
      | refine LeO.bind ?_ (fun _ => ?_)
    · intro y0 y1 y2
      unfold computusref02_Len.j1
      repeat' first
      | (with_reducible exact ih0 _ _ _)
      | (with_reducible exact ih1 _ _ _)
      | (with_reducible exact LeO.refl _)
      | (with_reducible exact LeO.none _)
      | (with_reducible refine LeO.ite ?_ ?_)
      | (with_reducible refine LeO.bind ?_ (fun _ => ?_))
      | exact ih0 _ _ _
      | exact ih1 _ _ _
      | exact LeO.none _
      | refine LeO.ite ?_ ?_
      | refine LeO.bind ?_ (fun _ => ?_)
theorem computusref02_Len.mono : ∀ a0 a1 k, LeO (computusref02_Len.f k a0 a1) (computusref02_Len.f (k + 1) a0 a1) := by
  intro a0 a1 k
  obtain ⟨ih0, ih1⟩ := computusref02_Len.mono_l k
  unfold computusref02_Len.f
  repeat' first
      | (with_reducible exact ih0 _ _ _)
      | (with_reducible exact ih1 _ _ _)
      | (with_reducible exact LeO.refl _)
      | (with_reducible exact LeO.none _)
      | (with_reducible refine LeO.ite ?_ ?_)
      | (with_reducible refine LeO.bind ?_ (fun _ => ?_))
      | exact ih0 _ _ _
      | exact ih1 _ _ _
      | exact LeO.none _
      | refine LeO.ite ?_ ?_
      | refine LeO.bind ?_ (fun _ => ?_)
set_option maxHeartbeats 8000000 in
set_option maxRecDepth 100000 in
theorem computusref02_Len.calls (k : Nat) (a0 : Int) (a1 : Int) (r : Int) (w : World) (h : computusref02_Len.f k a0 a1 = some r) :
    Calls Tryz.prog 144 #[.int .i64 a0, .int .i64 a1] w fun e w' => e = .returned (.int .i64 r) ∧ Drawn0 w w' := by
  have H : (if a1 = 1 then (computusref02_Len.j0 k a0 a1 (a1 == 1)) else (if a1 = 3 then (computusref02_Len.j0 k a0 a1 (a1 == 3)) else (if a1 = 5 then (computusref02_Len.j0 k a0 a1 (a1 == 5)) else (if a1 = 7 then (computusref02_Len.j0 k a0 a1 (a1 == 7)) else (if a1 = 8 then (computusref02_Len.j0 k a0 a1 (a1 == 8)) else (if a1 = 10 then (computusref02_Len.j0 k a0 a1 (a1 == 10)) else (computusref02_Len.j0 k a0 a1 (a1 == 12)))))))) = some r := h
  clear h
  have HC3 := Aside0.mk H
  clear H
  go_enter Tryz.func144, Tryz.ntmps144
  go_upto_if 6 with (fail)
  go_cut [6] (fun v6 wc => ∃ (kq : Nat) (x6_2 : Bool), v6 = .bool x6_2 ∧ Aside0 (computusref02_Len.j0 kq a0 a1 x6_2 = some r) ∧ Aside0 (kq ≤ k) ∧ Drawn0 w wc)
  case first =>
    have H := HC3.out
    clear HC3
    by_cases c4 : a1 = 1
    · rw [if_pos c4] at H
      have c4b0 : (a1 == 1) = true := beq_iff_eq.mpr c4
      have c4b1 : (a1 != 1) = false := bne_eq_false_iff_eq.mpr c4
      clear c4
      (first | rw [c4b0] | (simp only [i64_w, i32_w]; rw [c4b0]) | skip)
      have H' := Aside0.mk H
      clear H
      go_wp2
      go_meet
      case rel => exact ⟨_, ((a1 == 1)), (by first | rfl | (simp; done) | (simp [*]; done)), H', ⟨by first | omega | exact Nat.le_refl _⟩, by repeat (first | exact Drawn0.refl _ | apply Drawn0.step)⟩
    · rw [if_neg c4] at H
      have c4b0 : (a1 == 1) = false := beq_eq_false_iff_ne.mpr c4
      have c4b1 : (a1 != 1) = true := bne_iff_ne.mpr c4
      (first | rw [c4b0] | (simp only [i64_w, i32_w]; rw [c4b0]) | skip)
      by_cases c5 : a1 = 3
      · rw [if_pos c5] at H
        have c5b0 : (a1 == 3) = true := beq_iff_eq.mpr c5
        have c5b1 : (a1 != 3) = false := bne_eq_false_iff_eq.mpr c5
        clear c5
        have H' := Aside0.mk H
        clear H
        go_wp2
        go_meet
        case rel => exact ⟨_, ((a1 == 3)), (by first | rfl | (simp; done) | (simp [*]; done)), H', ⟨by first | omega | exact Nat.le_refl _⟩, by repeat (first | exact Drawn0.refl _ | apply Drawn0.step)⟩
      · rw [if_neg c5] at H
        have c5b0 : (a1 == 3) = false := beq_eq_false_iff_ne.mpr c5
        have c5b1 : (a1 != 3) = true := bne_iff_ne.mpr c5
        by_cases c6 : a1 = 5
        · rw [if_pos c6] at H
          have c6b0 : (a1 == 5) = true := beq_iff_eq.mpr c6
          have c6b1 : (a1 != 5) = false := bne_eq_false_iff_eq.mpr c6
          clear c6
          have H' := Aside0.mk H
          clear H
          go_wp2
          go_meet
          case rel => exact ⟨_, ((a1 == 5)), (by first | rfl | (simp; done) | (simp [*]; done)), H', ⟨by first | omega | exact Nat.le_refl _⟩, by repeat (first | exact Drawn0.refl _ | apply Drawn0.step)⟩
        · rw [if_neg c6] at H
          have c6b0 : (a1 == 5) = false := beq_eq_false_iff_ne.mpr c6
          have c6b1 : (a1 != 5) = true := bne_iff_ne.mpr c6
          by_cases c7 : a1 = 7
          · rw [if_pos c7] at H
            have c7b0 : (a1 == 7) = true := beq_iff_eq.mpr c7
            have c7b1 : (a1 != 7) = false := bne_eq_false_iff_eq.mpr c7
            clear c7
            have H' := Aside0.mk H
            clear H
            go_wp2
            go_meet
            case rel => exact ⟨_, ((a1 == 7)), (by first | rfl | (simp; done) | (simp [*]; done)), H', ⟨by first | omega | exact Nat.le_refl _⟩, by repeat (first | exact Drawn0.refl _ | apply Drawn0.step)⟩
          · rw [if_neg c7] at H
            have c7b0 : (a1 == 7) = false := beq_eq_false_iff_ne.mpr c7
            have c7b1 : (a1 != 7) = true := bne_iff_ne.mpr c7
            by_cases c8 : a1 = 8
            · rw [if_pos c8] at H
              have c8b0 : (a1 == 8) = true := beq_iff_eq.mpr c8
              have c8b1 : (a1 != 8) = false := bne_eq_false_iff_eq.mpr c8
              clear c8
              have H' := Aside0.mk H
              clear H
              go_wp2
              go_meet
              case rel => exact ⟨_, ((a1 == 8)), (by first | rfl | (simp; done) | (simp [*]; done)), H', ⟨by first | omega | exact Nat.le_refl _⟩, by repeat (first | exact Drawn0.refl _ | apply Drawn0.step)⟩
            · rw [if_neg c8] at H
              have c8b0 : (a1 == 8) = false := beq_eq_false_iff_ne.mpr c8
              have c8b1 : (a1 != 8) = true := bne_iff_ne.mpr c8
              by_cases c9 : a1 = 10
              · rw [if_pos c9] at H
                have c9b0 : (a1 == 10) = true := beq_iff_eq.mpr c9
                have c9b1 : (a1 != 10) = false := bne_eq_false_iff_eq.mpr c9
                clear c9
                have H' := Aside0.mk H
                clear H
                go_wp2
                go_meet
                case rel => exact ⟨_, ((a1 == 10)), (by first | rfl | (simp; done) | (simp [*]; done)), H', ⟨by first | omega | exact Nat.le_refl _⟩, by repeat (first | exact Drawn0.refl _ | apply Drawn0.step)⟩
              · rw [if_neg c9] at H
                have c9b0 : (a1 == 10) = false := beq_eq_false_iff_ne.mpr c9
                have c9b1 : (a1 != 10) = true := bne_iff_ne.mpr c9
                have H' := Aside0.mk H
                clear H
                go_wp2
                go_meet
                case rel => exact ⟨_, ((a1 == 12)), (by first | rfl | (simp; done) | (simp [*]; done)), H', ⟨by first | omega | exact Nat.le_refl _⟩, by repeat (first | exact Drawn0.refl _ | apply Drawn0.step)⟩
  case rest =>
    clear HC3
    try clear c1
    try clear p2
    try clear c4
    try clear c4b0
    try clear c4b1
    try clear c5
    try clear c5b0
    try clear c5b1
    try clear c6
    try clear c6b0
    try clear c6b1
    try clear c7
    try clear c7b0
    try clear c7b1
    try clear c8
    try clear c8b0
    try clear c8b1
    try clear c9
    try clear c9b0
    try clear c9b1
    obtain ⟨kq, x6_2, rfl, HA, HJ2, ⟨mc2, rfl⟩⟩ := hcut
    cases kq with
    | zero => exact absurd HA.out (by simp [computusref02_Len.j0])
    | succ kj2 =>
      have H := HA.out
      clear HA
      simp only [computusref02_Len.j0] at H
      by_cases c10 : x6_2 = true
      · subst c10
        have H1 : (some 31) = some r := by rw [if_pos rfl] at H; exact H
        clear H
        have H := H1
        clear H1
        obtain rfl := Option.some.inj H
        go_wp2
        go_ret
        exact ⟨by first | rfl | (simp; done) | (simp [*]; done), by repeat (first | exact Drawn0.refl _ | apply Drawn0.step)⟩
      · replace c10 := Bool.eq_false_iff.mpr c10
        subst c10
        have H1 : (if a1 = 4 then (computusref02_Len.j1 kj2 a0 a1 (a1 == 4)) else (if a1 = 6 then (computusref02_Len.j1 kj2 a0 a1 (a1 == 6)) else (if a1 = 9 then (computusref02_Len.j1 kj2 a0 a1 (a1 == 9)) else (computusref02_Len.j1 kj2 a0 a1 (a1 == 11))))) = some r := by rw [if_neg (show ¬ (false = true) by decide)] at H; exact H
        clear H
        have H := H1
        clear H1
        have HC11 := Aside0.mk H
        clear H
        go_upto_if 14 with (fail)
        go_cut [14] (fun v14 wc => ∃ (kq : Nat) (x14_10 : Bool), v14 = .bool x14_10 ∧ Aside0 (computusref02_Len.j1 kq a0 a1 x14_10 = some r) ∧ Aside0 (kq ≤ kj2) ∧ Drawn0 w wc)
        case first =>
          have H := HC11.out
          clear HC11
          by_cases c12 : a1 = 4
          · rw [if_pos c12] at H
            have c12b0 : (a1 == 4) = true := beq_iff_eq.mpr c12
            have c12b1 : (a1 != 4) = false := bne_eq_false_iff_eq.mpr c12
            clear c12
            (first | rw [c12b0] | (simp only [i64_w, i32_w]; rw [c12b0]) | skip)
            have H' := Aside0.mk H
            clear H
            go_wp2
            go_meet
            case rel => exact ⟨_, ((a1 == 4)), (by first | rfl | (simp; done) | (simp [*]; done)), H', ⟨by have := HJ2.out; first | omega | exact Nat.le_refl _⟩, by repeat (first | exact Drawn0.refl _ | apply Drawn0.step)⟩
          · rw [if_neg c12] at H
            have c12b0 : (a1 == 4) = false := beq_eq_false_iff_ne.mpr c12
            have c12b1 : (a1 != 4) = true := bne_iff_ne.mpr c12
            (first | rw [c12b0] | (simp only [i64_w, i32_w]; rw [c12b0]) | skip)
            by_cases c13 : a1 = 6
            · rw [if_pos c13] at H
              have c13b0 : (a1 == 6) = true := beq_iff_eq.mpr c13
              have c13b1 : (a1 != 6) = false := bne_eq_false_iff_eq.mpr c13
              clear c13
              have H' := Aside0.mk H
              clear H
              go_wp2
              go_meet
              case rel => exact ⟨_, ((a1 == 6)), (by first | rfl | (simp; done) | (simp [*]; done)), H', ⟨by have := HJ2.out; first | omega | exact Nat.le_refl _⟩, by repeat (first | exact Drawn0.refl _ | apply Drawn0.step)⟩
            · rw [if_neg c13] at H
              have c13b0 : (a1 == 6) = false := beq_eq_false_iff_ne.mpr c13
              have c13b1 : (a1 != 6) = true := bne_iff_ne.mpr c13
              by_cases c14 : a1 = 9
              · rw [if_pos c14] at H
                have c14b0 : (a1 == 9) = true := beq_iff_eq.mpr c14
                have c14b1 : (a1 != 9) = false := bne_eq_false_iff_eq.mpr c14
                clear c14
                have H' := Aside0.mk H
                clear H
                go_wp2
                go_meet
                case rel => exact ⟨_, ((a1 == 9)), (by first | rfl | (simp; done) | (simp [*]; done)), H', ⟨by have := HJ2.out; first | omega | exact Nat.le_refl _⟩, by repeat (first | exact Drawn0.refl _ | apply Drawn0.step)⟩
              · rw [if_neg c14] at H
                have c14b0 : (a1 == 9) = false := beq_eq_false_iff_ne.mpr c14
                have c14b1 : (a1 != 9) = true := bne_iff_ne.mpr c14
                have H' := Aside0.mk H
                clear H
                go_wp2
                go_meet
                case rel => exact ⟨_, ((a1 == 11)), (by first | rfl | (simp; done) | (simp [*]; done)), H', ⟨by have := HJ2.out; first | omega | exact Nat.le_refl _⟩, by repeat (first | exact Drawn0.refl _ | apply Drawn0.step)⟩
        case rest =>
          clear HC11
          try clear c1
          try clear c2
          try clear p2
          try clear c4
          try clear c4b0
          try clear c4b1
          try clear c5
          try clear c5b0
          try clear c5b1
          try clear c6
          try clear c6b0
          try clear c6b1
          try clear c7
          try clear c7b0
          try clear c7b1
          try clear c8
          try clear c8b0
          try clear c8b1
          try clear c9
          try clear c9b0
          try clear c9b1
          try clear c10
          try clear c12
          try clear c12b0
          try clear c12b1
          try clear c13
          try clear c13b0
          try clear c13b1
          try clear c14
          try clear c14b0
          try clear c14b1
          try clear p2
          obtain ⟨kq, x14_10, rfl, HA, HJ10, ⟨mc10, rfl⟩⟩ := hcut
          cases kq with
          | zero => exact absurd HA.out (by simp [computusref02_Len.j1])
          | succ kj10 =>
            have H := HA.out
            clear HA
            simp only [computusref02_Len.j1] at H
            by_cases c15 : x14_10 = true
            · subst c15
              have H1 : (some 30) = some r := by rw [if_pos rfl] at H; exact H
              clear H
              have H := H1
              clear H1
              obtain rfl := Option.some.inj H
              go_wp2
              go_ret
              exact ⟨by first | rfl | (simp; done) | (simp [*]; done), by repeat (first | exact Drawn0.refl _ | apply Drawn0.step)⟩
            · replace c15 := Bool.eq_false_iff.mpr c15
              subst c15
              have H1 : (if a1 = 2 then ((computusref02_Leap.f a0).bind fun t383 => (if t383 = true then (some 29) else (some 28))) else (some 0)) = some r := by rw [if_neg (show ¬ (false = true) by decide)] at H; exact H
              clear H
              have H := H1
              clear H1
              by_cases c16 : a1 = 2
              · rw [if_pos c16] at H
                have c16b0 : (a1 == 2) = true := beq_iff_eq.mpr c16
                have c16b1 : (a1 != 2) = false := bne_eq_false_iff_eq.mpr c16
                clear c16
                replace H := Option.bind_eq_some_iff.mp H
                obtain ⟨t383, A170, H⟩ := H
                replace H : (if t383 = true then (some 29) else (some 28)) = some r := H
                have A17 := Aside0.mk A170
                clear A170
                by_cases c18 : t383 = true
                · subst c18
                  have H1 : (some 29) = some r := by rw [if_pos rfl] at H; exact H
                  clear H
                  have H := H1
                  clear H1
                  obtain rfl := Option.some.inj H
                  go_wp2_with (first | ((with_reducible refine kM (f := 143) rfl ?_); refine goesL_ (some 22) rfl rfl Tryz.func143 (by kernel_rfl) rfl #[.int .i64 a0] rfl (by (try simp only [List.map_toArray, List.map_cons, List.map_nil]); first | done | rfl | (simp only [List.length_drop, List.length_take]; rfl)) ?_; (with_reducible refine (computusref02_Leap.calls a0 true _ A17.out).mono ?_); rintro e w' ⟨rfl, ⟨nd, rfl⟩⟩; refine ⟨_, rfl, ?_⟩))
                  go_ret
                  exact ⟨by first | rfl | (simp; done) | (simp [*]; done), by repeat (first | exact Drawn0.refl _ | apply Drawn0.step)⟩
                · replace c18 := Bool.eq_false_iff.mpr c18
                  subst c18
                  have H1 : (some 28) = some r := by rw [if_neg (show ¬ (false = true) by decide)] at H; exact H
                  clear H
                  have H := H1
                  clear H1
                  obtain rfl := Option.some.inj H
                  go_wp2_with (first | ((with_reducible refine kM (f := 143) rfl ?_); refine goesL_ (some 22) rfl rfl Tryz.func143 (by kernel_rfl) rfl #[.int .i64 a0] rfl (by (try simp only [List.map_toArray, List.map_cons, List.map_nil]); first | done | rfl | (simp only [List.length_drop, List.length_take]; rfl)) ?_; (with_reducible refine (computusref02_Leap.calls a0 false _ A17.out).mono ?_); rintro e w' ⟨rfl, ⟨nd, rfl⟩⟩; refine ⟨_, rfl, ?_⟩))
                  go_ret
                  exact ⟨by first | rfl | (simp; done) | (simp [*]; done), by repeat (first | exact Drawn0.refl _ | apply Drawn0.step)⟩
              · rw [if_neg c16] at H
                have c16b0 : (a1 == 2) = false := beq_eq_false_iff_ne.mpr c16
                have c16b1 : (a1 != 2) = true := bne_iff_ne.mpr c16
                obtain rfl := Option.some.inj H
                go_wp2
                go_ret
                exact ⟨by first | rfl | (simp; done) | (simp [*]; done), by repeat (first | exact Drawn0.refl _ | apply Drawn0.step)⟩
end Go.Proofs.YthkmckmfgglafaaGreat.P
namespace Go.Proofs.YthkmckmfgglafaaGreat.P
open Go.RowKit Go.Proofs.YthkmckmfgglafaaGreatW.PrintWords Go.Proofs.YthkmckmfgglafaaGreatW.PrintLast Go.Proofs.YthkmckmfgglafaaGreatW.PrintMore
open Go.Proofs.YthkmckmfgglafaaGreat.A
attribute [local go_sem] max2_int min2_int max_two min_two max_three min_three max_four min_four   -- for this text's walks alone
set_option linter.unusedVariables false
set_option linter.unusedSimpArgs false
def computusref02_div.f (a0 : Int) (a1 : Int) : Option (Int) := if a1 = 0 then (none) else (if (Int.tmod a0 a1) < 0 then (some (wrap64 ((wrap64 (Int.tdiv a0 a1)) - 1))) else (some (wrap64 (Int.tdiv a0 a1))))
set_option maxHeartbeats 8000000 in
set_option maxRecDepth 100000 in
theorem computusref02_div.calls (a0 : Int) (a1 : Int) (r : Int) (w : World) (h : computusref02_div.f a0 a1 = some r) :
    Calls Tryz.prog 142 #[.int .i64 a0, .int .i64 a1] w fun e w' => e = .returned (.int .i64 r) ∧ Drawn0 w w' := by
  have H : (if a1 = 0 then (none) else (if (Int.tmod a0 a1) < 0 then (some (wrap64 ((wrap64 (Int.tdiv a0 a1)) - 1))) else (some (wrap64 (Int.tdiv a0 a1))))) = some r := h
  clear h
  by_cases c3 : a1 = 0
  · rw [if_pos c3] at H
    exact absurd H (by simp)
  · rw [if_neg c3] at H
    have c3b0 : (a1 == 0) = false := beq_eq_false_iff_ne.mpr c3
    have c3b1 : (a1 != 0) = true := bne_iff_ne.mpr c3
    by_cases c4 : (Int.tmod a0 a1) < 0
    · rw [if_pos c4] at H
      have c4b0 : decide ((Int.tmod a0 a1) < 0) = true := decide_eq_true c4
      clear c4
      obtain rfl := Option.some.inj H
      go_enter Tryz.func142, Tryz.ntmps142
      go_wp2
      go_ret
      exact ⟨by first | rfl | (simp; done) | (simp [*]; done), by repeat (first | exact Drawn0.refl _ | apply Drawn0.step)⟩
    · rw [if_neg c4] at H
      have c4b0 : decide ((Int.tmod a0 a1) < 0) = false := decide_eq_false c4
      clear c4
      obtain rfl := Option.some.inj H
      go_enter Tryz.func142, Tryz.ntmps142
      go_wp2
      go_ret
      exact ⟨by first | rfl | (simp; done) | (simp [*]; done), by repeat (first | exact Drawn0.refl _ | apply Drawn0.step)⟩
def computusref02_start.l0 : Nat → Int → Int → Int → Option (Int)
  | 0, _, _, _ => none
  | k + 1, x0, x3, x4 => (computusref02_mod.f (wrap64 (x0 - 2000)) 400).bind fun t385 => (if x4 < t385 then ((computusref02_Leap.f (wrap64 (2000 + x4))).bind fun t386 => (if t386 = true then (computusref02_start.l0 k x0 (wrap64 ((wrap64 (x3 + 365)) + 1)) (wrap64 (x4 + 1))) else (computusref02_start.l0 k x0 (wrap64 (x3 + 365)) (wrap64 (x4 + 1))))) else (some x3))
def computusref02_start.f (k : Nat) (a0 : Int) : Option (Int) := (computusref02_div.f (wrap64 (a0 - 2000)) 400).bind fun t384 => (computusref02_start.l0 k a0 (wrap64 (t384 * 146097)) 0)
theorem computusref02_start.mono_l : ∀ k, (∀ y0 y1 y2, LeO (computusref02_start.l0 k y0 y1 y2) (computusref02_start.l0 (k + 1) y0 y1 y2))
  | 0 => fun _ _ _ r h => by simp [computusref02_start.l0] at h
  | k + 1 => by
    have ih0 := computusref02_start.mono_l k
    · intro y0 y1 y2
      unfold computusref02_start.l0
      repeat' first
      | (with_reducible exact ih0 _ _ _)
      | (with_reducible exact LeO.refl _)
      | (with_reducible exact LeO.none _)
      | (with_reducible refine LeO.ite ?_ ?_)
      | (with_reducible refine LeO.bind ?_ (fun _ => ?_))
      | exact ih0 _ _ _
      | exact LeO.none _
      | refine LeO.ite ?_ ?_
      | refine LeO.bind ?_ (fun _ => ?_)
theorem computusref02_start.mono : ∀ a0 k, LeO (computusref02_start.f k a0) (computusref02_start.f (k + 1) a0) := by
  intro a0 k
  have ih0 := computusref02_start.mono_l k
  unfold computusref02_start.f
  repeat' first
      | (with_reducible exact ih0 _ _ _)
      | (with_reducible exact LeO.refl _)
      | (with_reducible exact LeO.none _)
      | (with_reducible refine LeO.ite ?_ ?_)
      | (with_reducible refine LeO.bind ?_ (fun _ => ?_))
      | exact ih0 _ _ _
      | exact LeO.none _
      | refine LeO.ite ?_ ?_
      | refine LeO.bind ?_ (fun _ => ?_)
set_option maxHeartbeats 8000000 in
set_option maxRecDepth 100000 in
theorem computusref02_start.calls (k : Nat) (a0 : Int) (r : Int) (w : World) (h : computusref02_start.f k a0 = some r) :
    Calls Tryz.prog 145 #[.int .i64 a0] w fun e w' => e = .returned (.int .i64 r) ∧ Drawn0 w w' := by
  have H : ((computusref02_div.f (wrap64 (a0 - 2000)) 400).bind fun t384 => (computusref02_start.l0 k a0 (wrap64 (t384 * 146097)) 0)) = some r := h
  clear h
  replace H := Option.bind_eq_some_iff.mp H
  obtain ⟨t384, A20, H⟩ := H
  replace H : (computusref02_start.l0 k a0 (wrap64 (t384 * 146097)) 0) = some r := H
  have A2 := Aside0.mk A20
  clear A20
  have H' := Aside0.mk H
  clear H
  go_enter Tryz.func145, Tryz.ntmps145
  go_wp2_with (first | ((with_reducible refine kM (f := 142) rfl ?_); refine goesL_ (some 7) rfl rfl Tryz.func142 (by kernel_rfl) rfl #[.int .i64 (wrap64 (a0 - 2000)), .int .i64 400] rfl (by (try simp only [List.map_toArray, List.map_cons, List.map_nil]); first | done | rfl | (simp only [List.length_drop, List.length_take]; rfl)) ?_; (with_reducible refine (computusref02_div.calls (wrap64 (a0 - 2000)) 400 t384 _ A2.out).mono ?_); rintro e w' ⟨rfl, ⟨nd, rfl⟩⟩; refine ⟨_, rfl, ?_⟩))
  go_loopg [3, 4] k (fun kq v3 v4 w' => ∃ (x3_1 : Int) (x4_1 : Int), v3 = .int .i64 x3_1 ∧ v4 = .int .i64 x4_1 ∧ Aside0 (computusref02_start.l0 kq a0 x3_1 x4_1 = some r) ∧ Aside0 (kq ≤ k) ∧ Drawn0 w w')
  case atStart => exact ⟨(wrap64 (t384 * 146097)), (0), (by first | rfl | (simp; done) | (simp [*]; done)), (by first | rfl | (simp; done) | (simp [*]; done)), H', ⟨Nat.le_refl _⟩, by repeat (first | exact Drawn0.refl _ | apply Drawn0.step)⟩
  case round =>
    clear H'
    try clear c1
    try clear p2
    obtain ⟨x3_1, x4_1, rfl, rfl, HA, HK1, ⟨m1, rfl⟩⟩ := hrel
    cases gk with
    | zero => exact absurd HA.out (by simp [computusref02_start.l0])
    | succ k1 =>
      have H := HA.out
      clear HA
      simp only [computusref02_start.l0] at H
      replace H := Option.bind_eq_some_iff.mp H
      obtain ⟨t385, A30, H⟩ := H
      replace H : (if x4_1 < t385 then ((computusref02_Leap.f (wrap64 (2000 + x4_1))).bind fun t386 => (if t386 = true then (computusref02_start.l0 k1 a0 (wrap64 ((wrap64 (x3_1 + 365)) + 1)) (wrap64 (x4_1 + 1))) else (computusref02_start.l0 k1 a0 (wrap64 (x3_1 + 365)) (wrap64 (x4_1 + 1))))) else (some x3_1)) = some r := H
      have A3 := Aside0.mk A30
      clear A30
      by_cases c4 : x4_1 < t385
      · rw [if_pos c4] at H
        have c4b0 : decide (x4_1 < t385) = true := decide_eq_true c4
        clear c4
        replace H := Option.bind_eq_some_iff.mp H
        obtain ⟨t386, A50, H⟩ := H
        replace H : (if t386 = true then (computusref02_start.l0 k1 a0 (wrap64 ((wrap64 (x3_1 + 365)) + 1)) (wrap64 (x4_1 + 1))) else (computusref02_start.l0 k1 a0 (wrap64 (x3_1 + 365)) (wrap64 (x4_1 + 1)))) = some r := H
        have A5 := Aside0.mk A50
        clear A50
        by_cases c6 : t386 = true
        · subst c6
          have H1 : (computusref02_start.l0 k1 a0 (wrap64 ((wrap64 (x3_1 + 365)) + 1)) (wrap64 (x4_1 + 1))) = some r := by rw [if_pos rfl] at H; exact H
          clear H
          have H := H1
          clear H1
          have H' := Aside0.mk H
          clear H
          go_wp2_with (first | ((with_reducible refine kM (f := 113) rfl ?_); refine goesL_ (some 12) rfl rfl Tryz.func113 (by kernel_rfl) rfl #[.int .i64 (wrap64 (a0 - 2000)), .int .i64 400] rfl (by (try simp only [List.map_toArray, List.map_cons, List.map_nil]); first | done | rfl | (simp only [List.length_drop, List.length_take]; rfl)) ?_; (with_reducible refine (computusref02_mod.calls (wrap64 (a0 - 2000)) 400 t385 _ A3.out).mono ?_); rintro e w' ⟨rfl, ⟨nd, rfl⟩⟩; refine ⟨_, rfl, ?_⟩) | ((with_reducible refine kM (f := 143) rfl ?_); refine goesL_ (some 20) rfl rfl Tryz.func143 (by kernel_rfl) rfl #[.int .i64 (wrap64 (2000 + x4_1))] rfl (by (try simp only [List.map_toArray, List.map_cons, List.map_nil]); first | done | rfl | (simp only [List.length_drop, List.length_take]; rfl)) ?_; (with_reducible refine (computusref02_Leap.calls (wrap64 (2000 + x4_1)) true _ A5.out).mono ?_); rintro e w' ⟨rfl, ⟨nd, rfl⟩⟩; refine ⟨_, rfl, ?_⟩))
          go_roundg k1
          case measure => have := HK1.out; omega
          case rel => exact ⟨(wrap64 ((wrap64 (x3_1 + 365)) + 1)), (wrap64 (x4_1 + 1)), (by first | rfl | (simp; done) | (simp [*]; done)), (by first | rfl | (simp; done) | (simp [*]; done)), H', ⟨by have := HK1.out; omega⟩, by repeat (first | exact Drawn0.refl _ | apply Drawn0.step)⟩
        · replace c6 := Bool.eq_false_iff.mpr c6
          subst c6
          have H1 : (computusref02_start.l0 k1 a0 (wrap64 (x3_1 + 365)) (wrap64 (x4_1 + 1))) = some r := by rw [if_neg (show ¬ (false = true) by decide)] at H; exact H
          clear H
          have H := H1
          clear H1
          have H' := Aside0.mk H
          clear H
          go_wp2_with (first | ((with_reducible refine kM (f := 113) rfl ?_); refine goesL_ (some 12) rfl rfl Tryz.func113 (by kernel_rfl) rfl #[.int .i64 (wrap64 (a0 - 2000)), .int .i64 400] rfl (by (try simp only [List.map_toArray, List.map_cons, List.map_nil]); first | done | rfl | (simp only [List.length_drop, List.length_take]; rfl)) ?_; (with_reducible refine (computusref02_mod.calls (wrap64 (a0 - 2000)) 400 t385 _ A3.out).mono ?_); rintro e w' ⟨rfl, ⟨nd, rfl⟩⟩; refine ⟨_, rfl, ?_⟩) | ((with_reducible refine kM (f := 143) rfl ?_); refine goesL_ (some 20) rfl rfl Tryz.func143 (by kernel_rfl) rfl #[.int .i64 (wrap64 (2000 + x4_1))] rfl (by (try simp only [List.map_toArray, List.map_cons, List.map_nil]); first | done | rfl | (simp only [List.length_drop, List.length_take]; rfl)) ?_; (with_reducible refine (computusref02_Leap.calls (wrap64 (2000 + x4_1)) false _ A5.out).mono ?_); rintro e w' ⟨rfl, ⟨nd, rfl⟩⟩; refine ⟨_, rfl, ?_⟩))
          go_roundg k1
          case measure => have := HK1.out; omega
          case rel => exact ⟨(wrap64 (x3_1 + 365)), (wrap64 (x4_1 + 1)), (by first | rfl | (simp; done) | (simp [*]; done)), (by first | rfl | (simp; done) | (simp [*]; done)), H', ⟨by have := HK1.out; omega⟩, by repeat (first | exact Drawn0.refl _ | apply Drawn0.step)⟩
      · rw [if_neg c4] at H
        have c4b0 : decide (x4_1 < t385) = false := decide_eq_false c4
        clear c4
        obtain rfl := Option.some.inj H
        go_wp2_with (first | ((with_reducible refine kM (f := 113) rfl ?_); refine goesL_ (some 12) rfl rfl Tryz.func113 (by kernel_rfl) rfl #[.int .i64 (wrap64 (a0 - 2000)), .int .i64 400] rfl (by (try simp only [List.map_toArray, List.map_cons, List.map_nil]); first | done | rfl | (simp only [List.length_drop, List.length_take]; rfl)) ?_; (with_reducible refine (computusref02_mod.calls (wrap64 (a0 - 2000)) 400 t385 _ A3.out).mono ?_); rintro e w' ⟨rfl, ⟨nd, rfl⟩⟩; refine ⟨_, rfl, ?_⟩))
        go_ret
        exact ⟨by first | rfl | (simp; done) | (simp [*]; done), by repeat (first | exact Drawn0.refl _ | apply Drawn0.step)⟩
def computusref02_day.l0 : Nat → Int → Int → Int → Int → Option (Int)
  | 0, _, _, _, _ => none
  | k + 1, x0, x1, x7, x8 => if x8 < x1 then ((computusref02_Len.f k x0 x8).bind fun t388 => (computusref02_day.l0 k x0 x1 (wrap64 (x7 + t388)) (wrap64 (x8 + 1)))) else (some x7)
def computusref02_day.f (k : Nat) (a0 : Int) (a1 : Int) (a2 : Int) : Option (Int) := (computusref02_start.f k a0).bind fun t387 => (computusref02_day.l0 k a0 a1 (wrap64 ((wrap64 (t387 + a2)) - 1)) 1)
theorem computusref02_day.mono_l : ∀ k, (∀ y0 y1 y2 y3, LeO (computusref02_day.l0 k y0 y1 y2 y3) (computusref02_day.l0 (k + 1) y0 y1 y2 y3))
  | 0 => fun _ _ _ _ r h => by simp [computusref02_day.l0] at h
  | k + 1 => by
    have ih0 := computusref02_day.mono_l k
    · intro y0 y1 y2 y3
      unfold computusref02_day.l0
      repeat' first
      | (with_reducible exact ih0 _ _ _ _)
      | (with_reducible exact computusref02_Len.mono _ _ _)
      | (with_reducible exact computusref02_start.mono _ _)
      | (with_reducible exact LeO.refl _)
      | (with_reducible exact LeO.none _)
      | (with_reducible refine LeO.ite ?_ ?_)
      | (with_reducible refine LeO.bind ?_ (fun _ => ?_))
      | exact ih0 _ _ _ _
      | exact computusref02_Len.mono _ _ _
      | exact computusref02_start.mono _ _
      | exact LeO.none _
      | refine LeO.ite ?_ ?_
      | refine LeO.bind ?_ (fun _ => ?_)
theorem computusref02_day.mono : ∀ a0 a1 a2 k, LeO (computusref02_day.f k a0 a1 a2) (computusref02_day.f (k + 1) a0 a1 a2) := by
  intro a0 a1 a2 k
  have ih0 := computusref02_day.mono_l k
  unfold computusref02_day.f
  repeat' first
      | (with_reducible exact ih0 _ _ _ _)
      | (with_reducible exact computusref02_Len.mono _ _ _)
      | (with_reducible exact computusref02_start.mono _ _)
      | (with_reducible exact LeO.refl _)
      | (with_reducible exact LeO.none _)
      | (with_reducible refine LeO.ite ?_ ?_)
      | (with_reducible refine LeO.bind ?_ (fun _ => ?_))
      | exact ih0 _ _ _ _
      | exact computusref02_Len.mono _ _ _
      | exact computusref02_start.mono _ _
      | exact LeO.none _
      | refine LeO.ite ?_ ?_
      | refine LeO.bind ?_ (fun _ => ?_)
set_option maxHeartbeats 8000000 in
set_option maxRecDepth 100000 in
theorem computusref02_day.calls (k : Nat) (a0 : Int) (a1 : Int) (a2 : Int) (r : Int) (w : World) (h : computusref02_day.f k a0 a1 a2 = some r) :
    Calls Tryz.prog 102 #[.int .i64 a0, .int .i64 a1, .int .i64 a2] w fun e w' => e = .returned (.int .i64 r) ∧ Drawn0 w w' := by
  have H : ((computusref02_start.f k a0).bind fun t387 => (computusref02_day.l0 k a0 a1 (wrap64 ((wrap64 (t387 + a2)) - 1)) 1)) = some r := h
  clear h
  replace H := Option.bind_eq_some_iff.mp H
  obtain ⟨t387, A40, H⟩ := H
  replace H : (computusref02_day.l0 k a0 a1 (wrap64 ((wrap64 (t387 + a2)) - 1)) 1) = some r := H
  have A4 := Aside0.mk A40
  clear A40
  have H' := Aside0.mk H
  clear H
  go_enter Tryz.func102, Tryz.ntmps102
  go_wp2_with (first | ((with_reducible refine kM (f := 145) rfl ?_); refine goesL_ (some 10) rfl rfl Tryz.func145 (by kernel_rfl) rfl #[.int .i64 a0] rfl (by (try simp only [List.map_toArray, List.map_cons, List.map_nil]); first | done | rfl | (simp only [List.length_drop, List.length_take]; rfl)) ?_; (with_reducible refine (computusref02_start.calls k a0 t387 _ A4.out).mono ?_); rintro e w' ⟨rfl, ⟨nd, rfl⟩⟩; refine ⟨_, rfl, ?_⟩))
  go_loopg [7, 8] k (fun kq v7 v8 w' => ∃ (x7_1 : Int) (x8_1 : Int), v7 = .int .i64 x7_1 ∧ v8 = .int .i64 x8_1 ∧ Aside0 (computusref02_day.l0 kq a0 a1 x7_1 x8_1 = some r) ∧ Aside0 (kq ≤ k) ∧ Drawn0 w w')
  case atStart => exact ⟨(wrap64 ((wrap64 (t387 + a2)) - 1)), (1), (by first | rfl | (simp; done) | (simp [*]; done)), (by first | rfl | (simp; done) | (simp [*]; done)), H', ⟨Nat.le_refl _⟩, by repeat (first | exact Drawn0.refl _ | apply Drawn0.step)⟩
  case round =>
    clear H'
    try clear c1
    try clear p2
    obtain ⟨x7_1, x8_1, rfl, rfl, HA, HK1, ⟨m1, rfl⟩⟩ := hrel
    cases gk with
    | zero => exact absurd HA.out (by simp [computusref02_day.l0])
    | succ k1 =>
      have H := HA.out
      clear HA
      simp only [computusref02_day.l0] at H
      by_cases c5 : x8_1 < a1
      · rw [if_pos c5] at H
        have c5b0 : decide (x8_1 < a1) = true := decide_eq_true c5
        clear c5
        replace H := Option.bind_eq_some_iff.mp H
        obtain ⟨t388, A60, H⟩ := H
        replace H : (computusref02_day.l0 k1 a0 a1 (wrap64 (x7_1 + t388)) (wrap64 (x8_1 + 1))) = some r := H
        have A6 := Aside0.mk A60
        clear A60
        have H' := Aside0.mk H
        clear H
        go_wp2_with (first | ((with_reducible refine kM (f := 144) rfl ?_); refine goesL_ (some 22) rfl rfl Tryz.func144 (by kernel_rfl) rfl #[.int .i64 a0, .int .i64 x8_1] rfl (by (try simp only [List.map_toArray, List.map_cons, List.map_nil]); first | done | rfl | (simp only [List.length_drop, List.length_take]; rfl)) ?_; (with_reducible refine (computusref02_Len.calls k1 a0 x8_1 t388 _ A6.out).mono ?_); rintro e w' ⟨rfl, ⟨nd, rfl⟩⟩; refine ⟨_, rfl, ?_⟩))
        go_roundg k1
        case measure => have := HK1.out; omega
        case rel => exact ⟨(wrap64 (x7_1 + t388)), (wrap64 (x8_1 + 1)), (by first | rfl | (simp; done) | (simp [*]; done)), (by first | rfl | (simp; done) | (simp [*]; done)), H', ⟨by have := HK1.out; omega⟩, by repeat (first | exact Drawn0.refl _ | apply Drawn0.step)⟩
      · rw [if_neg c5] at H
        have c5b0 : decide (x8_1 < a1) = false := decide_eq_false c5
        clear c5
        obtain rfl := Option.some.inj H
        go_wp2
        go_ret
        exact ⟨by first | rfl | (simp; done) | (simp [*]; done), by repeat (first | exact Drawn0.refl _ | apply Drawn0.step)⟩
def computusref02_First.f (k : Nat)  : Option (Int) := (computusref02_day.f k (-4718) 1 1).bind fun t389 => (some t389)
theorem computusref02_First.mono : ∀ k, LeO (computusref02_First.f k ) (computusref02_First.f (k + 1) ) := by
  intro  k
  unfold computusref02_First.f
  repeat' first
      | (with_reducible exact computusref02_day.mono _ _ _ _)
      | (with_reducible exact LeO.refl _)
      | (with_reducible exact LeO.none _)
      | (with_reducible refine LeO.ite ?_ ?_)
      | (with_reducible refine LeO.bind ?_ (fun _ => ?_))
      | exact computusref02_day.mono _ _ _ _
      | exact LeO.none _
      | refine LeO.ite ?_ ?_
      | refine LeO.bind ?_ (fun _ => ?_)
set_option maxHeartbeats 8000000 in
set_option maxRecDepth 100000 in
theorem computusref02_First.calls (k : Nat)  (r : Int) (w : World) (h : computusref02_First.f k  = some r) :
    Calls Tryz.prog 118 #[] w fun e w' => e = .returned (.int .i64 r) ∧ Drawn0 w w' := by
  have H : ((computusref02_day.f k (-4718) 1 1).bind fun t389 => (some t389)) = some r := h
  clear h
  replace H := Option.bind_eq_some_iff.mp H
  obtain ⟨t389, A10, H⟩ := H
  replace H : (some t389) = some r := H
  have A1 := Aside0.mk A10
  clear A10
  obtain rfl := Option.some.inj H
  go_enter Tryz.func118, Tryz.ntmps118
  go_wp2_with (first | ((with_reducible refine kM (f := 102) rfl ?_); refine goesL_ (some 1) rfl rfl Tryz.func102 (by kernel_rfl) rfl #[.int .i64 (-4718), .int .i64 1, .int .i64 1] rfl (by (try simp only [List.map_toArray, List.map_cons, List.map_nil]); first | done | rfl | (simp only [List.length_drop, List.length_take]; rfl)) ?_; (with_reducible refine (computusref02_day.calls k (-4718) 1 1 t389 _ A1.out).mono ?_); rintro e w' ⟨rfl, ⟨nd, rfl⟩⟩; refine ⟨_, rfl, ?_⟩))
  go_ret
  exact ⟨by first | rfl | (simp; done) | (simp [*]; done), by repeat (first | exact Drawn0.refl _ | apply Drawn0.step)⟩
def computusref02_Last.f (k : Nat)  : Option (Int) := (computusref02_day.f k 294282 12 31).bind fun t390 => (some t390)
theorem computusref02_Last.mono : ∀ k, LeO (computusref02_Last.f k ) (computusref02_Last.f (k + 1) ) := by
  intro  k
  unfold computusref02_Last.f
  repeat' first
      | (with_reducible exact computusref02_day.mono _ _ _ _)
      | (with_reducible exact LeO.refl _)
      | (with_reducible exact LeO.none _)
      | (with_reducible refine LeO.ite ?_ ?_)
      | (with_reducible refine LeO.bind ?_ (fun _ => ?_))
      | exact computusref02_day.mono _ _ _ _
      | exact LeO.none _
      | refine LeO.ite ?_ ?_
      | refine LeO.bind ?_ (fun _ => ?_)
set_option maxHeartbeats 8000000 in
set_option maxRecDepth 100000 in
theorem computusref02_Last.calls (k : Nat)  (r : Int) (w : World) (h : computusref02_Last.f k  = some r) :
    Calls Tryz.prog 185 #[] w fun e w' => e = .returned (.int .i64 r) ∧ Drawn0 w w' := by
  have H : ((computusref02_day.f k 294282 12 31).bind fun t390 => (some t390)) = some r := h
  clear h
  replace H := Option.bind_eq_some_iff.mp H
  obtain ⟨t390, A10, H⟩ := H
  replace H : (some t390) = some r := H
  have A1 := Aside0.mk A10
  clear A10
  obtain rfl := Option.some.inj H
  go_enter Tryz.func185, Tryz.ntmps185
  go_wp2_with (first | ((with_reducible refine kM (f := 102) rfl ?_); refine goesL_ (some 1) rfl rfl Tryz.func102 (by kernel_rfl) rfl #[.int .i64 294282, .int .i64 12, .int .i64 31] rfl (by (try simp only [List.map_toArray, List.map_cons, List.map_nil]); first | done | rfl | (simp only [List.length_drop, List.length_take]; rfl)) ?_; (with_reducible refine (computusref02_day.calls k 294282 12 31 t390 _ A1.out).mono ?_); rintro e w' ⟨rfl, ⟨nd, rfl⟩⟩; refine ⟨_, rfl, ?_⟩))
  go_ret
  exact ⟨by first | rfl | (simp; done) | (simp [*]; done), by repeat (first | exact Drawn0.refl _ | apply Drawn0.step)⟩
end Go.Proofs.YthkmckmfgglafaaGreat.P
namespace Go.Proofs.YthkmckmfgglafaaGreat.P
open Go.RowKit Go.Proofs.YthkmckmfgglafaaGreatW.PrintWords Go.Proofs.YthkmckmfgglafaaGreatW.PrintLast Go.Proofs.YthkmckmfgglafaaGreatW.PrintMore
open Go.Proofs.YthkmckmfgglafaaGreat.A
attribute [local go_sem] max2_int min2_int max_two min_two max_three min_three max_four min_four   -- for this text's walks alone
set_option linter.unusedVariables false
set_option linter.unusedSimpArgs false
def computusref02_Can.f (k : Nat) (a0 : Int) : Option (Bool) := (computusref02_First.f k).bind fun t391 => (if a0 ≥ t391 then ((computusref02_Last.f k).bind fun t392 => (some (decide (a0 ≤ t392)))) else (some false))
theorem computusref02_Can.mono : ∀ a0 k, LeO (computusref02_Can.f k a0) (computusref02_Can.f (k + 1) a0) := by
  intro a0 k
  unfold computusref02_Can.f
  repeat' first
      | (with_reducible exact computusref02_First.mono _)
      | (with_reducible exact computusref02_Last.mono _)
      | (with_reducible exact LeO.refl _)
      | (with_reducible exact LeO.none _)
      | (with_reducible refine LeO.ite ?_ ?_)
      | (with_reducible refine LeO.bind ?_ (fun _ => ?_))
      | exact computusref02_First.mono _
      | exact computusref02_Last.mono _
      | exact LeO.none _
      | refine LeO.ite ?_ ?_
      | refine LeO.bind ?_ (fun _ => ?_)
set_option maxHeartbeats 8000000 in
set_option maxRecDepth 100000 in
theorem computusref02_Can.calls (k : Nat) (a0 : Int) (r : Bool) (w : World) (h : computusref02_Can.f k a0 = some r) :
    Calls Tryz.prog 141 #[.int .i64 a0] w fun e w' => e = .returned (.bool r) ∧ Drawn0 w w' := by
  have H : ((computusref02_First.f k).bind fun t391 => (if a0 ≥ t391 then ((computusref02_Last.f k).bind fun t392 => (some (decide (a0 ≤ t392)))) else (some false))) = some r := h
  clear h
  replace H := Option.bind_eq_some_iff.mp H
  obtain ⟨t391, A20, H⟩ := H
  replace H : (if a0 ≥ t391 then ((computusref02_Last.f k).bind fun t392 => (some (decide (a0 ≤ t392)))) else (some false)) = some r := H
  have A2 := Aside0.mk A20
  clear A20
  by_cases c3 : a0 ≥ t391
  · rw [if_pos c3] at H
    have c3b0 : decide (t391 ≤ a0) = true := decide_eq_true c3
    clear c3
    replace H := Option.bind_eq_some_iff.mp H
    obtain ⟨t392, A40, H⟩ := H
    replace H : (some (decide (a0 ≤ t392))) = some r := H
    have A4 := Aside0.mk A40
    clear A40
    obtain rfl := Option.some.inj H
    go_enter Tryz.func141, Tryz.ntmps141
    go_wp2_with (first | ((with_reducible refine kM (f := 118) rfl ?_); refine goesL_ (some 4) rfl rfl Tryz.func118 (by kernel_rfl) rfl #[] rfl (by (try simp only [List.map_toArray, List.map_cons, List.map_nil]); first | done | rfl | (simp only [List.length_drop, List.length_take]; rfl)) ?_; (with_reducible refine (computusref02_First.calls k  t391 _ A2.out).mono ?_); rintro e w' ⟨rfl, ⟨nd, rfl⟩⟩; refine ⟨_, rfl, ?_⟩) | (go_at_call 185; (with_reducible refine (computusref02_Last.calls k  t392 _ A4.out).mono ?_); rintro e w' ⟨rfl, ⟨nd, rfl⟩⟩))
    go_ret
    exact ⟨by first | rfl | (simp; done) | (simp [*]; done), by repeat (first | exact Drawn0.refl _ | apply Drawn0.step)⟩
  · rw [if_neg c3] at H
    have c3b0 : decide (t391 ≤ a0) = false := decide_eq_false c3
    clear c3
    obtain rfl := Option.some.inj H
    go_enter Tryz.func141, Tryz.ntmps141
    go_wp2_with (first | ((with_reducible refine kM (f := 118) rfl ?_); refine goesL_ (some 4) rfl rfl Tryz.func118 (by kernel_rfl) rfl #[] rfl (by (try simp only [List.map_toArray, List.map_cons, List.map_nil]); first | done | rfl | (simp only [List.length_drop, List.length_take]; rfl)) ?_; (with_reducible refine (computusref02_First.calls k  t391 _ A2.out).mono ?_); rintro e w' ⟨rfl, ⟨nd, rfl⟩⟩; refine ⟨_, rfl, ?_⟩))
    go_ret
    exact ⟨by first | rfl | (simp; done) | (simp [*]; done), by repeat (first | exact Drawn0.refl _ | apply Drawn0.step)⟩
end Go.Proofs.YthkmckmfgglafaaGreat.P
