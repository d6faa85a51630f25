import Derived.Test.YtimgphlfaninnaaGreatQfgfpjmalgi
import Derived.Test.YtimgphlfaninnaaGreatQdljlakeelm
namespace Go.Proofs.YtimgphlfaninnaaGreat.P
open Go Go.RowKit Go.Proofs.YtimgphlfaninnaaGreat.Civ Go.Proofs.YtimgphlfaninnaaGreat.Ft
set_option linter.unusedVariables false
set_option linter.unusedSimpArgs false
section
open A
def isTwo (n : Int) : Option (Bool × AV) → Bool
 | some (true, .str s) => decide (s.data.toList = (two n).data.toList)
 | _ => false
set_option maxRecDepth 100000 in
theorem two_all : (List.range 100).all (fun n => isTwo n (runC Tryz.prog 30 (tab []) 187 [.int .i64 (n : Int)])) = true := by kernel_rfl
theorem two_run {n : Int} (h : 0 ≤ n ∧ n ≤ 99) : runC Tryz.prog 30 (tab []) 187 [.int .i64 n] = some (true, .str (two n)) := by
 have a := List.all_eq_true.1 two_all n.toNat (by rw [List.mem_range]; omega)
 rw [show ((n.toNat : Nat) : Int) = n by omega] at a
 generalize runC Tryz.prog 30 (tab []) 187 [.int .i64 n] = r at *
 unfold isTwo at a
 split at a
 · rename_i s
   have e := of_decide_eq_true a
   have : s = two n := by
    obtain ⟨⟨l⟩⟩ := s
    simp only at e
    rw [e]
   rw [this]
 · cases a
theorem cyTwo_ok : COk Tryz.prog 187 cyTwo := by
 intro args p v hc hp w A hA
 unfold cyTwo at hc
 split at hc
 case h_2 => cases hc
 simp only [Option.some.injEq, Prod.mk.injEq] at hc
 obtain ⟨rfl, rfl⟩ := hc
 exact runC_ok mixed 30 kN _ _ true _ (two_run (of_decide_eq_true hp)) rfl w A hA
theorem bH (a : Array UInt8) : (ByteArray.mk a).size = a.size := rfl
theorem bB (n : Int) : (two n).size = 2 := rfl
set_option maxRecDepth 100000 in
theorem form_vc (k w n : Int) (K : AV → Prop) : AF (tab []) 6 184 [.agg [.int .i64 k, .int .i64 w, .int .i64 n]] K =
 (brc (k == 0) (brc (w == 0) (brc (decide (n ≥ 1)) (brc (!decide (n ≤ 31)) (K AV.nili) (K (AV.ifc 206 (AV.int IntKind.i64 n)))) (K AV.nili)) (brc (k == 1) (brc (n == 0) (brc (decide (w ≥ 0)) (brc (!decide (w ≤ 6)) (K AV.nili) (K (AV.ifc 208 (AV.int IntKind.i64 w)))) (K AV.nili)) (brc (k == 2) (brc (decide (w ≥ 0)) (brc (decide (w ≤ 6)) (brc (decide (n ≥ 1)) (brc (!decide (n ≤ 31)) (K AV.nili) (K (AV.ifc 211 (AV.agg [AV.int IntKind.i64 w, AV.int IntKind.i64 n, AV.int IntKind.i64 1])))) (K AV.nili)) (K AV.nili)) (K AV.nili)) (brc (k == 3) (brc (decide (w ≥ 0)) (brc (decide (w ≤ 6)) (brc (decide (n ≥ 1)) (brc (!decide (n ≤ 31)) (K AV.nili) (K (AV.ifc 211 (AV.agg [AV.int IntKind.i64 w, AV.int IntKind.i64 n, AV.int IntKind.i64 (-1)])))) (K AV.nili)) (K AV.nili)) (K AV.nili)) (K AV.nili)))) (brc (k == 2) (brc (decide (w ≥ 0)) (brc (decide (w ≤ 6)) (brc (decide (n ≥ 1)) (brc (!decide (n ≤ 31)) (K AV.nili) (K (AV.ifc 211 (AV.agg [AV.int IntKind.i64 w, AV.int IntKind.i64 n, AV.int IntKind.i64 1])))) (K AV.nili)) (K AV.nili)) (K AV.nili)) (brc (k == 3) (brc (decide (w ≥ 0)) (brc (decide (w ≤ 6)) (brc (decide (n ≥ 1)) (brc (!decide (n ≤ 31)) (K AV.nili) (K (AV.ifc 211 (AV.agg [AV.int IntKind.i64 w, AV.int IntKind.i64 n, AV.int IntKind.i64 (-1)])))) (K AV.nili)) (K AV.nili)) (K AV.nili)) (K AV.nili))))) (brc (k == 1) (brc (n == 0) (brc (decide (w ≥ 0)) (brc (!decide (w ≤ 6)) (K AV.nili) (K (AV.ifc 208 (AV.int IntKind.i64 w)))) (K AV.nili)) (brc (k == 2) (brc (decide (w ≥ 0)) (brc (decide (w ≤ 6)) (brc (decide (n ≥ 1)) (brc (!decide (n ≤ 31)) (K AV.nili) (K (AV.ifc 211 (AV.agg [AV.int IntKind.i64 w, AV.int IntKind.i64 n, AV.int IntKind.i64 1])))) (K AV.nili)) (K AV.nili)) (K AV.nili)) (brc (k == 3) (brc (decide (w ≥ 0)) (brc (decide (w ≤ 6)) (brc (decide (n ≥ 1)) (brc (!decide (n ≤ 31)) (K AV.nili) (K (AV.ifc 211 (AV.agg [AV.int IntKind.i64 w, AV.int IntKind.i64 n, AV.int IntKind.i64 (-1)])))) (K AV.nili)) (K AV.nili)) (K AV.nili)) (K AV.nili)))) (brc (k == 2) (brc (decide (w ≥ 0)) (brc (decide (w ≤ 6)) (brc (decide (n ≥ 1)) (brc (!decide (n ≤ 31)) (K AV.nili) (K (AV.ifc 211 (AV.agg [AV.int IntKind.i64 w, AV.int IntKind.i64 n, AV.int IntKind.i64 1])))) (K AV.nili)) (K AV.nili)) (K AV.nili)) (brc (k == 3) (brc (decide (w ≥ 0)) (brc (decide (w ≤ 6)) (brc (decide (n ≥ 1)) (brc (!decide (n ≤ 31)) (K AV.nili) (K (AV.ifc 211 (AV.agg [AV.int IntKind.i64 w, AV.int IntKind.i64 n, AV.int IntKind.i64 (-1)])))) (K AV.nili)) (K AV.nili)) (K AV.nili)) (K AV.nili))))) := by kernel_rfl
set_option maxRecDepth 100000 in
theorem cyBad_ok : COk Tryz.prog 184 cyBad := af_con kN (by kernel_rfl) fun args p v hc hp => by
 unfold cyBad at hc
 split at hc
 case h_2 => cases hc
 rename_i k w n
 simp only [Option.some.injEq, Prod.mk.injEq] at hc
 obtain ⟨rfl, rfl⟩ := hc
 have hb := of_decide_eq_true hp
 refine ⟨rfl, 6, ?_⟩
 rw [form_vc]
 repeat' (with_reducible refine kA (fun h => ?_) (fun h => ?_))
 all_goals first
  | rfl
  | (exfalso; refine hb ?_; unfold OnOk; simp only [decide_eq_true_eq, decide_eq_false_iff_not, Bool.not_eq_true', Bool.not_eq_false', beq_iff_eq, beq_eq_false_iff_ne, bne_iff_ne, ne_eq, Bool.and_eq_true, Bool.and_eq_false_iff, Bool.true_and] at *; omega)
set_option maxRecDepth 100000 in
theorem texton_vc (k w n : Int) (K : AV → Prop) : AF (tab [(184, cyBad)]) 6 182 [.agg [.int .i64 k, .int .i64 w, .int .i64 n]] K =
 (brc (decide ¬OnOk k w n) (K (AV.tup [AV.str (ByteArray.mk #[]), AV.int IntKind.i64 1])) False) := by kernel_rfl
set_option maxRecDepth 100000 in
theorem ton00_vc (n : Int) (K : AV → Prop) : AF (tab [(187, cyTwo)]) 12 182 [.agg [.int .i64 0, .int .i64 0, .int .i64 n]] K =
 (brc (decide (n ≥ 1)) (brc (!decide (n ≤ 31)) (K (AV.tup [AV.str (ByteArray.mk #[]), AV.int IntKind.i64 1])) (brc (decide (0 ≤ n ∧ n ≤ 99)) (brc (decide (((ByteArray.size (two n) : Nat) : Int) ≥ ((ByteArray.size (ByteArray.mk #[48]) : Nat) : Int))) (brc (decide (((ByteArray.size (ByteArray.mk #[48]) : Nat) : Int) ≤ ((ByteArray.size (two n) : Nat) : Int))) (brc (ByteArray.toList (ByteArray.extract (two n) (Int.toNat 0) (Int.toNat ((ByteArray.size (ByteArray.mk #[48]) : Nat) : Int))) == ByteArray.toList (ByteArray.mk #[48])) (brc (decide (((ByteArray.size (ByteArray.mk #[48]) : Nat) : Int) ≤ ((ByteArray.size (two n) : Nat) : Int)) && decide (((ByteArray.size (two n) : Nat) : Int) ≤ ((ByteArray.size (two n) : Nat) : Int))) (K (AV.tup [AV.str (ByteArray.extract (two n) 1 (Int.toNat ((ByteArray.size (two n) : Nat) : Int))), AV.int IntKind.i64 0])) False) (K (AV.tup [AV.str (two n), AV.int IntKind.i64 0]))) False) (K (AV.tup [AV.str (two n), AV.int IntKind.i64 0]))) False)) (K (AV.tup [AV.str (ByteArray.mk #[]), AV.int IntKind.i64 1]))) := by kernel_rfl
set_option maxRecDepth 100000 in
theorem ton10_vc (n : Int) (K : AV → Prop) : AF (tab [(187, cyTwo)]) 12 182 [.agg [.int .i64 1, .int .i64 0, .int .i64 n]] K =
 (brc (n == 0) (brc (decide (0 ≤ n ∧ n ≤ 99)) (brc (decide (((ByteArray.size (two n) : Nat) : Int) ≥ ((ByteArray.size (ByteArray.mk #[48]) : Nat) : Int))) (brc (decide (((ByteArray.size (ByteArray.mk #[48]) : Nat) : Int) ≤ ((ByteArray.size (two n) : Nat) : Int))) (brc (ByteArray.toList (ByteArray.extract (two n) (Int.toNat 0) (Int.toNat ((ByteArray.size (ByteArray.mk #[48]) : Nat) : Int))) == ByteArray.toList (ByteArray.mk #[48])) (brc (decide (((ByteArray.size (ByteArray.mk #[48]) : Nat) : Int) ≤ ((ByteArray.size (two n) : Nat) : Int)) && decide (((ByteArray.size (two n) : Nat) : Int) ≤ ((ByteArray.size (two n) : Nat) : Int))) (K (AV.tup [AV.str ((ByteArray.mk #[108, 97, 115, 116]) ++ (ByteArray.mk #[83, 117, 110])), AV.int IntKind.i64 0])) False) (K (AV.tup [AV.str ((ByteArray.mk #[108, 97, 115, 116]) ++ (ByteArray.mk #[83, 117, 110])), AV.int IntKind.i64 0]))) False) (K (AV.tup [AV.str ((ByteArray.mk #[108, 97, 115, 116]) ++ (ByteArray.mk #[83, 117, 110])), AV.int IntKind.i64 0]))) False) (K (AV.tup [AV.str (ByteArray.mk #[]), AV.int IntKind.i64 1]))) := by kernel_rfl
set_option maxRecDepth 100000 in
theorem ton11_vc (n : Int) (K : AV → Prop) : AF (tab [(187, cyTwo)]) 12 182 [.agg [.int .i64 1, .int .i64 1, .int .i64 n]] K =
 (brc (n == 0) (brc (decide (0 ≤ n ∧ n ≤ 99)) (brc (decide (((ByteArray.size (two n) : Nat) : Int) ≥ ((ByteArray.size (ByteArray.mk #[48]) : Nat) : Int))) (brc (decide (((ByteArray.size (ByteArray.mk #[48]) : Nat) : Int) ≤ ((ByteArray.size (two n) : Nat) : Int))) (brc (ByteArray.toList (ByteArray.extract (two n) (Int.toNat 0) (Int.toNat ((ByteArray.size (ByteArray.mk #[48]) : Nat) : Int))) == ByteArray.toList (ByteArray.mk #[48])) (brc (decide (((ByteArray.size (ByteArray.mk #[48]) : Nat) : Int) ≤ ((ByteArray.size (two n) : Nat) : Int)) && decide (((ByteArray.size (two n) : Nat) : Int) ≤ ((ByteArray.size (two n) : Nat) : Int))) (K (AV.tup [AV.str ((ByteArray.mk #[108, 97, 115, 116]) ++ (ByteArray.mk #[77, 111, 110])), AV.int IntKind.i64 0])) False) (K (AV.tup [AV.str ((ByteArray.mk #[108, 97, 115, 116]) ++ (ByteArray.mk #[77, 111, 110])), AV.int IntKind.i64 0]))) False) (K (AV.tup [AV.str ((ByteArray.mk #[108, 97, 115, 116]) ++ (ByteArray.mk #[77, 111, 110])), AV.int IntKind.i64 0]))) False) (K (AV.tup [AV.str (ByteArray.mk #[]), AV.int IntKind.i64 1]))) := by kernel_rfl
set_option maxRecDepth 100000 in
theorem ton12_vc (n : Int) (K : AV → Prop) : AF (tab [(187, cyTwo)]) 12 182 [.agg [.int .i64 1, .int .i64 2, .int .i64 n]] K =
 (brc (n == 0) (brc (decide (0 ≤ n ∧ n ≤ 99)) (brc (decide (((ByteArray.size (two n) : Nat) : Int) ≥ ((ByteArray.size (ByteArray.mk #[48]) : Nat) : Int))) (brc (decide (((ByteArray.size (ByteArray.mk #[48]) : Nat) : Int) ≤ ((ByteArray.size (two n) : Nat) : Int))) (brc (ByteArray.toList (ByteArray.extract (two n) (Int.toNat 0) (Int.toNat ((ByteArray.size (ByteArray.mk #[48]) : Nat) : Int))) == ByteArray.toList (ByteArray.mk #[48])) (brc (decide (((ByteArray.size (ByteArray.mk #[48]) : Nat) : Int) ≤ ((ByteArray.size (two n) : Nat) : Int)) && decide (((ByteArray.size (two n) : Nat) : Int) ≤ ((ByteArray.size (two n) : Nat) : Int))) (K (AV.tup [AV.str ((ByteArray.mk #[108, 97, 115, 116]) ++ (ByteArray.mk #[84, 117, 101])), AV.int IntKind.i64 0])) False) (K (AV.tup [AV.str ((ByteArray.mk #[108, 97, 115, 116]) ++ (ByteArray.mk #[84, 117, 101])), AV.int IntKind.i64 0]))) False) (K (AV.tup [AV.str ((ByteArray.mk #[108, 97, 115, 116]) ++ (ByteArray.mk #[84, 117, 101])), AV.int IntKind.i64 0]))) False) (K (AV.tup [AV.str (ByteArray.mk #[]), AV.int IntKind.i64 1]))) := by kernel_rfl
set_option maxRecDepth 100000 in
theorem ton13_vc (n : Int) (K : AV → Prop) : AF (tab [(187, cyTwo)]) 12 182 [.agg [.int .i64 1, .int .i64 3, .int .i64 n]] K =
 (brc (n == 0) (brc (decide (0 ≤ n ∧ n ≤ 99)) (brc (decide (((ByteArray.size (two n) : Nat) : Int) ≥ ((ByteArray.size (ByteArray.mk #[48]) : Nat) : Int))) (brc (decide (((ByteArray.size (ByteArray.mk #[48]) : Nat) : Int) ≤ ((ByteArray.size (two n) : Nat) : Int))) (brc (ByteArray.toList (ByteArray.extract (two n) (Int.toNat 0) (Int.toNat ((ByteArray.size (ByteArray.mk #[48]) : Nat) : Int))) == ByteArray.toList (ByteArray.mk #[48])) (brc (decide (((ByteArray.size (ByteArray.mk #[48]) : Nat) : Int) ≤ ((ByteArray.size (two n) : Nat) : Int)) && decide (((ByteArray.size (two n) : Nat) : Int) ≤ ((ByteArray.size (two n) : Nat) : Int))) (K (AV.tup [AV.str ((ByteArray.mk #[108, 97, 115, 116]) ++ (ByteArray.mk #[87, 101, 100])), AV.int IntKind.i64 0])) False) (K (AV.tup [AV.str ((ByteArray.mk #[108, 97, 115, 116]) ++ (ByteArray.mk #[87, 101, 100])), AV.int IntKind.i64 0]))) False) (K (AV.tup [AV.str ((ByteArray.mk #[108, 97, 115, 116]) ++ (ByteArray.mk #[87, 101, 100])), AV.int IntKind.i64 0]))) False) (K (AV.tup [AV.str (ByteArray.mk #[]), AV.int IntKind.i64 1]))) := by kernel_rfl
set_option maxRecDepth 100000 in
theorem ton14_vc (n : Int) (K : AV → Prop) : AF (tab [(187, cyTwo)]) 12 182 [.agg [.int .i64 1, .int .i64 4, .int .i64 n]] K =
 (brc (n == 0) (brc (decide (0 ≤ n ∧ n ≤ 99)) (brc (decide (((ByteArray.size (two n) : Nat) : Int) ≥ ((ByteArray.size (ByteArray.mk #[48]) : Nat) : Int))) (brc (decide (((ByteArray.size (ByteArray.mk #[48]) : Nat) : Int) ≤ ((ByteArray.size (two n) : Nat) : Int))) (brc (ByteArray.toList (ByteArray.extract (two n) (Int.toNat 0) (Int.toNat ((ByteArray.size (ByteArray.mk #[48]) : Nat) : Int))) == ByteArray.toList (ByteArray.mk #[48])) (brc (decide (((ByteArray.size (ByteArray.mk #[48]) : Nat) : Int) ≤ ((ByteArray.size (two n) : Nat) : Int)) && decide (((ByteArray.size (two n) : Nat) : Int) ≤ ((ByteArray.size (two n) : Nat) : Int))) (K (AV.tup [AV.str ((ByteArray.mk #[108, 97, 115, 116]) ++ (ByteArray.mk #[84, 104, 117])), AV.int IntKind.i64 0])) False) (K (AV.tup [AV.str ((ByteArray.mk #[108, 97, 115, 116]) ++ (ByteArray.mk #[84, 104, 117])), AV.int IntKind.i64 0]))) False) (K (AV.tup [AV.str ((ByteArray.mk #[108, 97, 115, 116]) ++ (ByteArray.mk #[84, 104, 117])), AV.int IntKind.i64 0]))) False) (K (AV.tup [AV.str (ByteArray.mk #[]), AV.int IntKind.i64 1]))) := by kernel_rfl
set_option maxRecDepth 100000 in
theorem ton15_vc (n : Int) (K : AV → Prop) : AF (tab [(187, cyTwo)]) 12 182 [.agg [.int .i64 1, .int .i64 5, .int .i64 n]] K =
 (brc (n == 0) (brc (decide (0 ≤ n ∧ n ≤ 99)) (brc (decide (((ByteArray.size (two n) : Nat) : Int) ≥ ((ByteArray.size (ByteArray.mk #[48]) : Nat) : Int))) (brc (decide (((ByteArray.size (ByteArray.mk #[48]) : Nat) : Int) ≤ ((ByteArray.size (two n) : Nat) : Int))) (brc (ByteArray.toList (ByteArray.extract (two n) (Int.toNat 0) (Int.toNat ((ByteArray.size (ByteArray.mk #[48]) : Nat) : Int))) == ByteArray.toList (ByteArray.mk #[48])) (brc (decide (((ByteArray.size (ByteArray.mk #[48]) : Nat) : Int) ≤ ((ByteArray.size (two n) : Nat) : Int)) && decide (((ByteArray.size (two n) : Nat) : Int) ≤ ((ByteArray.size (two n) : Nat) : Int))) (K (AV.tup [AV.str ((ByteArray.mk #[108, 97, 115, 116]) ++ (ByteArray.mk #[70, 114, 105])), AV.int IntKind.i64 0])) False) (K (AV.tup [AV.str ((ByteArray.mk #[108, 97, 115, 116]) ++ (ByteArray.mk #[70, 114, 105])), AV.int IntKind.i64 0]))) False) (K (AV.tup [AV.str ((ByteArray.mk #[108, 97, 115, 116]) ++ (ByteArray.mk #[70, 114, 105])), AV.int IntKind.i64 0]))) False) (K (AV.tup [AV.str (ByteArray.mk #[]), AV.int IntKind.i64 1]))) := by kernel_rfl
set_option maxRecDepth 100000 in
theorem ton16_vc (n : Int) (K : AV → Prop) : AF (tab [(187, cyTwo)]) 12 182 [.agg [.int .i64 1, .int .i64 6, .int .i64 n]] K =
 (brc (n == 0) (brc (decide (0 ≤ n ∧ n ≤ 99)) (brc (decide (((ByteArray.size (two n) : Nat) : Int) ≥ ((ByteArray.size (ByteArray.mk #[48]) : Nat) : Int))) (brc (decide (((ByteArray.size (ByteArray.mk #[48]) : Nat) : Int) ≤ ((ByteArray.size (two n) : Nat) : Int))) (brc (ByteArray.toList (ByteArray.extract (two n) (Int.toNat 0) (Int.toNat ((ByteArray.size (ByteArray.mk #[48]) : Nat) : Int))) == ByteArray.toList (ByteArray.mk #[48])) (brc (decide (((ByteArray.size (ByteArray.mk #[48]) : Nat) : Int) ≤ ((ByteArray.size (two n) : Nat) : Int)) && decide (((ByteArray.size (two n) : Nat) : Int) ≤ ((ByteArray.size (two n) : Nat) : Int))) (K (AV.tup [AV.str ((ByteArray.mk #[108, 97, 115, 116]) ++ (ByteArray.mk #[83, 97, 116])), AV.int IntKind.i64 0])) False) (K (AV.tup [AV.str ((ByteArray.mk #[108, 97, 115, 116]) ++ (ByteArray.mk #[83, 97, 116])), AV.int IntKind.i64 0]))) False) (K (AV.tup [AV.str ((ByteArray.mk #[108, 97, 115, 116]) ++ (ByteArray.mk #[83, 97, 116])), AV.int IntKind.i64 0]))) False) (K (AV.tup [AV.str (ByteArray.mk #[]), AV.int IntKind.i64 1]))) := by kernel_rfl
set_option maxRecDepth 100000 in
theorem ton20_vc (n : Int) (K : AV → Prop) : AF (tab [(187, cyTwo)]) 12 182 [.agg [.int .i64 2, .int .i64 0, .int .i64 n]] K =
 (brc (decide (n ≥ 1)) (brc (!decide (n ≤ 31)) (K (AV.tup [AV.str (ByteArray.mk #[]), AV.int IntKind.i64 1])) (brc (decide (0 ≤ n ∧ n ≤ 99)) (brc (decide (((ByteArray.size (two n) : Nat) : Int) ≥ ((ByteArray.size (ByteArray.mk #[48]) : Nat) : Int))) (brc (decide (((ByteArray.size (ByteArray.mk #[48]) : Nat) : Int) ≤ ((ByteArray.size (two n) : Nat) : Int))) (brc (ByteArray.toList (ByteArray.extract (two n) (Int.toNat 0) (Int.toNat ((ByteArray.size (ByteArray.mk #[48]) : Nat) : Int))) == ByteArray.toList (ByteArray.mk #[48])) (brc (decide (((ByteArray.size (ByteArray.mk #[48]) : Nat) : Int) ≤ ((ByteArray.size (two n) : Nat) : Int)) && decide (((ByteArray.size (two n) : Nat) : Int) ≤ ((ByteArray.size (two n) : Nat) : Int))) (brc (decide (((ByteArray.size ((ByteArray.mk #[83, 117, 110]) ++ (ByteArray.mk #[62, 61])) + ByteArray.size (ByteArray.extract (two n) (Int.toNat ((ByteArray.size (ByteArray.mk #[48]) : Nat) : Int)) (Int.toNat ((ByteArray.size (two n) : Nat) : Int))) : Nat) : Int) ≤ IntKind.max IntKind.i64)) (K (AV.tup [AV.str ((ByteArray.mk #[83, 117, 110]) ++ (ByteArray.mk #[62, 61]) ++ ByteArray.extract (two n) 1 (Int.toNat ((ByteArray.size (two n) : Nat) : Int))), AV.int IntKind.i64 0])) False) False) (brc (decide (((ByteArray.size ((ByteArray.mk #[83, 117, 110]) ++ (ByteArray.mk #[62, 61])) + ByteArray.size (two n) : Nat) : Int) ≤ IntKind.max IntKind.i64)) (K (AV.tup [AV.str ((ByteArray.mk #[83, 117, 110]) ++ (ByteArray.mk #[62, 61]) ++ two n), AV.int IntKind.i64 0])) False)) False) (brc (decide (((ByteArray.size ((ByteArray.mk #[83, 117, 110]) ++ (ByteArray.mk #[62, 61])) + ByteArray.size (two n) : Nat) : Int) ≤ IntKind.max IntKind.i64)) (K (AV.tup [AV.str ((ByteArray.mk #[83, 117, 110]) ++ (ByteArray.mk #[62, 61]) ++ two n), AV.int IntKind.i64 0])) False)) False)) (K (AV.tup [AV.str (ByteArray.mk #[]), AV.int IntKind.i64 1]))) := by kernel_rfl
set_option maxRecDepth 100000 in
theorem ton21_vc (n : Int) (K : AV → Prop) : AF (tab [(187, cyTwo)]) 12 182 [.agg [.int .i64 2, .int .i64 1, .int .i64 n]] K =
 (brc (decide (n ≥ 1)) (brc (!decide (n ≤ 31)) (K (AV.tup [AV.str (ByteArray.mk #[]), AV.int IntKind.i64 1])) (brc (decide (0 ≤ n ∧ n ≤ 99)) (brc (decide (((ByteArray.size (two n) : Nat) : Int) ≥ ((ByteArray.size (ByteArray.mk #[48]) : Nat) : Int))) (brc (decide (((ByteArray.size (ByteArray.mk #[48]) : Nat) : Int) ≤ ((ByteArray.size (two n) : Nat) : Int))) (brc (ByteArray.toList (ByteArray.extract (two n) (Int.toNat 0) (Int.toNat ((ByteArray.size (ByteArray.mk #[48]) : Nat) : Int))) == ByteArray.toList (ByteArray.mk #[48])) (brc (decide (((ByteArray.size (ByteArray.mk #[48]) : Nat) : Int) ≤ ((ByteArray.size (two n) : Nat) : Int)) && decide (((ByteArray.size (two n) : Nat) : Int) ≤ ((ByteArray.size (two n) : Nat) : Int))) (brc (decide (((ByteArray.size ((ByteArray.mk #[77, 111, 110]) ++ (ByteArray.mk #[62, 61])) + ByteArray.size (ByteArray.extract (two n) (Int.toNat ((ByteArray.size (ByteArray.mk #[48]) : Nat) : Int)) (Int.toNat ((ByteArray.size (two n) : Nat) : Int))) : Nat) : Int) ≤ IntKind.max IntKind.i64)) (K (AV.tup [AV.str ((ByteArray.mk #[77, 111, 110]) ++ (ByteArray.mk #[62, 61]) ++ ByteArray.extract (two n) 1 (Int.toNat ((ByteArray.size (two n) : Nat) : Int))), AV.int IntKind.i64 0])) False) False) (brc (decide (((ByteArray.size ((ByteArray.mk #[77, 111, 110]) ++ (ByteArray.mk #[62, 61])) + ByteArray.size (two n) : Nat) : Int) ≤ IntKind.max IntKind.i64)) (K (AV.tup [AV.str ((ByteArray.mk #[77, 111, 110]) ++ (ByteArray.mk #[62, 61]) ++ two n), AV.int IntKind.i64 0])) False)) False) (brc (decide (((ByteArray.size ((ByteArray.mk #[77, 111, 110]) ++ (ByteArray.mk #[62, 61])) + ByteArray.size (two n) : Nat) : Int) ≤ IntKind.max IntKind.i64)) (K (AV.tup [AV.str ((ByteArray.mk #[77, 111, 110]) ++ (ByteArray.mk #[62, 61]) ++ two n), AV.int IntKind.i64 0])) False)) False)) (K (AV.tup [AV.str (ByteArray.mk #[]), AV.int IntKind.i64 1]))) := by kernel_rfl
set_option maxRecDepth 100000 in
theorem ton22_vc (n : Int) (K : AV → Prop) : AF (tab [(187, cyTwo)]) 12 182 [.agg [.int .i64 2, .int .i64 2, .int .i64 n]] K =
 (brc (decide (n ≥ 1)) (brc (!decide (n ≤ 31)) (K (AV.tup [AV.str (ByteArray.mk #[]), AV.int IntKind.i64 1])) (brc (decide (0 ≤ n ∧ n ≤ 99)) (brc (decide (((ByteArray.size (two n) : Nat) : Int) ≥ ((ByteArray.size (ByteArray.mk #[48]) : Nat) : Int))) (brc (decide (((ByteArray.size (ByteArray.mk #[48]) : Nat) : Int) ≤ ((ByteArray.size (two n) : Nat) : Int))) (brc (ByteArray.toList (ByteArray.extract (two n) (Int.toNat 0) (Int.toNat ((ByteArray.size (ByteArray.mk #[48]) : Nat) : Int))) == ByteArray.toList (ByteArray.mk #[48])) (brc (decide (((ByteArray.size (ByteArray.mk #[48]) : Nat) : Int) ≤ ((ByteArray.size (two n) : Nat) : Int)) && decide (((ByteArray.size (two n) : Nat) : Int) ≤ ((ByteArray.size (two n) : Nat) : Int))) (brc (decide (((ByteArray.size ((ByteArray.mk #[84, 117, 101]) ++ (ByteArray.mk #[62, 61])) + ByteArray.size (ByteArray.extract (two n) (Int.toNat ((ByteArray.size (ByteArray.mk #[48]) : Nat) : Int)) (Int.toNat ((ByteArray.size (two n) : Nat) : Int))) : Nat) : Int) ≤ IntKind.max IntKind.i64)) (K (AV.tup [AV.str ((ByteArray.mk #[84, 117, 101]) ++ (ByteArray.mk #[62, 61]) ++ ByteArray.extract (two n) 1 (Int.toNat ((ByteArray.size (two n) : Nat) : Int))), AV.int IntKind.i64 0])) False) False) (brc (decide (((ByteArray.size ((ByteArray.mk #[84, 117, 101]) ++ (ByteArray.mk #[62, 61])) + ByteArray.size (two n) : Nat) : Int) ≤ IntKind.max IntKind.i64)) (K (AV.tup [AV.str ((ByteArray.mk #[84, 117, 101]) ++ (ByteArray.mk #[62, 61]) ++ two n), AV.int IntKind.i64 0])) False)) False) (brc (decide (((ByteArray.size ((ByteArray.mk #[84, 117, 101]) ++ (ByteArray.mk #[62, 61])) + ByteArray.size (two n) : Nat) : Int) ≤ IntKind.max IntKind.i64)) (K (AV.tup [AV.str ((ByteArray.mk #[84, 117, 101]) ++ (ByteArray.mk #[62, 61]) ++ two n), AV.int IntKind.i64 0])) False)) False)) (K (AV.tup [AV.str (ByteArray.mk #[]), AV.int IntKind.i64 1]))) := by kernel_rfl
set_option maxRecDepth 100000 in
theorem ton23_vc (n : Int) (K : AV → Prop) : AF (tab [(187, cyTwo)]) 12 182 [.agg [.int .i64 2, .int .i64 3, .int .i64 n]] K =
 (brc (decide (n ≥ 1)) (brc (!decide (n ≤ 31)) (K (AV.tup [AV.str (ByteArray.mk #[]), AV.int IntKind.i64 1])) (brc (decide (0 ≤ n ∧ n ≤ 99)) (brc (decide (((ByteArray.size (two n) : Nat) : Int) ≥ ((ByteArray.size (ByteArray.mk #[48]) : Nat) : Int))) (brc (decide (((ByteArray.size (ByteArray.mk #[48]) : Nat) : Int) ≤ ((ByteArray.size (two n) : Nat) : Int))) (brc (ByteArray.toList (ByteArray.extract (two n) (Int.toNat 0) (Int.toNat ((ByteArray.size (ByteArray.mk #[48]) : Nat) : Int))) == ByteArray.toList (ByteArray.mk #[48])) (brc (decide (((ByteArray.size (ByteArray.mk #[48]) : Nat) : Int) ≤ ((ByteArray.size (two n) : Nat) : Int)) && decide (((ByteArray.size (two n) : Nat) : Int) ≤ ((ByteArray.size (two n) : Nat) : Int))) (brc (decide (((ByteArray.size ((ByteArray.mk #[87, 101, 100]) ++ (ByteArray.mk #[62, 61])) + ByteArray.size (ByteArray.extract (two n) (Int.toNat ((ByteArray.size (ByteArray.mk #[48]) : Nat) : Int)) (Int.toNat ((ByteArray.size (two n) : Nat) : Int))) : Nat) : Int) ≤ IntKind.max IntKind.i64)) (K (AV.tup [AV.str ((ByteArray.mk #[87, 101, 100]) ++ (ByteArray.mk #[62, 61]) ++ ByteArray.extract (two n) 1 (Int.toNat ((ByteArray.size (two n) : Nat) : Int))), AV.int IntKind.i64 0])) False) False) (brc (decide (((ByteArray.size ((ByteArray.mk #[87, 101, 100]) ++ (ByteArray.mk #[62, 61])) + ByteArray.size (two n) : Nat) : Int) ≤ IntKind.max IntKind.i64)) (K (AV.tup [AV.str ((ByteArray.mk #[87, 101, 100]) ++ (ByteArray.mk #[62, 61]) ++ two n), AV.int IntKind.i64 0])) False)) False) (brc (decide (((ByteArray.size ((ByteArray.mk #[87, 101, 100]) ++ (ByteArray.mk #[62, 61])) + ByteArray.size (two n) : Nat) : Int) ≤ IntKind.max IntKind.i64)) (K (AV.tup [AV.str ((ByteArray.mk #[87, 101, 100]) ++ (ByteArray.mk #[62, 61]) ++ two n), AV.int IntKind.i64 0])) False)) False)) (K (AV.tup [AV.str (ByteArray.mk #[]), AV.int IntKind.i64 1]))) := by kernel_rfl
set_option maxRecDepth 100000 in
theorem ton24_vc (n : Int) (K : AV → Prop) : AF (tab [(187, cyTwo)]) 12 182 [.agg [.int .i64 2, .int .i64 4, .int .i64 n]] K =
 (brc (decide (n ≥ 1)) (brc (!decide (n ≤ 31)) (K (AV.tup [AV.str (ByteArray.mk #[]), AV.int IntKind.i64 1])) (brc (decide (0 ≤ n ∧ n ≤ 99)) (brc (decide (((ByteArray.size (two n) : Nat) : Int) ≥ ((ByteArray.size (ByteArray.mk #[48]) : Nat) : Int))) (brc (decide (((ByteArray.size (ByteArray.mk #[48]) : Nat) : Int) ≤ ((ByteArray.size (two n) : Nat) : Int))) (brc (ByteArray.toList (ByteArray.extract (two n) (Int.toNat 0) (Int.toNat ((ByteArray.size (ByteArray.mk #[48]) : Nat) : Int))) == ByteArray.toList (ByteArray.mk #[48])) (brc (decide (((ByteArray.size (ByteArray.mk #[48]) : Nat) : Int) ≤ ((ByteArray.size (two n) : Nat) : Int)) && decide (((ByteArray.size (two n) : Nat) : Int) ≤ ((ByteArray.size (two n) : Nat) : Int))) (brc (decide (((ByteArray.size ((ByteArray.mk #[84, 104, 117]) ++ (ByteArray.mk #[62, 61])) + ByteArray.size (ByteArray.extract (two n) (Int.toNat ((ByteArray.size (ByteArray.mk #[48]) : Nat) : Int)) (Int.toNat ((ByteArray.size (two n) : Nat) : Int))) : Nat) : Int) ≤ IntKind.max IntKind.i64)) (K (AV.tup [AV.str ((ByteArray.mk #[84, 104, 117]) ++ (ByteArray.mk #[62, 61]) ++ ByteArray.extract (two n) 1 (Int.toNat ((ByteArray.size (two n) : Nat) : Int))), AV.int IntKind.i64 0])) False) False) (brc (decide (((ByteArray.size ((ByteArray.mk #[84, 104, 117]) ++ (ByteArray.mk #[62, 61])) + ByteArray.size (two n) : Nat) : Int) ≤ IntKind.max IntKind.i64)) (K (AV.tup [AV.str ((ByteArray.mk #[84, 104, 117]) ++ (ByteArray.mk #[62, 61]) ++ two n), AV.int IntKind.i64 0])) False)) False) (brc (decide (((ByteArray.size ((ByteArray.mk #[84, 104, 117]) ++ (ByteArray.mk #[62, 61])) + ByteArray.size (two n) : Nat) : Int) ≤ IntKind.max IntKind.i64)) (K (AV.tup [AV.str ((ByteArray.mk #[84, 104, 117]) ++ (ByteArray.mk #[62, 61]) ++ two n), AV.int IntKind.i64 0])) False)) False)) (K (AV.tup [AV.str (ByteArray.mk #[]), AV.int IntKind.i64 1]))) := by kernel_rfl
set_option maxRecDepth 100000 in
theorem ton25_vc (n : Int) (K : AV → Prop) : AF (tab [(187, cyTwo)]) 12 182 [.agg [.int .i64 2, .int .i64 5, .int .i64 n]] K =
 (brc (decide (n ≥ 1)) (brc (!decide (n ≤ 31)) (K (AV.tup [AV.str (ByteArray.mk #[]), AV.int IntKind.i64 1])) (brc (decide (0 ≤ n ∧ n ≤ 99)) (brc (decide (((ByteArray.size (two n) : Nat) : Int) ≥ ((ByteArray.size (ByteArray.mk #[48]) : Nat) : Int))) (brc (decide (((ByteArray.size (ByteArray.mk #[48]) : Nat) : Int) ≤ ((ByteArray.size (two n) : Nat) : Int))) (brc (ByteArray.toList (ByteArray.extract (two n) (Int.toNat 0) (Int.toNat ((ByteArray.size (ByteArray.mk #[48]) : Nat) : Int))) == ByteArray.toList (ByteArray.mk #[48])) (brc (decide (((ByteArray.size (ByteArray.mk #[48]) : Nat) : Int) ≤ ((ByteArray.size (two n) : Nat) : Int)) && decide (((ByteArray.size (two n) : Nat) : Int) ≤ ((ByteArray.size (two n) : Nat) : Int))) (brc (decide (((ByteArray.size ((ByteArray.mk #[70, 114, 105]) ++ (ByteArray.mk #[62, 61])) + ByteArray.size (ByteArray.extract (two n) (Int.toNat ((ByteArray.size (ByteArray.mk #[48]) : Nat) : Int)) (Int.toNat ((ByteArray.size (two n) : Nat) : Int))) : Nat) : Int) ≤ IntKind.max IntKind.i64)) (K (AV.tup [AV.str ((ByteArray.mk #[70, 114, 105]) ++ (ByteArray.mk #[62, 61]) ++ ByteArray.extract (two n) 1 (Int.toNat ((ByteArray.size (two n) : Nat) : Int))), AV.int IntKind.i64 0])) False) False) (brc (decide (((ByteArray.size ((ByteArray.mk #[70, 114, 105]) ++ (ByteArray.mk #[62, 61])) + ByteArray.size (two n) : Nat) : Int) ≤ IntKind.max IntKind.i64)) (K (AV.tup [AV.str ((ByteArray.mk #[70, 114, 105]) ++ (ByteArray.mk #[62, 61]) ++ two n), AV.int IntKind.i64 0])) False)) False) (brc (decide (((ByteArray.size ((ByteArray.mk #[70, 114, 105]) ++ (ByteArray.mk #[62, 61])) + ByteArray.size (two n) : Nat) : Int) ≤ IntKind.max IntKind.i64)) (K (AV.tup [AV.str ((ByteArray.mk #[70, 114, 105]) ++ (ByteArray.mk #[62, 61]) ++ two n), AV.int IntKind.i64 0])) False)) False)) (K (AV.tup [AV.str (ByteArray.mk #[]), AV.int IntKind.i64 1]))) := by kernel_rfl
set_option maxRecDepth 100000 in
theorem ton26_vc (n : Int) (K : AV → Prop) : AF (tab [(187, cyTwo)]) 12 182 [.agg [.int .i64 2, .int .i64 6, .int .i64 n]] K =
 (brc (decide (n ≥ 1)) (brc (!decide (n ≤ 31)) (K (AV.tup [AV.str (ByteArray.mk #[]), AV.int IntKind.i64 1])) (brc (decide (0 ≤ n ∧ n ≤ 99)) (brc (decide (((ByteArray.size (two n) : Nat) : Int) ≥ ((ByteArray.size (ByteArray.mk #[48]) : Nat) : Int))) (brc (decide (((ByteArray.size (ByteArray.mk #[48]) : Nat) : Int) ≤ ((ByteArray.size (two n) : Nat) : Int))) (brc (ByteArray.toList (ByteArray.extract (two n) (Int.toNat 0) (Int.toNat ((ByteArray.size (ByteArray.mk #[48]) : Nat) : Int))) == ByteArray.toList (ByteArray.mk #[48])) (brc (decide (((ByteArray.size (ByteArray.mk #[48]) : Nat) : Int) ≤ ((ByteArray.size (two n) : Nat) : Int)) && decide (((ByteArray.size (two n) : Nat) : Int) ≤ ((ByteArray.size (two n) : Nat) : Int))) (brc (decide (((ByteArray.size ((ByteArray.mk #[83, 97, 116]) ++ (ByteArray.mk #[62, 61])) + ByteArray.size (ByteArray.extract (two n) (Int.toNat ((ByteArray.size (ByteArray.mk #[48]) : Nat) : Int)) (Int.toNat ((ByteArray.size (two n) : Nat) : Int))) : Nat) : Int) ≤ IntKind.max IntKind.i64)) (K (AV.tup [AV.str ((ByteArray.mk #[83, 97, 116]) ++ (ByteArray.mk #[62, 61]) ++ ByteArray.extract (two n) 1 (Int.toNat ((ByteArray.size (two n) : Nat) : Int))), AV.int IntKind.i64 0])) False) False) (brc (decide (((ByteArray.size ((ByteArray.mk #[83, 97, 116]) ++ (ByteArray.mk #[62, 61])) + ByteArray.size (two n) : Nat) : Int) ≤ IntKind.max IntKind.i64)) (K (AV.tup [AV.str ((ByteArray.mk #[83, 97, 116]) ++ (ByteArray.mk #[62, 61]) ++ two n), AV.int IntKind.i64 0])) False)) False) (brc (decide (((ByteArray.size ((ByteArray.mk #[83, 97, 116]) ++ (ByteArray.mk #[62, 61])) + ByteArray.size (two n) : Nat) : Int) ≤ IntKind.max IntKind.i64)) (K (AV.tup [AV.str ((ByteArray.mk #[83, 97, 116]) ++ (ByteArray.mk #[62, 61]) ++ two n), AV.int IntKind.i64 0])) False)) False)) (K (AV.tup [AV.str (ByteArray.mk #[]), AV.int IntKind.i64 1]))) := by kernel_rfl
set_option maxRecDepth 100000 in
theorem ton30_vc (n : Int) (K : AV → Prop) : AF (tab [(187, cyTwo)]) 12 182 [.agg [.int .i64 3, .int .i64 0, .int .i64 n]] K =
 (brc (decide (n ≥ 1)) (brc (!decide (n ≤ 31)) (K (AV.tup [AV.str (ByteArray.mk #[]), AV.int IntKind.i64 1])) (brc (decide (0 ≤ n ∧ n ≤ 99)) (brc (decide (((ByteArray.size (two n) : Nat) : Int) ≥ ((ByteArray.size (ByteArray.mk #[48]) : Nat) : Int))) (brc (decide (((ByteArray.size (ByteArray.mk #[48]) : Nat) : Int) ≤ ((ByteArray.size (two n) : Nat) : Int))) (brc (ByteArray.toList (ByteArray.extract (two n) (Int.toNat 0) (Int.toNat ((ByteArray.size (ByteArray.mk #[48]) : Nat) : Int))) == ByteArray.toList (ByteArray.mk #[48])) (brc (decide (((ByteArray.size (ByteArray.mk #[48]) : Nat) : Int) ≤ ((ByteArray.size (two n) : Nat) : Int)) && decide (((ByteArray.size (two n) : Nat) : Int) ≤ ((ByteArray.size (two n) : Nat) : Int))) (brc (decide (((ByteArray.size ((ByteArray.mk #[83, 117, 110]) ++ (ByteArray.mk #[60, 61])) + ByteArray.size (ByteArray.extract (two n) (Int.toNat ((ByteArray.size (ByteArray.mk #[48]) : Nat) : Int)) (Int.toNat ((ByteArray.size (two n) : Nat) : Int))) : Nat) : Int) ≤ IntKind.max IntKind.i64)) (K (AV.tup [AV.str ((ByteArray.mk #[83, 117, 110]) ++ (ByteArray.mk #[60, 61]) ++ ByteArray.extract (two n) 1 (Int.toNat ((ByteArray.size (two n) : Nat) : Int))), AV.int IntKind.i64 0])) False) False) (brc (decide (((ByteArray.size ((ByteArray.mk #[83, 117, 110]) ++ (ByteArray.mk #[60, 61])) + ByteArray.size (two n) : Nat) : Int) ≤ IntKind.max IntKind.i64)) (K (AV.tup [AV.str ((ByteArray.mk #[83, 117, 110]) ++ (ByteArray.mk #[60, 61]) ++ two n), AV.int IntKind.i64 0])) False)) False) (brc (decide (((ByteArray.size ((ByteArray.mk #[83, 117, 110]) ++ (ByteArray.mk #[60, 61])) + ByteArray.size (two n) : Nat) : Int) ≤ IntKind.max IntKind.i64)) (K (AV.tup [AV.str ((ByteArray.mk #[83, 117, 110]) ++ (ByteArray.mk #[60, 61]) ++ two n), AV.int IntKind.i64 0])) False)) False)) (K (AV.tup [AV.str (ByteArray.mk #[]), AV.int IntKind.i64 1]))) := by kernel_rfl
set_option maxRecDepth 100000 in
theorem ton31_vc (n : Int) (K : AV → Prop) : AF (tab [(187, cyTwo)]) 12 182 [.agg [.int .i64 3, .int .i64 1, .int .i64 n]] K =
 (brc (decide (n ≥ 1)) (brc (!decide (n ≤ 31)) (K (AV.tup [AV.str (ByteArray.mk #[]), AV.int IntKind.i64 1])) (brc (decide (0 ≤ n ∧ n ≤ 99)) (brc (decide (((ByteArray.size (two n) : Nat) : Int) ≥ ((ByteArray.size (ByteArray.mk #[48]) : Nat) : Int))) (brc (decide (((ByteArray.size (ByteArray.mk #[48]) : Nat) : Int) ≤ ((ByteArray.size (two n) : Nat) : Int))) (brc (ByteArray.toList (ByteArray.extract (two n) (Int.toNat 0) (Int.toNat ((ByteArray.size (ByteArray.mk #[48]) : Nat) : Int))) == ByteArray.toList (ByteArray.mk #[48])) (brc (decide (((ByteArray.size (ByteArray.mk #[48]) : Nat) : Int) ≤ ((ByteArray.size (two n) : Nat) : Int)) && decide (((ByteArray.size (two n) : Nat) : Int) ≤ ((ByteArray.size (two n) : Nat) : Int))) (brc (decide (((ByteArray.size ((ByteArray.mk #[77, 111, 110]) ++ (ByteArray.mk #[60, 61])) + ByteArray.size (ByteArray.extract (two n) (Int.toNat ((ByteArray.size (ByteArray.mk #[48]) : Nat) : Int)) (Int.toNat ((ByteArray.size (two n) : Nat) : Int))) : Nat) : Int) ≤ IntKind.max IntKind.i64)) (K (AV.tup [AV.str ((ByteArray.mk #[77, 111, 110]) ++ (ByteArray.mk #[60, 61]) ++ ByteArray.extract (two n) 1 (Int.toNat ((ByteArray.size (two n) : Nat) : Int))), AV.int IntKind.i64 0])) False) False) (brc (decide (((ByteArray.size ((ByteArray.mk #[77, 111, 110]) ++ (ByteArray.mk #[60, 61])) + ByteArray.size (two n) : Nat) : Int) ≤ IntKind.max IntKind.i64)) (K (AV.tup [AV.str ((ByteArray.mk #[77, 111, 110]) ++ (ByteArray.mk #[60, 61]) ++ two n), AV.int IntKind.i64 0])) False)) False) (brc (decide (((ByteArray.size ((ByteArray.mk #[77, 111, 110]) ++ (ByteArray.mk #[60, 61])) + ByteArray.size (two n) : Nat) : Int) ≤ IntKind.max IntKind.i64)) (K (AV.tup [AV.str ((ByteArray.mk #[77, 111, 110]) ++ (ByteArray.mk #[60, 61]) ++ two n), AV.int IntKind.i64 0])) False)) False)) (K (AV.tup [AV.str (ByteArray.mk #[]), AV.int IntKind.i64 1]))) := by kernel_rfl
set_option maxRecDepth 100000 in
theorem ton32_vc (n : Int) (K : AV → Prop) : AF (tab [(187, cyTwo)]) 12 182 [.agg [.int .i64 3, .int .i64 2, .int .i64 n]] K =
 (brc (decide (n ≥ 1)) (brc (!decide (n ≤ 31)) (K (AV.tup [AV.str (ByteArray.mk #[]), AV.int IntKind.i64 1])) (brc (decide (0 ≤ n ∧ n ≤ 99)) (brc (decide (((ByteArray.size (two n) : Nat) : Int) ≥ ((ByteArray.size (ByteArray.mk #[48]) : Nat) : Int))) (brc (decide (((ByteArray.size (ByteArray.mk #[48]) : Nat) : Int) ≤ ((ByteArray.size (two n) : Nat) : Int))) (brc (ByteArray.toList (ByteArray.extract (two n) (Int.toNat 0) (Int.toNat ((ByteArray.size (ByteArray.mk #[48]) : Nat) : Int))) == ByteArray.toList (ByteArray.mk #[48])) (brc (decide (((ByteArray.size (ByteArray.mk #[48]) : Nat) : Int) ≤ ((ByteArray.size (two n) : Nat) : Int)) && decide (((ByteArray.size (two n) : Nat) : Int) ≤ ((ByteArray.size (two n) : Nat) : Int))) (brc (decide (((ByteArray.size ((ByteArray.mk #[84, 117, 101]) ++ (ByteArray.mk #[60, 61])) + ByteArray.size (ByteArray.extract (two n) (Int.toNat ((ByteArray.size (ByteArray.mk #[48]) : Nat) : Int)) (Int.toNat ((ByteArray.size (two n) : Nat) : Int))) : Nat) : Int) ≤ IntKind.max IntKind.i64)) (K (AV.tup [AV.str ((ByteArray.mk #[84, 117, 101]) ++ (ByteArray.mk #[60, 61]) ++ ByteArray.extract (two n) 1 (Int.toNat ((ByteArray.size (two n) : Nat) : Int))), AV.int IntKind.i64 0])) False) False) (brc (decide (((ByteArray.size ((ByteArray.mk #[84, 117, 101]) ++ (ByteArray.mk #[60, 61])) + ByteArray.size (two n) : Nat) : Int) ≤ IntKind.max IntKind.i64)) (K (AV.tup [AV.str ((ByteArray.mk #[84, 117, 101]) ++ (ByteArray.mk #[60, 61]) ++ two n), AV.int IntKind.i64 0])) False)) False) (brc (decide (((ByteArray.size ((ByteArray.mk #[84, 117, 101]) ++ (ByteArray.mk #[60, 61])) + ByteArray.size (two n) : Nat) : Int) ≤ IntKind.max IntKind.i64)) (K (AV.tup [AV.str ((ByteArray.mk #[84, 117, 101]) ++ (ByteArray.mk #[60, 61]) ++ two n), AV.int IntKind.i64 0])) False)) False)) (K (AV.tup [AV.str (ByteArray.mk #[]), AV.int IntKind.i64 1]))) := by kernel_rfl
set_option maxRecDepth 100000 in
theorem ton33_vc (n : Int) (K : AV → Prop) : AF (tab [(187, cyTwo)]) 12 182 [.agg [.int .i64 3, .int .i64 3, .int .i64 n]] K =
 (brc (decide (n ≥ 1)) (brc (!decide (n ≤ 31)) (K (AV.tup [AV.str (ByteArray.mk #[]), AV.int IntKind.i64 1])) (brc (decide (0 ≤ n ∧ n ≤ 99)) (brc (decide (((ByteArray.size (two n) : Nat) : Int) ≥ ((ByteArray.size (ByteArray.mk #[48]) : Nat) : Int))) (brc (decide (((ByteArray.size (ByteArray.mk #[48]) : Nat) : Int) ≤ ((ByteArray.size (two n) : Nat) : Int))) (brc (ByteArray.toList (ByteArray.extract (two n) (Int.toNat 0) (Int.toNat ((ByteArray.size (ByteArray.mk #[48]) : Nat) : Int))) == ByteArray.toList (ByteArray.mk #[48])) (brc (decide (((ByteArray.size (ByteArray.mk #[48]) : Nat) : Int) ≤ ((ByteArray.size (two n) : Nat) : Int)) && decide (((ByteArray.size (two n) : Nat) : Int) ≤ ((ByteArray.size (two n) : Nat) : Int))) (brc (decide (((ByteArray.size ((ByteArray.mk #[87, 101, 100]) ++ (ByteArray.mk #[60, 61])) + ByteArray.size (ByteArray.extract (two n) (Int.toNat ((ByteArray.size (ByteArray.mk #[48]) : Nat) : Int)) (Int.toNat ((ByteArray.size (two n) : Nat) : Int))) : Nat) : Int) ≤ IntKind.max IntKind.i64)) (K (AV.tup [AV.str ((ByteArray.mk #[87, 101, 100]) ++ (ByteArray.mk #[60, 61]) ++ ByteArray.extract (two n) 1 (Int.toNat ((ByteArray.size (two n) : Nat) : Int))), AV.int IntKind.i64 0])) False) False) (brc (decide (((ByteArray.size ((ByteArray.mk #[87, 101, 100]) ++ (ByteArray.mk #[60, 61])) + ByteArray.size (two n) : Nat) : Int) ≤ IntKind.max IntKind.i64)) (K (AV.tup [AV.str ((ByteArray.mk #[87, 101, 100]) ++ (ByteArray.mk #[60, 61]) ++ two n), AV.int IntKind.i64 0])) False)) False) (brc (decide (((ByteArray.size ((ByteArray.mk #[87, 101, 100]) ++ (ByteArray.mk #[60, 61])) + ByteArray.size (two n) : Nat) : Int) ≤ IntKind.max IntKind.i64)) (K (AV.tup [AV.str ((ByteArray.mk #[87, 101, 100]) ++ (ByteArray.mk #[60, 61]) ++ two n), AV.int IntKind.i64 0])) False)) False)) (K (AV.tup [AV.str (ByteArray.mk #[]), AV.int IntKind.i64 1]))) := by kernel_rfl
set_option maxRecDepth 100000 in
theorem ton34_vc (n : Int) (K : AV → Prop) : AF (tab [(187, cyTwo)]) 12 182 [.agg [.int .i64 3, .int .i64 4, .int .i64 n]] K =
 (brc (decide (n ≥ 1)) (brc (!decide (n ≤ 31)) (K (AV.tup [AV.str (ByteArray.mk #[]), AV.int IntKind.i64 1])) (brc (decide (0 ≤ n ∧ n ≤ 99)) (brc (decide (((ByteArray.size (two n) : Nat) : Int) ≥ ((ByteArray.size (ByteArray.mk #[48]) : Nat) : Int))) (brc (decide (((ByteArray.size (ByteArray.mk #[48]) : Nat) : Int) ≤ ((ByteArray.size (two n) : Nat) : Int))) (brc (ByteArray.toList (ByteArray.extract (two n) (Int.toNat 0) (Int.toNat ((ByteArray.size (ByteArray.mk #[48]) : Nat) : Int))) == ByteArray.toList (ByteArray.mk #[48])) (brc (decide (((ByteArray.size (ByteArray.mk #[48]) : Nat) : Int) ≤ ((ByteArray.size (two n) : Nat) : Int)) && decide (((ByteArray.size (two n) : Nat) : Int) ≤ ((ByteArray.size (two n) : Nat) : Int))) (brc (decide (((ByteArray.size ((ByteArray.mk #[84, 104, 117]) ++ (ByteArray.mk #[60, 61])) + ByteArray.size (ByteArray.extract (two n) (Int.toNat ((ByteArray.size (ByteArray.mk #[48]) : Nat) : Int)) (Int.toNat ((ByteArray.size (two n) : Nat) : Int))) : Nat) : Int) ≤ IntKind.max IntKind.i64)) (K (AV.tup [AV.str ((ByteArray.mk #[84, 104, 117]) ++ (ByteArray.mk #[60, 61]) ++ ByteArray.extract (two n) 1 (Int.toNat ((ByteArray.size (two n) : Nat) : Int))), AV.int IntKind.i64 0])) False) False) (brc (decide (((ByteArray.size ((ByteArray.mk #[84, 104, 117]) ++ (ByteArray.mk #[60, 61])) + ByteArray.size (two n) : Nat) : Int) ≤ IntKind.max IntKind.i64)) (K (AV.tup [AV.str ((ByteArray.mk #[84, 104, 117]) ++ (ByteArray.mk #[60, 61]) ++ two n), AV.int IntKind.i64 0])) False)) False) (brc (decide (((ByteArray.size ((ByteArray.mk #[84, 104, 117]) ++ (ByteArray.mk #[60, 61])) + ByteArray.size (two n) : Nat) : Int) ≤ IntKind.max IntKind.i64)) (K (AV.tup [AV.str ((ByteArray.mk #[84, 104, 117]) ++ (ByteArray.mk #[60, 61]) ++ two n), AV.int IntKind.i64 0])) False)) False)) (K (AV.tup [AV.str (ByteArray.mk #[]), AV.int IntKind.i64 1]))) := by kernel_rfl
set_option maxRecDepth 100000 in
theorem ton35_vc (n : Int) (K : AV → Prop) : AF (tab [(187, cyTwo)]) 12 182 [.agg [.int .i64 3, .int .i64 5, .int .i64 n]] K =
 (brc (decide (n ≥ 1)) (brc (!decide (n ≤ 31)) (K (AV.tup [AV.str (ByteArray.mk #[]), AV.int IntKind.i64 1])) (brc (decide (0 ≤ n ∧ n ≤ 99)) (brc (decide (((ByteArray.size (two n) : Nat) : Int) ≥ ((ByteArray.size (ByteArray.mk #[48]) : Nat) : Int))) (brc (decide (((ByteArray.size (ByteArray.mk #[48]) : Nat) : Int) ≤ ((ByteArray.size (two n) : Nat) : Int))) (brc (ByteArray.toList (ByteArray.extract (two n) (Int.toNat 0) (Int.toNat ((ByteArray.size (ByteArray.mk #[48]) : Nat) : Int))) == ByteArray.toList (ByteArray.mk #[48])) (brc (decide (((ByteArray.size (ByteArray.mk #[48]) : Nat) : Int) ≤ ((ByteArray.size (two n) : Nat) : Int)) && decide (((ByteArray.size (two n) : Nat) : Int) ≤ ((ByteArray.size (two n) : Nat) : Int))) (brc (decide (((ByteArray.size ((ByteArray.mk #[70, 114, 105]) ++ (ByteArray.mk #[60, 61])) + ByteArray.size (ByteArray.extract (two n) (Int.toNat ((ByteArray.size (ByteArray.mk #[48]) : Nat) : Int)) (Int.toNat ((ByteArray.size (two n) : Nat) : Int))) : Nat) : Int) ≤ IntKind.max IntKind.i64)) (K (AV.tup [AV.str ((ByteArray.mk #[70, 114, 105]) ++ (ByteArray.mk #[60, 61]) ++ ByteArray.extract (two n) 1 (Int.toNat ((ByteArray.size (two n) : Nat) : Int))), AV.int IntKind.i64 0])) False) False) (brc (decide (((ByteArray.size ((ByteArray.mk #[70, 114, 105]) ++ (ByteArray.mk #[60, 61])) + ByteArray.size (two n) : Nat) : Int) ≤ IntKind.max IntKind.i64)) (K (AV.tup [AV.str ((ByteArray.mk #[70, 114, 105]) ++ (ByteArray.mk #[60, 61]) ++ two n), AV.int IntKind.i64 0])) False)) False) (brc (decide (((ByteArray.size ((ByteArray.mk #[70, 114, 105]) ++ (ByteArray.mk #[60, 61])) + ByteArray.size (two n) : Nat) : Int) ≤ IntKind.max IntKind.i64)) (K (AV.tup [AV.str ((ByteArray.mk #[70, 114, 105]) ++ (ByteArray.mk #[60, 61]) ++ two n), AV.int IntKind.i64 0])) False)) False)) (K (AV.tup [AV.str (ByteArray.mk #[]), AV.int IntKind.i64 1]))) := by kernel_rfl
set_option maxRecDepth 100000 in
theorem ton36_vc (n : Int) (K : AV → Prop) : AF (tab [(187, cyTwo)]) 12 182 [.agg [.int .i64 3, .int .i64 6, .int .i64 n]] K =
 (brc (decide (n ≥ 1)) (brc (!decide (n ≤ 31)) (K (AV.tup [AV.str (ByteArray.mk #[]), AV.int IntKind.i64 1])) (brc (decide (0 ≤ n ∧ n ≤ 99)) (brc (decide (((ByteArray.size (two n) : Nat) : Int) ≥ ((ByteArray.size (ByteArray.mk #[48]) : Nat) : Int))) (brc (decide (((ByteArray.size (ByteArray.mk #[48]) : Nat) : Int) ≤ ((ByteArray.size (two n) : Nat) : Int))) (brc (ByteArray.toList (ByteArray.extract (two n) (Int.toNat 0) (Int.toNat ((ByteArray.size (ByteArray.mk #[48]) : Nat) : Int))) == ByteArray.toList (ByteArray.mk #[48])) (brc (decide (((ByteArray.size (ByteArray.mk #[48]) : Nat) : Int) ≤ ((ByteArray.size (two n) : Nat) : Int)) && decide (((ByteArray.size (two n) : Nat) : Int) ≤ ((ByteArray.size (two n) : Nat) : Int))) (brc (decide (((ByteArray.size ((ByteArray.mk #[83, 97, 116]) ++ (ByteArray.mk #[60, 61])) + ByteArray.size (ByteArray.extract (two n) (Int.toNat ((ByteArray.size (ByteArray.mk #[48]) : Nat) : Int)) (Int.toNat ((ByteArray.size (two n) : Nat) : Int))) : Nat) : Int) ≤ IntKind.max IntKind.i64)) (K (AV.tup [AV.str ((ByteArray.mk #[83, 97, 116]) ++ (ByteArray.mk #[60, 61]) ++ ByteArray.extract (two n) 1 (Int.toNat ((ByteArray.size (two n) : Nat) : Int))), AV.int IntKind.i64 0])) False) False) (brc (decide (((ByteArray.size ((ByteArray.mk #[83, 97, 116]) ++ (ByteArray.mk #[60, 61])) + ByteArray.size (two n) : Nat) : Int) ≤ IntKind.max IntKind.i64)) (K (AV.tup [AV.str ((ByteArray.mk #[83, 97, 116]) ++ (ByteArray.mk #[60, 61]) ++ two n), AV.int IntKind.i64 0])) False)) False) (brc (decide (((ByteArray.size ((ByteArray.mk #[83, 97, 116]) ++ (ByteArray.mk #[60, 61])) + ByteArray.size (two n) : Nat) : Int) ≤ IntKind.max IntKind.i64)) (K (AV.tup [AV.str ((ByteArray.mk #[83, 97, 116]) ++ (ByteArray.mk #[60, 61]) ++ two n), AV.int IntKind.i64 0])) False)) False)) (K (AV.tup [AV.str (ByteArray.mk #[]), AV.int IntKind.i64 1]))) := by kernel_rfl
set_option maxRecDepth 100000 in
theorem ton00_ok {n : Int} (hn : 1 ≤ n ∧ n ≤ 31) : AF (tab [(187, cyTwo)]) 12 182 [.agg [.int .i64 0, .int .i64 0, .int .i64 n]] fun u => ∃ s, u = .tup [.str s, .int .i64 0] := by
 rw [ton00_vc]
 repeat' (with_reducible refine kA (fun h => ?_) (fun h => ?_))
 all_goals first
  | exact ⟨_, rfl⟩
  | (exfalso; simp [bB, bH, decide_eq_false_iff_not, ByteArray.size_append, ByteArray.size_extract, IntKind.max, IntKind.signed, IntKind.bits] at *; omega)
  | (exfalso; simp [bB, bH, decide_eq_false_iff_not, ByteArray.size_append, ByteArray.size_extract, IntKind.max, IntKind.signed, IntKind.bits] at *; done)
set_option maxRecDepth 100000 in
theorem ton10_ok {n : Int} (hn : n = 0) : AF (tab [(187, cyTwo)]) 12 182 [.agg [.int .i64 1, .int .i64 0, .int .i64 n]] fun u => ∃ s, u = .tup [.str s, .int .i64 0] := by
 rw [ton10_vc]
 repeat' (with_reducible refine kA (fun h => ?_) (fun h => ?_))
 all_goals first
  | exact ⟨_, rfl⟩
  | (exfalso; simp [bB, bH, decide_eq_false_iff_not, ByteArray.size_append, ByteArray.size_extract, IntKind.max, IntKind.signed, IntKind.bits] at *; omega)
  | (exfalso; simp [bB, bH, decide_eq_false_iff_not, ByteArray.size_append, ByteArray.size_extract, IntKind.max, IntKind.signed, IntKind.bits] at *; done)
set_option maxRecDepth 100000 in
theorem ton11_ok {n : Int} (hn : n = 0) : AF (tab [(187, cyTwo)]) 12 182 [.agg [.int .i64 1, .int .i64 1, .int .i64 n]] fun u => ∃ s, u = .tup [.str s, .int .i64 0] := by
 rw [ton11_vc]
 repeat' (with_reducible refine kA (fun h => ?_) (fun h => ?_))
 all_goals first
  | exact ⟨_, rfl⟩
  | (exfalso; simp [bB, bH, decide_eq_false_iff_not, ByteArray.size_append, ByteArray.size_extract, IntKind.max, IntKind.signed, IntKind.bits] at *; omega)
  | (exfalso; simp [bB, bH, decide_eq_false_iff_not, ByteArray.size_append, ByteArray.size_extract, IntKind.max, IntKind.signed, IntKind.bits] at *; done)
set_option maxRecDepth 100000 in
theorem ton12_ok {n : Int} (hn : n = 0) : AF (tab [(187, cyTwo)]) 12 182 [.agg [.int .i64 1, .int .i64 2, .int .i64 n]] fun u => ∃ s, u = .tup [.str s, .int .i64 0] := by
 rw [ton12_vc]
 repeat' (with_reducible refine kA (fun h => ?_) (fun h => ?_))
 all_goals first
  | exact ⟨_, rfl⟩
  | (exfalso; simp [bB, bH, decide_eq_false_iff_not, ByteArray.size_append, ByteArray.size_extract, IntKind.max, IntKind.signed, IntKind.bits] at *; omega)
  | (exfalso; simp [bB, bH, decide_eq_false_iff_not, ByteArray.size_append, ByteArray.size_extract, IntKind.max, IntKind.signed, IntKind.bits] at *; done)
set_option maxRecDepth 100000 in
theorem ton13_ok {n : Int} (hn : n = 0) : AF (tab [(187, cyTwo)]) 12 182 [.agg [.int .i64 1, .int .i64 3, .int .i64 n]] fun u => ∃ s, u = .tup [.str s, .int .i64 0] := by
 rw [ton13_vc]
 repeat' (with_reducible refine kA (fun h => ?_) (fun h => ?_))
 all_goals first
  | exact ⟨_, rfl⟩
  | (exfalso; simp [bB, bH, decide_eq_false_iff_not, ByteArray.size_append, ByteArray.size_extract, IntKind.max, IntKind.signed, IntKind.bits] at *; omega)
  | (exfalso; simp [bB, bH, decide_eq_false_iff_not, ByteArray.size_append, ByteArray.size_extract, IntKind.max, IntKind.signed, IntKind.bits] at *; done)
set_option maxRecDepth 100000 in
theorem ton14_ok {n : Int} (hn : n = 0) : AF (tab [(187, cyTwo)]) 12 182 [.agg [.int .i64 1, .int .i64 4, .int .i64 n]] fun u => ∃ s, u = .tup [.str s, .int .i64 0] := by
 rw [ton14_vc]
 repeat' (with_reducible refine kA (fun h => ?_) (fun h => ?_))
 all_goals first
  | exact ⟨_, rfl⟩
  | (exfalso; simp [bB, bH, decide_eq_false_iff_not, ByteArray.size_append, ByteArray.size_extract, IntKind.max, IntKind.signed, IntKind.bits] at *; omega)
  | (exfalso; simp [bB, bH, decide_eq_false_iff_not, ByteArray.size_append, ByteArray.size_extract, IntKind.max, IntKind.signed, IntKind.bits] at *; done)
set_option maxRecDepth 100000 in
theorem ton15_ok {n : Int} (hn : n = 0) : AF (tab [(187, cyTwo)]) 12 182 [.agg [.int .i64 1, .int .i64 5, .int .i64 n]] fun u => ∃ s, u = .tup [.str s, .int .i64 0] := by
 rw [ton15_vc]
 repeat' (with_reducible refine kA (fun h => ?_) (fun h => ?_))
 all_goals first
  | exact ⟨_, rfl⟩
  | (exfalso; simp [bB, bH, decide_eq_false_iff_not, ByteArray.size_append, ByteArray.size_extract, IntKind.max, IntKind.signed, IntKind.bits] at *; omega)
  | (exfalso; simp [bB, bH, decide_eq_false_iff_not, ByteArray.size_append, ByteArray.size_extract, IntKind.max, IntKind.signed, IntKind.bits] at *; done)
set_option maxRecDepth 100000 in
theorem ton16_ok {n : Int} (hn : n = 0) : AF (tab [(187, cyTwo)]) 12 182 [.agg [.int .i64 1, .int .i64 6, .int .i64 n]] fun u => ∃ s, u = .tup [.str s, .int .i64 0] := by
 rw [ton16_vc]
 repeat' (with_reducible refine kA (fun h => ?_) (fun h => ?_))
 all_goals first
  | exact ⟨_, rfl⟩
  | (exfalso; simp [bB, bH, decide_eq_false_iff_not, ByteArray.size_append, ByteArray.size_extract, IntKind.max, IntKind.signed, IntKind.bits] at *; omega)
  | (exfalso; simp [bB, bH, decide_eq_false_iff_not, ByteArray.size_append, ByteArray.size_extract, IntKind.max, IntKind.signed, IntKind.bits] at *; done)
set_option maxRecDepth 100000 in
theorem ton20_ok {n : Int} (hn : 1 ≤ n ∧ n ≤ 31) : AF (tab [(187, cyTwo)]) 12 182 [.agg [.int .i64 2, .int .i64 0, .int .i64 n]] fun u => ∃ s, u = .tup [.str s, .int .i64 0] := by
 rw [ton20_vc]
 repeat' (with_reducible refine kA (fun h => ?_) (fun h => ?_))
 all_goals first
  | exact ⟨_, rfl⟩
  | (exfalso; simp [bB, bH, decide_eq_false_iff_not, ByteArray.size_append, ByteArray.size_extract, IntKind.max, IntKind.signed, IntKind.bits] at *; omega)
  | (exfalso; simp [bB, bH, decide_eq_false_iff_not, ByteArray.size_append, ByteArray.size_extract, IntKind.max, IntKind.signed, IntKind.bits] at *; done)
set_option maxRecDepth 100000 in
theorem ton21_ok {n : Int} (hn : 1 ≤ n ∧ n ≤ 31) : AF (tab [(187, cyTwo)]) 12 182 [.agg [.int .i64 2, .int .i64 1, .int .i64 n]] fun u => ∃ s, u = .tup [.str s, .int .i64 0] := by
 rw [ton21_vc]
 repeat' (with_reducible refine kA (fun h => ?_) (fun h => ?_))
 all_goals first
  | exact ⟨_, rfl⟩
  | (exfalso; simp [bB, bH, decide_eq_false_iff_not, ByteArray.size_append, ByteArray.size_extract, IntKind.max, IntKind.signed, IntKind.bits] at *; omega)
  | (exfalso; simp [bB, bH, decide_eq_false_iff_not, ByteArray.size_append, ByteArray.size_extract, IntKind.max, IntKind.signed, IntKind.bits] at *; done)
set_option maxRecDepth 100000 in
theorem ton22_ok {n : Int} (hn : 1 ≤ n ∧ n ≤ 31) : AF (tab [(187, cyTwo)]) 12 182 [.agg [.int .i64 2, .int .i64 2, .int .i64 n]] fun u => ∃ s, u = .tup [.str s, .int .i64 0] := by
 rw [ton22_vc]
 repeat' (with_reducible refine kA (fun h => ?_) (fun h => ?_))
 all_goals first
  | exact ⟨_, rfl⟩
  | (exfalso; simp [bB, bH, decide_eq_false_iff_not, ByteArray.size_append, ByteArray.size_extract, IntKind.max, IntKind.signed, IntKind.bits] at *; omega)
  | (exfalso; simp [bB, bH, decide_eq_false_iff_not, ByteArray.size_append, ByteArray.size_extract, IntKind.max, IntKind.signed, IntKind.bits] at *; done)
set_option maxRecDepth 100000 in
theorem ton23_ok {n : Int} (hn : 1 ≤ n ∧ n ≤ 31) : AF (tab [(187, cyTwo)]) 12 182 [.agg [.int .i64 2, .int .i64 3, .int .i64 n]] fun u => ∃ s, u = .tup [.str s, .int .i64 0] := by
 rw [ton23_vc]
 repeat' (with_reducible refine kA (fun h => ?_) (fun h => ?_))
 all_goals first
  | exact ⟨_, rfl⟩
  | (exfalso; simp [bB, bH, decide_eq_false_iff_not, ByteArray.size_append, ByteArray.size_extract, IntKind.max, IntKind.signed, IntKind.bits] at *; omega)
  | (exfalso; simp [bB, bH, decide_eq_false_iff_not, ByteArray.size_append, ByteArray.size_extract, IntKind.max, IntKind.signed, IntKind.bits] at *; done)
set_option maxRecDepth 100000 in
theorem ton24_ok {n : Int} (hn : 1 ≤ n ∧ n ≤ 31) : AF (tab [(187, cyTwo)]) 12 182 [.agg [.int .i64 2, .int .i64 4, .int .i64 n]] fun u => ∃ s, u = .tup [.str s, .int .i64 0] := by
 rw [ton24_vc]
 repeat' (with_reducible refine kA (fun h => ?_) (fun h => ?_))
 all_goals first
  | exact ⟨_, rfl⟩
  | (exfalso; simp [bB, bH, decide_eq_false_iff_not, ByteArray.size_append, ByteArray.size_extract, IntKind.max, IntKind.signed, IntKind.bits] at *; omega)
  | (exfalso; simp [bB, bH, decide_eq_false_iff_not, ByteArray.size_append, ByteArray.size_extract, IntKind.max, IntKind.signed, IntKind.bits] at *; done)
set_option maxRecDepth 100000 in
theorem ton25_ok {n : Int} (hn : 1 ≤ n ∧ n ≤ 31) : AF (tab [(187, cyTwo)]) 12 182 [.agg [.int .i64 2, .int .i64 5, .int .i64 n]] fun u => ∃ s, u = .tup [.str s, .int .i64 0] := by
 rw [ton25_vc]
 repeat' (with_reducible refine kA (fun h => ?_) (fun h => ?_))
 all_goals first
  | exact ⟨_, rfl⟩
  | (exfalso; simp [bB, bH, decide_eq_false_iff_not, ByteArray.size_append, ByteArray.size_extract, IntKind.max, IntKind.signed, IntKind.bits] at *; omega)
  | (exfalso; simp [bB, bH, decide_eq_false_iff_not, ByteArray.size_append, ByteArray.size_extract, IntKind.max, IntKind.signed, IntKind.bits] at *; done)
set_option maxRecDepth 100000 in
theorem ton26_ok {n : Int} (hn : 1 ≤ n ∧ n ≤ 31) : AF (tab [(187, cyTwo)]) 12 182 [.agg [.int .i64 2, .int .i64 6, .int .i64 n]] fun u => ∃ s, u = .tup [.str s, .int .i64 0] := by
 rw [ton26_vc]
 repeat' (with_reducible refine kA (fun h => ?_) (fun h => ?_))
 all_goals first
  | exact ⟨_, rfl⟩
  | (exfalso; simp [bB, bH, decide_eq_false_iff_not, ByteArray.size_append, ByteArray.size_extract, IntKind.max, IntKind.signed, IntKind.bits] at *; omega)
  | (exfalso; simp [bB, bH, decide_eq_false_iff_not, ByteArray.size_append, ByteArray.size_extract, IntKind.max, IntKind.signed, IntKind.bits] at *; done)
set_option maxRecDepth 100000 in
theorem ton30_ok {n : Int} (hn : 1 ≤ n ∧ n ≤ 31) : AF (tab [(187, cyTwo)]) 12 182 [.agg [.int .i64 3, .int .i64 0, .int .i64 n]] fun u => ∃ s, u = .tup [.str s, .int .i64 0] := by
 rw [ton30_vc]
 repeat' (with_reducible refine kA (fun h => ?_) (fun h => ?_))
 all_goals first
  | exact ⟨_, rfl⟩
  | (exfalso; simp [bB, bH, decide_eq_false_iff_not, ByteArray.size_append, ByteArray.size_extract, IntKind.max, IntKind.signed, IntKind.bits] at *; omega)
  | (exfalso; simp [bB, bH, decide_eq_false_iff_not, ByteArray.size_append, ByteArray.size_extract, IntKind.max, IntKind.signed, IntKind.bits] at *; done)
set_option maxRecDepth 100000 in
theorem ton31_ok {n : Int} (hn : 1 ≤ n ∧ n ≤ 31) : AF (tab [(187, cyTwo)]) 12 182 [.agg [.int .i64 3, .int .i64 1, .int .i64 n]] fun u => ∃ s, u = .tup [.str s, .int .i64 0] := by
 rw [ton31_vc]
 repeat' (with_reducible refine kA (fun h => ?_) (fun h => ?_))
 all_goals first
  | exact ⟨_, rfl⟩
  | (exfalso; simp [bB, bH, decide_eq_false_iff_not, ByteArray.size_append, ByteArray.size_extract, IntKind.max, IntKind.signed, IntKind.bits] at *; omega)
  | (exfalso; simp [bB, bH, decide_eq_false_iff_not, ByteArray.size_append, ByteArray.size_extract, IntKind.max, IntKind.signed, IntKind.bits] at *; done)
set_option maxRecDepth 100000 in
theorem ton32_ok {n : Int} (hn : 1 ≤ n ∧ n ≤ 31) : AF (tab [(187, cyTwo)]) 12 182 [.agg [.int .i64 3, .int .i64 2, .int .i64 n]] fun u => ∃ s, u = .tup [.str s, .int .i64 0] := by
 rw [ton32_vc]
 repeat' (with_reducible refine kA (fun h => ?_) (fun h => ?_))
 all_goals first
  | exact ⟨_, rfl⟩
  | (exfalso; simp [bB, bH, decide_eq_false_iff_not, ByteArray.size_append, ByteArray.size_extract, IntKind.max, IntKind.signed, IntKind.bits] at *; omega)
  | (exfalso; simp [bB, bH, decide_eq_false_iff_not, ByteArray.size_append, ByteArray.size_extract, IntKind.max, IntKind.signed, IntKind.bits] at *; done)
set_option maxRecDepth 100000 in
theorem ton33_ok {n : Int} (hn : 1 ≤ n ∧ n ≤ 31) : AF (tab [(187, cyTwo)]) 12 182 [.agg [.int .i64 3, .int .i64 3, .int .i64 n]] fun u => ∃ s, u = .tup [.str s, .int .i64 0] := by
 rw [ton33_vc]
 repeat' (with_reducible refine kA (fun h => ?_) (fun h => ?_))
 all_goals first
  | exact ⟨_, rfl⟩
  | (exfalso; simp [bB, bH, decide_eq_false_iff_not, ByteArray.size_append, ByteArray.size_extract, IntKind.max, IntKind.signed, IntKind.bits] at *; omega)
  | (exfalso; simp [bB, bH, decide_eq_false_iff_not, ByteArray.size_append, ByteArray.size_extract, IntKind.max, IntKind.signed, IntKind.bits] at *; done)
set_option maxRecDepth 100000 in
theorem ton34_ok {n : Int} (hn : 1 ≤ n ∧ n ≤ 31) : AF (tab [(187, cyTwo)]) 12 182 [.agg [.int .i64 3, .int .i64 4, .int .i64 n]] fun u => ∃ s, u = .tup [.str s, .int .i64 0] := by
 rw [ton34_vc]
 repeat' (with_reducible refine kA (fun h => ?_) (fun h => ?_))
 all_goals first
  | exact ⟨_, rfl⟩
  | (exfalso; simp [bB, bH, decide_eq_false_iff_not, ByteArray.size_append, ByteArray.size_extract, IntKind.max, IntKind.signed, IntKind.bits] at *; omega)
  | (exfalso; simp [bB, bH, decide_eq_false_iff_not, ByteArray.size_append, ByteArray.size_extract, IntKind.max, IntKind.signed, IntKind.bits] at *; done)
set_option maxRecDepth 100000 in
theorem ton35_ok {n : Int} (hn : 1 ≤ n ∧ n ≤ 31) : AF (tab [(187, cyTwo)]) 12 182 [.agg [.int .i64 3, .int .i64 5, .int .i64 n]] fun u => ∃ s, u = .tup [.str s, .int .i64 0] := by
 rw [ton35_vc]
 repeat' (with_reducible refine kA (fun h => ?_) (fun h => ?_))
 all_goals first
  | exact ⟨_, rfl⟩
  | (exfalso; simp [bB, bH, decide_eq_false_iff_not, ByteArray.size_append, ByteArray.size_extract, IntKind.max, IntKind.signed, IntKind.bits] at *; omega)
  | (exfalso; simp [bB, bH, decide_eq_false_iff_not, ByteArray.size_append, ByteArray.size_extract, IntKind.max, IntKind.signed, IntKind.bits] at *; done)
set_option maxRecDepth 100000 in
theorem ton36_ok {n : Int} (hn : 1 ≤ n ∧ n ≤ 31) : AF (tab [(187, cyTwo)]) 12 182 [.agg [.int .i64 3, .int .i64 6, .int .i64 n]] fun u => ∃ s, u = .tup [.str s, .int .i64 0] := by
 rw [ton36_vc]
 repeat' (with_reducible refine kA (fun h => ?_) (fun h => ?_))
 all_goals first
  | exact ⟨_, rfl⟩
  | (exfalso; simp [bB, bH, decide_eq_false_iff_not, ByteArray.size_append, ByteArray.size_extract, IntKind.max, IntKind.signed, IntKind.bits] at *; omega)
  | (exfalso; simp [bB, bH, decide_eq_false_iff_not, ByteArray.size_append, ByteArray.size_extract, IntKind.max, IntKind.signed, IntKind.bits] at *; done)
theorem ton_ok {k w n : Int} (h : OnOk k w n) : AF (tab [(187, cyTwo)]) 12 182 [.agg [.int .i64 k, .int .i64 w, .int .i64 n]] fun u => ∃ s, u = .tup [.str s, .int .i64 0] := by
 have seven : ∀ {w : Int}, 0 ≤ w → w ≤ 6 → w = 0 ∨ w = 1 ∨ w = 2 ∨ w = 3 ∨ w = 4 ∨ w = 5 ∨ w = 6 := by omega
 rcases h with ⟨rfl, rfl, h1, h2⟩ | ⟨rfl, h0, h1, h2⟩ | ⟨h0, h1, h2, h3, h4⟩
 · exact ton00_ok ⟨h1, h2⟩
 · rcases seven h1 h2 with rfl | rfl | rfl | rfl | rfl | rfl | rfl
   · exact ton10_ok h0
   · exact ton11_ok h0
   · exact ton12_ok h0
   · exact ton13_ok h0
   · exact ton14_ok h0
   · exact ton15_ok h0
   · exact ton16_ok h0
 · rcases h0 with rfl | rfl
   · rcases seven h1 h2 with rfl | rfl | rfl | rfl | rfl | rfl | rfl
     · exact ton20_ok ⟨h3, h4⟩
     · exact ton21_ok ⟨h3, h4⟩
     · exact ton22_ok ⟨h3, h4⟩
     · exact ton23_ok ⟨h3, h4⟩
     · exact ton24_ok ⟨h3, h4⟩
     · exact ton25_ok ⟨h3, h4⟩
     · exact ton26_ok ⟨h3, h4⟩
   · rcases seven h1 h2 with rfl | rfl | rfl | rfl | rfl | rfl | rfl
     · exact ton30_ok ⟨h3, h4⟩
     · exact ton31_ok ⟨h3, h4⟩
     · exact ton32_ok ⟨h3, h4⟩
     · exact ton33_ok ⟨h3, h4⟩
     · exact ton34_ok ⟨h3, h4⟩
     · exact ton35_ok ⟨h3, h4⟩
     · exact ton36_ok ⟨h3, h4⟩
theorem cyOn_ok : COk Tryz.prog 182 cyOn := by
 intro args p v hc hp w A hA
 unfold cyOn at hc
 split at hc
 case h_2 => cases hc
 rename_i k wd n
 simp only [Option.some.injEq, Prod.mk.injEq] at hc
 obtain ⟨_, rfl⟩ := hc
 by_cases h : OnOk k wd n
 · rw [if_pos h]
   exact af_text (kB cyTwo_ok kN) (by kernel_rfl) (ton_ok h) hA
 · rw [if_neg h]
   refine af_text (n := 6) (kB cyBad_ok kN) (by kernel_rfl) ?_ hA
   rw [texton_vc]
   exact brcT (decide_eq_true h) ⟨_, rfl⟩
set_option maxRecDepth 100000 in
theorem textat_vc (n c : Int) (K : AV → Prop) : AF (tab [(187, cyTwo)]) 6 183 [.agg [.int .i64 n, .int .u8 c]] K =
 (brc (decide (n ≥ 0)) (brc (decide (n ≤ 86400)) (brc (c == 119) (brc (decide (0 ≤ IntKind.wrap IntKind.i64 (Int.tdiv n 3600) ∧ IntKind.wrap IntKind.i64 (Int.tdiv n 3600) ≤ 99)) (brc (decide (((ByteArray.size (two (IntKind.wrap IntKind.i64 (Int.tdiv n 3600))) + ByteArray.size (ByteArray.mk #[58]) : Nat) : Int) ≤ IntKind.max IntKind.i64)) (brc (decide (0 ≤ Int.tmod (IntKind.wrap IntKind.i64 (Int.tdiv n 60)) 60 ∧ Int.tmod (IntKind.wrap IntKind.i64 (Int.tdiv n 60)) 60 ≤ 99)) (brc (decide (((ByteArray.size (two (IntKind.wrap IntKind.i64 (Int.tdiv n 3600)) ++ (ByteArray.mk #[58])) + ByteArray.size (two (Int.tmod (IntKind.wrap IntKind.i64 (Int.tdiv n 60)) 60)) : Nat) : Int) ≤ IntKind.max IntKind.i64)) (brc (decide (0 < ((ByteArray.size (two (IntKind.wrap IntKind.i64 (Int.tdiv n 3600)) ++ (ByteArray.mk #[58]) ++ two (Int.tmod (IntKind.wrap IntKind.i64 (Int.tdiv n 60)) 60)) : Nat) : Int))) (brc (((UInt8.toNat (Array.getD (ByteArray.data (two (IntKind.wrap IntKind.i64 (Int.tdiv n 3600)) ++ (ByteArray.mk #[58]) ++ two (Int.tmod (IntKind.wrap IntKind.i64 (Int.tdiv n 60)) 60))) (Int.toNat 0) 0) : Nat) : Int) == 48) (brc (decide (1 ≤ ((ByteArray.size (two (IntKind.wrap IntKind.i64 (Int.tdiv n 3600)) ++ (ByteArray.mk #[58]) ++ two (Int.tmod (IntKind.wrap IntKind.i64 (Int.tdiv n 60)) 60)) : Nat) : Int)) && decide (((ByteArray.size (two (IntKind.wrap IntKind.i64 (Int.tdiv n 3600)) ++ (ByteArray.mk #[58]) ++ two (Int.tmod (IntKind.wrap IntKind.i64 (Int.tdiv n 60)) 60)) : Nat) : Int) ≤ ((ByteArray.size (two (IntKind.wrap IntKind.i64 (Int.tdiv n 3600)) ++ (ByteArray.mk #[58]) ++ two (Int.tmod (IntKind.wrap IntKind.i64 (Int.tdiv n 60)) 60)) : Nat) : Int))) (brc (Int.tmod n 60 != 0) (brc (decide (0 ≤ Int.tmod n 60 ∧ Int.tmod n 60 ≤ 99)) (brc (decide (((ByteArray.size (ByteArray.mk #[58]) + ByteArray.size (two (Int.tmod n 60)) : Nat) : Int) ≤ IntKind.max IntKind.i64)) (brc (decide (((ByteArray.size (ByteArray.extract (two (IntKind.wrap IntKind.i64 (Int.tdiv n 3600)) ++ (ByteArray.mk #[58]) ++ two (Int.tmod (IntKind.wrap IntKind.i64 (Int.tdiv n 60)) 60)) (Int.toNat 1) (Int.toNat ((ByteArray.size (two (IntKind.wrap IntKind.i64 (Int.tdiv n 3600)) ++ (ByteArray.mk #[58]) ++ two (Int.tmod (IntKind.wrap IntKind.i64 (Int.tdiv n 60)) 60)) : Nat) : Int))) + ByteArray.size ((ByteArray.mk #[58]) ++ two (Int.tmod n 60)) : Nat) : Int) ≤ IntKind.max IntKind.i64)) (brc (c != 119) (brc (decide (((ByteArray.size (ByteArray.extract (two (IntKind.wrap IntKind.i64 (Int.tdiv n 3600)) ++ (ByteArray.mk #[58]) ++ two (Int.tmod (IntKind.wrap IntKind.i64 (Int.tdiv n 60)) 60)) (Int.toNat 1) (Int.toNat ((ByteArray.size (two (IntKind.wrap IntKind.i64 (Int.tdiv n 3600)) ++ (ByteArray.mk #[58]) ++ two (Int.tmod (IntKind.wrap IntKind.i64 (Int.tdiv n 60)) 60)) : Nat) : Int)) ++ ((ByteArray.mk #[58]) ++ two (Int.tmod n 60))) + ByteArray.size (Utf8.encode (IntKind.wrap IntKind.i32 c)) : Nat) : Int) ≤ IntKind.max IntKind.i64)) (K (AV.tup [AV.str (ByteArray.extract (two (IntKind.wrap IntKind.i64 (Int.tdiv n 3600)) ++ (ByteArray.mk #[58]) ++ two (Int.tmod (IntKind.wrap IntKind.i64 (Int.tdiv n 60)) 60)) 1 (Int.toNat ((ByteArray.size (two (IntKind.wrap IntKind.i64 (Int.tdiv n 3600)) ++ (ByteArray.mk #[58]) ++ two (Int.tmod (IntKind.wrap IntKind.i64 (Int.tdiv n 60)) 60)) : Nat) : Int)) ++ ((ByteArray.mk #[58]) ++ two (Int.tmod n 60)) ++ Utf8.encode (IntKind.wrap IntKind.i32 c)), AV.int IntKind.i64 0])) False) (K (AV.tup [AV.str (ByteArray.extract (two (IntKind.wrap IntKind.i64 (Int.tdiv n 3600)) ++ (ByteArray.mk #[58]) ++ two (Int.tmod (IntKind.wrap IntKind.i64 (Int.tdiv n 60)) 60)) 1 (Int.toNat ((ByteArray.size (two (IntKind.wrap IntKind.i64 (Int.tdiv n 3600)) ++ (ByteArray.mk #[58]) ++ two (Int.tmod (IntKind.wrap IntKind.i64 (Int.tdiv n 60)) 60)) : Nat) : Int)) ++ ((ByteArray.mk #[58]) ++ two (Int.tmod n 60))), AV.int IntKind.i64 0]))) False) False) False) (brc (c != 119) (brc (decide (((ByteArray.size (ByteArray.extract (two (IntKind.wrap IntKind.i64 (Int.tdiv n 3600)) ++ (ByteArray.mk #[58]) ++ two (Int.tmod (IntKind.wrap IntKind.i64 (Int.tdiv n 60)) 60)) (Int.toNat 1) (Int.toNat ((ByteArray.size (two (IntKind.wrap IntKind.i64 (Int.tdiv n 3600)) ++ (ByteArray.mk #[58]) ++ two (Int.tmod (IntKind.wrap IntKind.i64 (Int.tdiv n 60)) 60)) : Nat) : Int))) + ByteArray.size (Utf8.encode (IntKind.wrap IntKind.i32 c)) : Nat) : Int) ≤ IntKind.max IntKind.i64)) (K (AV.tup [AV.str (ByteArray.extract (two (IntKind.wrap IntKind.i64 (Int.tdiv n 3600)) ++ (ByteArray.mk #[58]) ++ two (Int.tmod (IntKind.wrap IntKind.i64 (Int.tdiv n 60)) 60)) 1 (Int.toNat ((ByteArray.size (two (IntKind.wrap IntKind.i64 (Int.tdiv n 3600)) ++ (ByteArray.mk #[58]) ++ two (Int.tmod (IntKind.wrap IntKind.i64 (Int.tdiv n 60)) 60)) : Nat) : Int)) ++ Utf8.encode (IntKind.wrap IntKind.i32 c)), AV.int IntKind.i64 0])) False) (K (AV.tup [AV.str (ByteArray.extract (two (IntKind.wrap IntKind.i64 (Int.tdiv n 3600)) ++ (ByteArray.mk #[58]) ++ two (Int.tmod (IntKind.wrap IntKind.i64 (Int.tdiv n 60)) 60)) 1 (Int.toNat ((ByteArray.size (two (IntKind.wrap IntKind.i64 (Int.tdiv n 3600)) ++ (ByteArray.mk #[58]) ++ two (Int.tmod (IntKind.wrap IntKind.i64 (Int.tdiv n 60)) 60)) : Nat) : Int))), AV.int IntKind.i64 0])))) False) (brc (Int.tmod n 60 != 0) (brc (decide (0 ≤ Int.tmod n 60 ∧ Int.tmod n 60 ≤ 99)) (brc (decide (((ByteArray.size (ByteArray.mk #[58]) + ByteArray.size (two (Int.tmod n 60)) : Nat) : Int) ≤ IntKind.max IntKind.i64)) (brc (decide (((ByteArray.size (two (IntKind.wrap IntKind.i64 (Int.tdiv n 3600)) ++ (ByteArray.mk #[58]) ++ two (Int.tmod (IntKind.wrap IntKind.i64 (Int.tdiv n 60)) 60)) + ByteArray.size ((ByteArray.mk #[58]) ++ two (Int.tmod n 60)) : Nat) : Int) ≤ IntKind.max IntKind.i64)) (brc (c != 119) (brc (decide (((ByteArray.size (two (IntKind.wrap IntKind.i64 (Int.tdiv n 3600)) ++ (ByteArray.mk #[58]) ++ two (Int.tmod (IntKind.wrap IntKind.i64 (Int.tdiv n 60)) 60) ++ ((ByteArray.mk #[58]) ++ two (Int.tmod n 60))) + ByteArray.size (Utf8.encode (IntKind.wrap IntKind.i32 c)) : Nat) : Int) ≤ IntKind.max IntKind.i64)) (K (AV.tup [AV.str (two (IntKind.wrap IntKind.i64 (Int.tdiv n 3600)) ++ (ByteArray.mk #[58]) ++ two (Int.tmod (IntKind.wrap IntKind.i64 (Int.tdiv n 60)) 60) ++ ((ByteArray.mk #[58]) ++ two (Int.tmod n 60)) ++ Utf8.encode (IntKind.wrap IntKind.i32 c)), AV.int IntKind.i64 0])) False) (K (AV.tup [AV.str (two (IntKind.wrap IntKind.i64 (Int.tdiv n 3600)) ++ (ByteArray.mk #[58]) ++ two (Int.tmod (IntKind.wrap IntKind.i64 (Int.tdiv n 60)) 60) ++ ((ByteArray.mk #[58]) ++ two (Int.tmod n 60))), AV.int IntKind.i64 0]))) False) False) False) (brc (c != 119) (brc (decide (((ByteArray.size (two (IntKind.wrap IntKind.i64 (Int.tdiv n 3600)) ++ (ByteArray.mk #[58]) ++ two (Int.tmod (IntKind.wrap IntKind.i64 (Int.tdiv n 60)) 60)) + ByteArray.size (Utf8.encode (IntKind.wrap IntKind.i32 c)) : Nat) : Int) ≤ IntKind.max IntKind.i64)) (K (AV.tup [AV.str (two (IntKind.wrap IntKind.i64 (Int.tdiv n 3600)) ++ (ByteArray.mk #[58]) ++ two (Int.tmod (IntKind.wrap IntKind.i64 (Int.tdiv n 60)) 60) ++ Utf8.encode (IntKind.wrap IntKind.i32 c)), AV.int IntKind.i64 0])) False) (K (AV.tup [AV.str (two (IntKind.wrap IntKind.i64 (Int.tdiv n 3600)) ++ (ByteArray.mk #[58]) ++ two (Int.tmod (IntKind.wrap IntKind.i64 (Int.tdiv n 60)) 60)), AV.int IntKind.i64 0]))))) False) False) False) False) False) (brc (c == 115) (brc (decide (0 ≤ IntKind.wrap IntKind.i64 (Int.tdiv n 3600) ∧ IntKind.wrap IntKind.i64 (Int.tdiv n 3600) ≤ 99)) (brc (decide (((ByteArray.size (two (IntKind.wrap IntKind.i64 (Int.tdiv n 3600))) + ByteArray.size (ByteArray.mk #[58]) : Nat) : Int) ≤ IntKind.max IntKind.i64)) (brc (decide (0 ≤ Int.tmod (IntKind.wrap IntKind.i64 (Int.tdiv n 60)) 60 ∧ Int.tmod (IntKind.wrap IntKind.i64 (Int.tdiv n 60)) 60 ≤ 99)) (brc (decide (((ByteArray.size (two (IntKind.wrap IntKind.i64 (Int.tdiv n 3600)) ++ (ByteArray.mk #[58])) + ByteArray.size (two (Int.tmod (IntKind.wrap IntKind.i64 (Int.tdiv n 60)) 60)) : Nat) : Int) ≤ IntKind.max IntKind.i64)) (brc (decide (0 < ((ByteArray.size (two (IntKind.wrap IntKind.i64 (Int.tdiv n 3600)) ++ (ByteArray.mk #[58]) ++ two (Int.tmod (IntKind.wrap IntKind.i64 (Int.tdiv n 60)) 60)) : Nat) : Int))) (brc (((UInt8.toNat (Array.getD (ByteArray.data (two (IntKind.wrap IntKind.i64 (Int.tdiv n 3600)) ++ (ByteArray.mk #[58]) ++ two (Int.tmod (IntKind.wrap IntKind.i64 (Int.tdiv n 60)) 60))) (Int.toNat 0) 0) : Nat) : Int) == 48) (brc (decide (1 ≤ ((ByteArray.size (two (IntKind.wrap IntKind.i64 (Int.tdiv n 3600)) ++ (ByteArray.mk #[58]) ++ two (Int.tmod (IntKind.wrap IntKind.i64 (Int.tdiv n 60)) 60)) : Nat) : Int)) && decide (((ByteArray.size (two (IntKind.wrap IntKind.i64 (Int.tdiv n 3600)) ++ (ByteArray.mk #[58]) ++ two (Int.tmod (IntKind.wrap IntKind.i64 (Int.tdiv n 60)) 60)) : Nat) : Int) ≤ ((ByteArray.size (two (IntKind.wrap IntKind.i64 (Int.tdiv n 3600)) ++ (ByteArray.mk #[58]) ++ two (Int.tmod (IntKind.wrap IntKind.i64 (Int.tdiv n 60)) 60)) : Nat) : Int))) (brc (Int.tmod n 60 != 0) (brc (decide (0 ≤ Int.tmod n 60 ∧ Int.tmod n 60 ≤ 99)) (brc (decide (((ByteArray.size (ByteArray.mk #[58]) + ByteArray.size (two (Int.tmod n 60)) : Nat) : Int) ≤ IntKind.max IntKind.i64)) (brc (decide (((ByteArray.size (ByteArray.extract (two (IntKind.wrap IntKind.i64 (Int.tdiv n 3600)) ++ (ByteArray.mk #[58]) ++ two (Int.tmod (IntKind.wrap IntKind.i64 (Int.tdiv n 60)) 60)) (Int.toNat 1) (Int.toNat ((ByteArray.size (two (IntKind.wrap IntKind.i64 (Int.tdiv n 3600)) ++ (ByteArray.mk #[58]) ++ two (Int.tmod (IntKind.wrap IntKind.i64 (Int.tdiv n 60)) 60)) : Nat) : Int))) + ByteArray.size ((ByteArray.mk #[58]) ++ two (Int.tmod n 60)) : Nat) : Int) ≤ IntKind.max IntKind.i64)) (brc (c != 119) (brc (decide (((ByteArray.size (ByteArray.extract (two (IntKind.wrap IntKind.i64 (Int.tdiv n 3600)) ++ (ByteArray.mk #[58]) ++ two (Int.tmod (IntKind.wrap IntKind.i64 (Int.tdiv n 60)) 60)) (Int.toNat 1) (Int.toNat ((ByteArray.size (two (IntKind.wrap IntKind.i64 (Int.tdiv n 3600)) ++ (ByteArray.mk #[58]) ++ two (Int.tmod (IntKind.wrap IntKind.i64 (Int.tdiv n 60)) 60)) : Nat) : Int)) ++ ((ByteArray.mk #[58]) ++ two (Int.tmod n 60))) + ByteArray.size (Utf8.encode (IntKind.wrap IntKind.i32 c)) : Nat) : Int) ≤ IntKind.max IntKind.i64)) (K (AV.tup [AV.str (ByteArray.extract (two (IntKind.wrap IntKind.i64 (Int.tdiv n 3600)) ++ (ByteArray.mk #[58]) ++ two (Int.tmod (IntKind.wrap IntKind.i64 (Int.tdiv n 60)) 60)) 1 (Int.toNat ((ByteArray.size (two (IntKind.wrap IntKind.i64 (Int.tdiv n 3600)) ++ (ByteArray.mk #[58]) ++ two (Int.tmod (IntKind.wrap IntKind.i64 (Int.tdiv n 60)) 60)) : Nat) : Int)) ++ ((ByteArray.mk #[58]) ++ two (Int.tmod n 60)) ++ Utf8.encode (IntKind.wrap IntKind.i32 c)), AV.int IntKind.i64 0])) False) (K (AV.tup [AV.str (ByteArray.extract (two (IntKind.wrap IntKind.i64 (Int.tdiv n 3600)) ++ (ByteArray.mk #[58]) ++ two (Int.tmod (IntKind.wrap IntKind.i64 (Int.tdiv n 60)) 60)) 1 (Int.toNat ((ByteArray.size (two (IntKind.wrap IntKind.i64 (Int.tdiv n 3600)) ++ (ByteArray.mk #[58]) ++ two (Int.tmod (IntKind.wrap IntKind.i64 (Int.tdiv n 60)) 60)) : Nat) : Int)) ++ ((ByteArray.mk #[58]) ++ two (Int.tmod n 60))), AV.int IntKind.i64 0]))) False) False) False) (brc (c != 119) (brc (decide (((ByteArray.size (ByteArray.extract (two (IntKind.wrap IntKind.i64 (Int.tdiv n 3600)) ++ (ByteArray.mk #[58]) ++ two (Int.tmod (IntKind.wrap IntKind.i64 (Int.tdiv n 60)) 60)) (Int.toNat 1) (Int.toNat ((ByteArray.size (two (IntKind.wrap IntKind.i64 (Int.tdiv n 3600)) ++ (ByteArray.mk #[58]) ++ two (Int.tmod (IntKind.wrap IntKind.i64 (Int.tdiv n 60)) 60)) : Nat) : Int))) + ByteArray.size (Utf8.encode (IntKind.wrap IntKind.i32 c)) : Nat) : Int) ≤ IntKind.max IntKind.i64)) (K (AV.tup [AV.str (ByteArray.extract (two (IntKind.wrap IntKind.i64 (Int.tdiv n 3600)) ++ (ByteArray.mk #[58]) ++ two (Int.tmod (IntKind.wrap IntKind.i64 (Int.tdiv n 60)) 60)) 1 (Int.toNat ((ByteArray.size (two (IntKind.wrap IntKind.i64 (Int.tdiv n 3600)) ++ (ByteArray.mk #[58]) ++ two (Int.tmod (IntKind.wrap IntKind.i64 (Int.tdiv n 60)) 60)) : Nat) : Int)) ++ Utf8.encode (IntKind.wrap IntKind.i32 c)), AV.int IntKind.i64 0])) False) (K (AV.tup [AV.str (ByteArray.extract (two (IntKind.wrap IntKind.i64 (Int.tdiv n 3600)) ++ (ByteArray.mk #[58]) ++ two (Int.tmod (IntKind.wrap IntKind.i64 (Int.tdiv n 60)) 60)) 1 (Int.toNat ((ByteArray.size (two (IntKind.wrap IntKind.i64 (Int.tdiv n 3600)) ++ (ByteArray.mk #[58]) ++ two (Int.tmod (IntKind.wrap IntKind.i64 (Int.tdiv n 60)) 60)) : Nat) : Int))), AV.int IntKind.i64 0])))) False) (brc (Int.tmod n 60 != 0) (brc (decide (0 ≤ Int.tmod n 60 ∧ Int.tmod n 60 ≤ 99)) (brc (decide (((ByteArray.size (ByteArray.mk #[58]) + ByteArray.size (two (Int.tmod n 60)) : Nat) : Int) ≤ IntKind.max IntKind.i64)) (brc (decide (((ByteArray.size (two (IntKind.wrap IntKind.i64 (Int.tdiv n 3600)) ++ (ByteArray.mk #[58]) ++ two (Int.tmod (IntKind.wrap IntKind.i64 (Int.tdiv n 60)) 60)) + ByteArray.size ((ByteArray.mk #[58]) ++ two (Int.tmod n 60)) : Nat) : Int) ≤ IntKind.max IntKind.i64)) (brc (c != 119) (brc (decide (((ByteArray.size (two (IntKind.wrap IntKind.i64 (Int.tdiv n 3600)) ++ (ByteArray.mk #[58]) ++ two (Int.tmod (IntKind.wrap IntKind.i64 (Int.tdiv n 60)) 60) ++ ((ByteArray.mk #[58]) ++ two (Int.tmod n 60))) + ByteArray.size (Utf8.encode (IntKind.wrap IntKind.i32 c)) : Nat) : Int) ≤ IntKind.max IntKind.i64)) (K (AV.tup [AV.str (two (IntKind.wrap IntKind.i64 (Int.tdiv n 3600)) ++ (ByteArray.mk #[58]) ++ two (Int.tmod (IntKind.wrap IntKind.i64 (Int.tdiv n 60)) 60) ++ ((ByteArray.mk #[58]) ++ two (Int.tmod n 60)) ++ Utf8.encode (IntKind.wrap IntKind.i32 c)), AV.int IntKind.i64 0])) False) (K (AV.tup [AV.str (two (IntKind.wrap IntKind.i64 (Int.tdiv n 3600)) ++ (ByteArray.mk #[58]) ++ two (Int.tmod (IntKind.wrap IntKind.i64 (Int.tdiv n 60)) 60) ++ ((ByteArray.mk #[58]) ++ two (Int.tmod n 60))), AV.int IntKind.i64 0]))) False) False) False) (brc (c != 119) (brc (decide (((ByteArray.size (two (IntKind.wrap IntKind.i64 (Int.tdiv n 3600)) ++ (ByteArray.mk #[58]) ++ two (Int.tmod (IntKind.wrap IntKind.i64 (Int.tdiv n 60)) 60)) + ByteArray.size (Utf8.encode (IntKind.wrap IntKind.i32 c)) : Nat) : Int) ≤ IntKind.max IntKind.i64)) (K (AV.tup [AV.str (two (IntKind.wrap IntKind.i64 (Int.tdiv n 3600)) ++ (ByteArray.mk #[58]) ++ two (Int.tmod (IntKind.wrap IntKind.i64 (Int.tdiv n 60)) 60) ++ Utf8.encode (IntKind.wrap IntKind.i32 c)), AV.int IntKind.i64 0])) False) (K (AV.tup [AV.str (two (IntKind.wrap IntKind.i64 (Int.tdiv n 3600)) ++ (ByteArray.mk #[58]) ++ two (Int.tmod (IntKind.wrap IntKind.i64 (Int.tdiv n 60)) 60)), AV.int IntKind.i64 0]))))) False) False) False) False) False) (brc (!c == 117) (K (AV.tup [AV.str (ByteArray.mk #[]), AV.int IntKind.i64 1])) (brc (decide (0 ≤ IntKind.wrap IntKind.i64 (Int.tdiv n 3600) ∧ IntKind.wrap IntKind.i64 (Int.tdiv n 3600) ≤ 99)) (brc (decide (((ByteArray.size (two (IntKind.wrap IntKind.i64 (Int.tdiv n 3600))) + ByteArray.size (ByteArray.mk #[58]) : Nat) : Int) ≤ IntKind.max IntKind.i64)) (brc (decide (0 ≤ Int.tmod (IntKind.wrap IntKind.i64 (Int.tdiv n 60)) 60 ∧ Int.tmod (IntKind.wrap IntKind.i64 (Int.tdiv n 60)) 60 ≤ 99)) (brc (decide (((ByteArray.size (two (IntKind.wrap IntKind.i64 (Int.tdiv n 3600)) ++ (ByteArray.mk #[58])) + ByteArray.size (two (Int.tmod (IntKind.wrap IntKind.i64 (Int.tdiv n 60)) 60)) : Nat) : Int) ≤ IntKind.max IntKind.i64)) (brc (decide (0 < ((ByteArray.size (two (IntKind.wrap IntKind.i64 (Int.tdiv n 3600)) ++ (ByteArray.mk #[58]) ++ two (Int.tmod (IntKind.wrap IntKind.i64 (Int.tdiv n 60)) 60)) : Nat) : Int))) (brc (((UInt8.toNat (Array.getD (ByteArray.data (two (IntKind.wrap IntKind.i64 (Int.tdiv n 3600)) ++ (ByteArray.mk #[58]) ++ two (Int.tmod (IntKind.wrap IntKind.i64 (Int.tdiv n 60)) 60))) (Int.toNat 0) 0) : Nat) : Int) == 48) (brc (decide (1 ≤ ((ByteArray.size (two (IntKind.wrap IntKind.i64 (Int.tdiv n 3600)) ++ (ByteArray.mk #[58]) ++ two (Int.tmod (IntKind.wrap IntKind.i64 (Int.tdiv n 60)) 60)) : Nat) : Int)) && decide (((ByteArray.size (two (IntKind.wrap IntKind.i64 (Int.tdiv n 3600)) ++ (ByteArray.mk #[58]) ++ two (Int.tmod (IntKind.wrap IntKind.i64 (Int.tdiv n 60)) 60)) : Nat) : Int) ≤ ((ByteArray.size (two (IntKind.wrap IntKind.i64 (Int.tdiv n 3600)) ++ (ByteArray.mk #[58]) ++ two (Int.tmod (IntKind.wrap IntKind.i64 (Int.tdiv n 60)) 60)) : Nat) : Int))) (brc (Int.tmod n 60 != 0) (brc (decide (0 ≤ Int.tmod n 60 ∧ Int.tmod n 60 ≤ 99)) (brc (decide (((ByteArray.size (ByteArray.mk #[58]) + ByteArray.size (two (Int.tmod n 60)) : Nat) : Int) ≤ IntKind.max IntKind.i64)) (brc (decide (((ByteArray.size (ByteArray.extract (two (IntKind.wrap IntKind.i64 (Int.tdiv n 3600)) ++ (ByteArray.mk #[58]) ++ two (Int.tmod (IntKind.wrap IntKind.i64 (Int.tdiv n 60)) 60)) (Int.toNat 1) (Int.toNat ((ByteArray.size (two (IntKind.wrap IntKind.i64 (Int.tdiv n 3600)) ++ (ByteArray.mk #[58]) ++ two (Int.tmod (IntKind.wrap IntKind.i64 (Int.tdiv n 60)) 60)) : Nat) : Int))) + ByteArray.size ((ByteArray.mk #[58]) ++ two (Int.tmod n 60)) : Nat) : Int) ≤ IntKind.max IntKind.i64)) (brc (c != 119) (brc (decide (((ByteArray.size (ByteArray.extract (two (IntKind.wrap IntKind.i64 (Int.tdiv n 3600)) ++ (ByteArray.mk #[58]) ++ two (Int.tmod (IntKind.wrap IntKind.i64 (Int.tdiv n 60)) 60)) (Int.toNat 1) (Int.toNat ((ByteArray.size (two (IntKind.wrap IntKind.i64 (Int.tdiv n 3600)) ++ (ByteArray.mk #[58]) ++ two (Int.tmod (IntKind.wrap IntKind.i64 (Int.tdiv n 60)) 60)) : Nat) : Int)) ++ ((ByteArray.mk #[58]) ++ two (Int.tmod n 60))) + ByteArray.size (Utf8.encode (IntKind.wrap IntKind.i32 c)) : Nat) : Int) ≤ IntKind.max IntKind.i64)) (K (AV.tup [AV.str (ByteArray.extract (two (IntKind.wrap IntKind.i64 (Int.tdiv n 3600)) ++ (ByteArray.mk #[58]) ++ two (Int.tmod (IntKind.wrap IntKind.i64 (Int.tdiv n 60)) 60)) 1 (Int.toNat ((ByteArray.size (two (IntKind.wrap IntKind.i64 (Int.tdiv n 3600)) ++ (ByteArray.mk #[58]) ++ two (Int.tmod (IntKind.wrap IntKind.i64 (Int.tdiv n 60)) 60)) : Nat) : Int)) ++ ((ByteArray.mk #[58]) ++ two (Int.tmod n 60)) ++ Utf8.encode (IntKind.wrap IntKind.i32 c)), AV.int IntKind.i64 0])) False) (K (AV.tup [AV.str (ByteArray.extract (two (IntKind.wrap IntKind.i64 (Int.tdiv n 3600)) ++ (ByteArray.mk #[58]) ++ two (Int.tmod (IntKind.wrap IntKind.i64 (Int.tdiv n 60)) 60)) 1 (Int.toNat ((ByteArray.size (two (IntKind.wrap IntKind.i64 (Int.tdiv n 3600)) ++ (ByteArray.mk #[58]) ++ two (Int.tmod (IntKind.wrap IntKind.i64 (Int.tdiv n 60)) 60)) : Nat) : Int)) ++ ((ByteArray.mk #[58]) ++ two (Int.tmod n 60))), AV.int IntKind.i64 0]))) False) False) False) (brc (c != 119) (brc (decide (((ByteArray.size (ByteArray.extract (two (IntKind.wrap IntKind.i64 (Int.tdiv n 3600)) ++ (ByteArray.mk #[58]) ++ two (Int.tmod (IntKind.wrap IntKind.i64 (Int.tdiv n 60)) 60)) (Int.toNat 1) (Int.toNat ((ByteArray.size (two (IntKind.wrap IntKind.i64 (Int.tdiv n 3600)) ++ (ByteArray.mk #[58]) ++ two (Int.tmod (IntKind.wrap IntKind.i64 (Int.tdiv n 60)) 60)) : Nat) : Int))) + ByteArray.size (Utf8.encode (IntKind.wrap IntKind.i32 c)) : Nat) : Int) ≤ IntKind.max IntKind.i64)) (K (AV.tup [AV.str (ByteArray.extract (two (IntKind.wrap IntKind.i64 (Int.tdiv n 3600)) ++ (ByteArray.mk #[58]) ++ two (Int.tmod (IntKind.wrap IntKind.i64 (Int.tdiv n 60)) 60)) 1 (Int.toNat ((ByteArray.size (two (IntKind.wrap IntKind.i64 (Int.tdiv n 3600)) ++ (ByteArray.mk #[58]) ++ two (Int.tmod (IntKind.wrap IntKind.i64 (Int.tdiv n 60)) 60)) : Nat) : Int)) ++ Utf8.encode (IntKind.wrap IntKind.i32 c)), AV.int IntKind.i64 0])) False) (K (AV.tup [AV.str (ByteArray.extract (two (IntKind.wrap IntKind.i64 (Int.tdiv n 3600)) ++ (ByteArray.mk #[58]) ++ two (Int.tmod (IntKind.wrap IntKind.i64 (Int.tdiv n 60)) 60)) 1 (Int.toNat ((ByteArray.size (two (IntKind.wrap IntKind.i64 (Int.tdiv n 3600)) ++ (ByteArray.mk #[58]) ++ two (Int.tmod (IntKind.wrap IntKind.i64 (Int.tdiv n 60)) 60)) : Nat) : Int))), AV.int IntKind.i64 0])))) False) (brc (Int.tmod n 60 != 0) (brc (decide (0 ≤ Int.tmod n 60 ∧ Int.tmod n 60 ≤ 99)) (brc (decide (((ByteArray.size (ByteArray.mk #[58]) + ByteArray.size (two (Int.tmod n 60)) : Nat) : Int) ≤ IntKind.max IntKind.i64)) (brc (decide (((ByteArray.size (two (IntKind.wrap IntKind.i64 (Int.tdiv n 3600)) ++ (ByteArray.mk #[58]) ++ two (Int.tmod (IntKind.wrap IntKind.i64 (Int.tdiv n 60)) 60)) + ByteArray.size ((ByteArray.mk #[58]) ++ two (Int.tmod n 60)) : Nat) : Int) ≤ IntKind.max IntKind.i64)) (brc (c != 119) (brc (decide (((ByteArray.size (two (IntKind.wrap IntKind.i64 (Int.tdiv n 3600)) ++ (ByteArray.mk #[58]) ++ two (Int.tmod (IntKind.wrap IntKind.i64 (Int.tdiv n 60)) 60) ++ ((ByteArray.mk #[58]) ++ two (Int.tmod n 60))) + ByteArray.size (Utf8.encode (IntKind.wrap IntKind.i32 c)) : Nat) : Int) ≤ IntKind.max IntKind.i64)) (K (AV.tup [AV.str (two (IntKind.wrap IntKind.i64 (Int.tdiv n 3600)) ++ (ByteArray.mk #[58]) ++ two (Int.tmod (IntKind.wrap IntKind.i64 (Int.tdiv n 60)) 60) ++ ((ByteArray.mk #[58]) ++ two (Int.tmod n 60)) ++ Utf8.encode (IntKind.wrap IntKind.i32 c)), AV.int IntKind.i64 0])) False) (K (AV.tup [AV.str (two (IntKind.wrap IntKind.i64 (Int.tdiv n 3600)) ++ (ByteArray.mk #[58]) ++ two (Int.tmod (IntKind.wrap IntKind.i64 (Int.tdiv n 60)) 60) ++ ((ByteArray.mk #[58]) ++ two (Int.tmod n 60))), AV.int IntKind.i64 0]))) False) False) False) (brc (c != 119) (brc (decide (((ByteArray.size (two (IntKind.wrap IntKind.i64 (Int.tdiv n 3600)) ++ (ByteArray.mk #[58]) ++ two (Int.tmod (IntKind.wrap IntKind.i64 (Int.tdiv n 60)) 60)) + ByteArray.size (Utf8.encode (IntKind.wrap IntKind.i32 c)) : Nat) : Int) ≤ IntKind.max IntKind.i64)) (K (AV.tup [AV.str (two (IntKind.wrap IntKind.i64 (Int.tdiv n 3600)) ++ (ByteArray.mk #[58]) ++ two (Int.tmod (IntKind.wrap IntKind.i64 (Int.tdiv n 60)) 60) ++ Utf8.encode (IntKind.wrap IntKind.i32 c)), AV.int IntKind.i64 0])) False) (K (AV.tup [AV.str (two (IntKind.wrap IntKind.i64 (Int.tdiv n 3600)) ++ (ByteArray.mk #[58]) ++ two (Int.tmod (IntKind.wrap IntKind.i64 (Int.tdiv n 60)) 60)), AV.int IntKind.i64 0]))))) False) False) False) False) False)))) (K (AV.tup [AV.str (ByteArray.mk #[]), AV.int IntKind.i64 1]))) (K (AV.tup [AV.str (ByteArray.mk #[]), AV.int IntKind.i64 1]))) := by kernel_rfl
set_option maxRecDepth 100000 in
theorem tat_no {n c : Int} (hb : ¬ AtOk n c) : AF (tab [(187, cyTwo)]) 6 183 [.agg [.int .i64 n, .int .u8 c]] fun u => ∃ s, u = .tup [.str s, .int .i64 1] := by
 rw [textat_vc]
 repeat' (with_reducible refine kA (fun h => ?_) (fun h => ?_))
 all_goals first
  | exact ⟨_, rfl⟩
  | (exfalso; refine hb ?_; clear hb; unfold AtOk; simp only [decide_eq_true_eq, decide_eq_false_iff_not, Bool.not_eq_true', Bool.not_eq_false', beq_iff_eq, beq_eq_false_iff_ne, bne_iff_ne, ne_eq, Bool.and_eq_true, Bool.and_eq_false_iff, Bool.true_and] at *; omega)
set_option maxRecDepth 100000 in
theorem tat_yes {n c : Int} (h : AtOk n c) : AF (tab [(187, cyTwo)]) 6 183 [.agg [.int .i64 n, .int .u8 c]] fun u => ∃ s, u = .tup [.str s, .int .i64 0] := by
 rw [textat_vc]
 have e1 : Int.tdiv n 3600 = n / 3600 := td_pos h.1
 have e2 : Int.tdiv n 60 = n / 60 := td_pos h.1
 have e3 : Int.tmod n 60 = n % 60 := tm_pos h.1
 have e4 : Int.tmod (n / 60) 60 = n / 60 % 60 := tm_pos (by have := h.1; omega)
 obtain ⟨h1, h2, h3⟩ := h
 rw [e1, e2, e3, wv (x := n / 3600) (by omega) (by omega), wv (x := n / 60) (by omega) (by omega), e4]
 clear e1 e2 e3 e4
 have u1 : (Utf8.encode (IntKind.wrap .i32 115)).size = 1 := by decide
 have u2 : (Utf8.encode (IntKind.wrap .i32 117)).size = 1 := by decide
 rcases h3 with rfl | rfl | rfl
 all_goals
  repeat' (with_reducible refine kA (fun h => ?_) (fun h => ?_))
  all_goals first
   | exact ⟨_, rfl⟩
   | (exfalso; simp [bB, bH, u1, u2, decide_eq_false_iff_not, ByteArray.size_append, ByteArray.size_extract, IntKind.max, IntKind.signed, IntKind.bits] at *; omega)
   | (exfalso; simp [bB, bH, u1, u2, decide_eq_false_iff_not, ByteArray.size_append, ByteArray.size_extract, IntKind.max, IntKind.signed, IntKind.bits] at *; done)
theorem cyAt_ok : COk Tryz.prog 183 cyAt := by
 intro args p v hc hp w A hA
 unfold cyAt at hc
 split at hc
 case h_2 => cases hc
 rename_i n c
 simp only [Option.some.injEq, Prod.mk.injEq] at hc
 obtain ⟨_, rfl⟩ := hc
 by_cases h : AtOk n c
 · rw [if_pos h]
   exact af_text (kB cyTwo_ok kN) (by kernel_rfl) (tat_yes h) hA
 · rw [if_neg h]
   exact af_text (kB cyTwo_ok kN) (by kernel_rfl) (tat_no h) hA
end
section
open A
theorem bool_eq {a b : Bool} (h : a = true ↔ b = true) : AV.bool a = AV.bool b := by congr 1; cases a <;> cases b <;> simp_all
theorem dec_eq {P Q : Prop} [Decidable P] [Decidable Q] (h : P → Q) (k : Q → P) : AV.bool (decide P) = AV.bool (decide Q) := by congr 1; exact decide_eq_decide.2 ⟨h, k⟩
theorem bool_no {P : Prop} [Decidable P] (h : ¬ P) : AV.bool false = AV.bool (decide P) := by rw [decide_eq_false h]
set_option maxRecDepth 100000 in
theorem right_vc (h : Hf) (K : AV → Prop) : AF (tab [(182, cyOn), (183, cyAt)]) 6 174 [.agg (avH h)] K =
 (∀ (m0 : Int), (m0 = if OnOk (Hf.k h) (Hf.w h) (Hf.n h) then 0 else 1) → ∀ (m1 : Int), (m1 = if AtOk (Hf.s h) (Hf.c h) then 0 else 1) → brc (decide (Hf.m h ≥ 1)) (brc (decide (Hf.m h ≤ 12)) (brc (m0 == 0) (brc (m1 == 0) (brc (decide (Hf.v h ≥ 0)) (K (AV.bool (decide (Hf.v h ≤ 7200)))) (K (AV.bool false))) (K (AV.bool false))) (K (AV.bool false))) (K (AV.bool false))) (K (AV.bool false))) := by kernel_rfl
set_option maxRecDepth 100000 in
theorem cyRight_ok : COk Tryz.prog 174 cyRight := af_con (kB cyOn_ok (kB cyAt_ok kN)) (by kernel_rfl) fun args p v hc hp => by
 unfold cyRight at hc
 split at hc
 case h_2 => cases hc
 split at hc
 case h_2 => cases hc
 rename_i l h hl
 simp only [Option.some.injEq, Prod.mk.injEq] at hc
 obtain ⟨_, rfl⟩ := hc
 rw [rdH_ok hl]
 refine ⟨rfl, 6, ?_⟩
 rw [right_vc]
 rintro _ rfl _ rfl
 unfold HfOk
 by_cases h1 : OnOk h.k h.w h.n <;> by_cases h2 : AtOk h.s h.c <;> simp only [h1, h2, if_true, if_false, beq_self_eq_true, brc_tt, brc_ff, show ((1 : Int) == 0) = false from rfl, true_and, and_true, false_and, and_false]
 all_goals
  repeat' (with_reducible refine kA (fun h => ?_) (fun h => ?_))
  all_goals first
   | (refine bool_eq ?_; simp only [decide_eq_true_eq, decide_eq_false_iff_not, Bool.not_eq_true', Bool.not_eq_false', beq_iff_eq, beq_eq_false_iff_ne, bne_iff_ne, bne_eq_false_iff_eq, ne_eq, Bool.and_eq_true, Bool.and_eq_false_iff, Bool.true_and] at *; omega)
   | (refine bool_no ?_; simp only [decide_eq_true_eq, decide_eq_false_iff_not, Bool.not_eq_true', Bool.not_eq_false', beq_iff_eq, beq_eq_false_iff_ne, bne_iff_ne, bne_eq_false_iff_eq, ne_eq, Bool.and_eq_true, Bool.and_eq_false_iff, Bool.true_and] at *; omega)
   | rfl
set_option maxRecDepth 100000 in
theorem rright_vc (h : Hf) (K : AV → Prop) : AF (tab []) 6 168 [.agg (avH h)] K =
 (brc (decide (Hf.m h ≥ 1)) (brc (decide (Hf.m h ≤ 12)) (brc (decide (Hf.w h ≥ 0)) (brc (decide (Hf.n h ≥ 1)) (brc (Hf.k h == 0) (brc (decide (Hf.n h ≤ 31)) (brc (Hf.w h == 0) (brc (decide (Hf.s h ≥ 0)) (brc (decide (Hf.s h ≤ 86400)) (brc (Hf.c h == 119) (brc (decide (Hf.v h ≥ 0)) (K (AV.bool (decide (Hf.v h ≤ 7200)))) (K (AV.bool false))) (brc (Hf.c h == 115) (brc (decide (Hf.v h ≥ 0)) (K (AV.bool (decide (Hf.v h ≤ 7200)))) (K (AV.bool false))) (brc (Hf.c h == 117) (brc (decide (Hf.v h ≥ 0)) (K (AV.bool (decide (Hf.v h ≤ 7200)))) (K (AV.bool false))) (K (AV.bool false))))) (K (AV.bool false))) (K (AV.bool false))) (K (AV.bool false))) (K (AV.bool false))) (brc (Hf.k h == 1) (brc (decide (Hf.w h ≤ 6)) (brc (Hf.n h == 0) (brc (decide (Hf.s h ≥ 0)) (brc (decide (Hf.s h ≤ 86400)) (brc (Hf.c h == 119) (brc (decide (Hf.v h ≥ 0)) (K (AV.bool (decide (Hf.v h ≤ 7200)))) (K (AV.bool false))) (brc (Hf.c h == 115) (brc (decide (Hf.v h ≥ 0)) (K (AV.bool (decide (Hf.v h ≤ 7200)))) (K (AV.bool false))) (brc (Hf.c h == 117) (brc (decide (Hf.v h ≥ 0)) (K (AV.bool (decide (Hf.v h ≤ 7200)))) (K (AV.bool false))) (K (AV.bool false))))) (K (AV.bool false))) (K (AV.bool false))) (K (AV.bool false))) (K (AV.bool false))) (brc (Hf.k h == 2) (brc (decide (Hf.w h ≤ 6)) (brc (decide (Hf.n h ≤ 31)) (brc (decide (Hf.s h ≥ 0)) (brc (decide (Hf.s h ≤ 86400)) (brc (Hf.c h == 119) (brc (decide (Hf.v h ≥ 0)) (K (AV.bool (decide (Hf.v h ≤ 7200)))) (K (AV.bool false))) (brc (Hf.c h == 115) (brc (decide (Hf.v h ≥ 0)) (K (AV.bool (decide (Hf.v h ≤ 7200)))) (K (AV.bool false))) (brc (Hf.c h == 117) (brc (decide (Hf.v h ≥ 0)) (K (AV.bool (decide (Hf.v h ≤ 7200)))) (K (AV.bool false))) (K (AV.bool false))))) (K (AV.bool false))) (K (AV.bool false))) (K (AV.bool false))) (K (AV.bool false))) (brc (Hf.k h == 3) (brc (decide (Hf.w h ≤ 6)) (brc (decide (Hf.n h ≤ 31)) (brc (decide (Hf.s h ≥ 0)) (brc (decide (Hf.s h ≤ 86400)) (brc (Hf.c h == 119) (brc (decide (Hf.v h ≥ 0)) (K (AV.bool (decide (Hf.v h ≤ 7200)))) (K (AV.bool false))) (brc (Hf.c h == 115) (brc (decide (Hf.v h ≥ 0)) (K (AV.bool (decide (Hf.v h ≤ 7200)))) (K (AV.bool false))) (brc (Hf.c h == 117) (brc (decide (Hf.v h ≥ 0)) (K (AV.bool (decide (Hf.v h ≤ 7200)))) (K (AV.bool false))) (K (AV.bool false))))) (K (AV.bool false))) (K (AV.bool false))) (K (AV.bool false))) (K (AV.bool false))) (K (AV.bool false)))))) (brc (Hf.k h == 0) (K (AV.bool false)) (brc (Hf.k h == 1) (brc (decide (Hf.w h ≤ 6)) (brc (Hf.n h == 0) (brc (decide (Hf.s h ≥ 0)) (brc (decide (Hf.s h ≤ 86400)) (brc (Hf.c h == 119) (brc (decide (Hf.v h ≥ 0)) (K (AV.bool (decide (Hf.v h ≤ 7200)))) (K (AV.bool false))) (brc (Hf.c h == 115) (brc (decide (Hf.v h ≥ 0)) (K (AV.bool (decide (Hf.v h ≤ 7200)))) (K (AV.bool false))) (brc (Hf.c h == 117) (brc (decide (Hf.v h ≥ 0)) (K (AV.bool (decide (Hf.v h ≤ 7200)))) (K (AV.bool false))) (K (AV.bool false))))) (K (AV.bool false))) (K (AV.bool false))) (K (AV.bool false))) (K (AV.bool false))) (brc (Hf.k h == 2) (brc (decide (Hf.w h ≤ 6)) (K (AV.bool false)) (K (AV.bool false))) (brc (Hf.k h == 3) (brc (decide (Hf.w h ≤ 6)) (K (AV.bool false)) (K (AV.bool false))) (K (AV.bool false))))))) (brc (decide (Hf.n h ≥ 1)) (brc (Hf.k h == 0) (brc (decide (Hf.n h ≤ 31)) (brc (Hf.w h == 0) (brc (decide (Hf.s h ≥ 0)) (brc (decide (Hf.s h ≤ 86400)) (brc (Hf.c h == 119) (brc (decide (Hf.v h ≥ 0)) (K (AV.bool (decide (Hf.v h ≤ 7200)))) (K (AV.bool false))) (brc (Hf.c h == 115) (brc (decide (Hf.v h ≥ 0)) (K (AV.bool (decide (Hf.v h ≤ 7200)))) (K (AV.bool false))) (brc (Hf.c h == 117) (brc (decide (Hf.v h ≥ 0)) (K (AV.bool (decide (Hf.v h ≤ 7200)))) (K (AV.bool false))) (K (AV.bool false))))) (K (AV.bool false))) (K (AV.bool false))) (K (AV.bool false))) (K (AV.bool false))) (brc (Hf.k h == 1) (K (AV.bool false)) (brc (Hf.k h == 2) (K (AV.bool false)) (brc (Hf.k h == 3) (K (AV.bool false)) (K (AV.bool false)))))) (brc (Hf.k h == 0) (K (AV.bool false)) (brc (Hf.k h == 1) (K (AV.bool false)) (brc (Hf.k h == 2) (K (AV.bool false)) (brc (Hf.k h == 3) (K (AV.bool false)) (K (AV.bool false)))))))) (K (AV.bool false))) (K (AV.bool false))) := by kernel_rfl
set_option maxRecDepth 100000 in
set_option maxHeartbeats 2000000 in
theorem cyRightR_ok : COk Tryz.prog 168 cyRight := af_con kN (by kernel_rfl) fun args p v hc hp => by
 unfold cyRight at hc
 split at hc
 case h_2 => cases hc
 split at hc
 case h_2 => cases hc
 rename_i l h hl
 simp only [Option.some.injEq, Prod.mk.injEq] at hc
 obtain ⟨_, rfl⟩ := hc
 rw [rdH_ok hl]
 refine ⟨rfl, 6, ?_⟩
 rw [rright_vc]
 unfold HfOk OnOk AtOk
 clear hl hp
 repeat' (with_reducible refine kA (fun h => ?_) (fun h => ?_))
 all_goals simp only [decide_eq_true_eq, decide_eq_false_iff_not, Bool.not_eq_true', Bool.not_eq_false', beq_iff_eq, beq_eq_false_iff_ne, bne_iff_ne, bne_eq_false_iff_eq, ne_eq, Bool.and_eq_true, Bool.and_eq_false_iff, Bool.true_and] at *
 all_goals first
  | (refine dec_eq (fun q => ?_) fun q => ?_; (repeat' apply And.intro) <;> omega; omega)
  | (refine bool_no ?_; omega)
theorem abs_wrap {a b : Int} (h1 : 1 ≤ a ∧ a ≤ 12) (h2 : 1 ≤ b ∧ b ≤ 12) : IntKind.wrap .i64 (a - b) = a - b ∧ IntKind.wrap .i64 (0 - (a - b)) = b - a := by
 rw [wv (x := a - b) (by omega) (by omega), wv (by omega) (by omega)]; omega
set_option maxRecDepth 100000 in
theorem can_vc (F : Ft) (K : AV → Prop) : AF (tab [(174, cyRight)]) 6 163 [.agg (avF F)] K =
 (brc (!Ft.z F) (K (AV.bool false)) (∀ (m0 : Bool), m0 = decide (HfOk (Ft.a F)) → brc (!m0) (K (AV.bool false)) (∀ (m1 : Bool), m1 = decide (HfOk (Ft.b F)) → brc (!m1) (K (AV.bool false)) (brc (decide (Ft.off F < -50400)) (K (AV.bool false)) (brc (decide (Ft.off F > 50400)) (K (AV.bool false)) (brc (decide ((if IntKind.wrap IntKind.i64 (0 - IntKind.wrap IntKind.i64 (Hf.m (Ft.a F) - Hf.m (Ft.b F))) > IntKind.wrap IntKind.i64 (Hf.m (Ft.a F) - Hf.m (Ft.b F)) then IntKind.wrap IntKind.i64 (0 - IntKind.wrap IntKind.i64 (Hf.m (Ft.a F) - Hf.m (Ft.b F))) else IntKind.wrap IntKind.i64 (Hf.m (Ft.a F) - Hf.m (Ft.b F))) ≥ 2)) (K (AV.bool (decide ((if IntKind.wrap IntKind.i64 (0 - IntKind.wrap IntKind.i64 (Hf.m (Ft.a F) - Hf.m (Ft.b F))) > IntKind.wrap IntKind.i64 (Hf.m (Ft.a F) - Hf.m (Ft.b F)) then IntKind.wrap IntKind.i64 (0 - IntKind.wrap IntKind.i64 (Hf.m (Ft.a F) - Hf.m (Ft.b F))) else IntKind.wrap IntKind.i64 (Hf.m (Ft.a F) - Hf.m (Ft.b F))) ≤ 10)))) (K (AV.bool false)))))))) := by kernel_rfl
set_option maxRecDepth 100000 in
theorem cyCan_ok : COk Tryz.prog 163 cyCan := af_con (kB cyRight_ok kN) (by kernel_rfl) fun args p v hc hp => by
 unfold cyCan at hc
 split at hc
 case h_2 => cases hc
 split at hc
 case h_2 => cases hc
 rename_i l F hl
 simp only [Option.some.injEq, Prod.mk.injEq] at hc
 obtain ⟨_, rfl⟩ := hc
 rw [rdF_ok hl]
 refine ⟨rfl, 6, ?_⟩
 rw [can_vc]
 have no : ∀ {X : Prop}, (FtOk F → X) → ¬ X → AV.bool false = AV.bool (decide (FtOk F)) := fun h k => bool_no fun q => k (h q)
 refine kA (fun h => no (fun q => q.1) (by simpa using h)) fun h0 => ?_
 rintro _ rfl
 refine kA (fun h => no (fun q => q.2.1) (by simpa using h)) fun h1 => ?_
 rintro _ rfl
 refine kA (fun h => no (fun q => q.2.2.1) (by simpa using h)) fun h2 => ?_
 have h1 : HfOk F.a := by simpa using h1
 have h2 : HfOk F.b := by simpa using h2
 have hz : F.z = true := by simpa using h0
 obtain ⟨e1, e2⟩ := abs_wrap ⟨h1.1, h1.2.1⟩ ⟨h2.1, h2.2.1⟩
 rw [e1, e2]
 unfold FtOk
 simp only [hz, h1, h2, true_and]
 clear no h0 e1 e2 h1 h2 hz hp hl
 repeat' (with_reducible refine kA (fun h => ?_) (fun h => ?_))
 all_goals first
  | (refine bool_eq ?_; simp only [decide_eq_true_eq, decide_eq_false_iff_not, Bool.not_eq_true', Bool.not_eq_false', beq_iff_eq, beq_eq_false_iff_ne, bne_iff_ne, bne_eq_false_iff_eq, ne_eq, Bool.and_eq_true, Bool.and_eq_false_iff, Bool.true_and] at *; split at * <;> split at * <;> omega)
  | (refine bool_eq ?_; simp only [decide_eq_true_eq, decide_eq_false_iff_not, Bool.not_eq_true', Bool.not_eq_false', beq_iff_eq, beq_eq_false_iff_ne, bne_iff_ne, bne_eq_false_iff_eq, ne_eq, Bool.and_eq_true, Bool.and_eq_false_iff, Bool.true_and] at *; omega)
  | (refine bool_no ?_; simp only [decide_eq_true_eq, decide_eq_false_iff_not, Bool.not_eq_true', Bool.not_eq_false', beq_iff_eq, beq_eq_false_iff_ne, bne_iff_ne, bne_eq_false_iff_eq, ne_eq, Bool.and_eq_true, Bool.and_eq_false_iff, Bool.true_and] at *; split at * <;> omega)
  | (refine bool_no ?_; simp only [decide_eq_true_eq, decide_eq_false_iff_not, Bool.not_eq_true', Bool.not_eq_false', beq_iff_eq, beq_eq_false_iff_ne, bne_iff_ne, bne_eq_false_iff_eq, ne_eq, Bool.and_eq_true, Bool.and_eq_false_iff, Bool.true_and] at *; omega)
set_option maxRecDepth 100000 in
theorem rcan_vc (F : Ft) (K : AV → Prop) : AF (tab [(168, cyRight)]) 6 145 [.agg (avF F)] K =
 (brc (!Ft.z F) (K (AV.bool false)) (∀ (m0 : Bool), m0 = decide (HfOk (Ft.a F)) → brc (!m0) (K (AV.bool false)) (∀ (m1 : Bool), m1 = decide (HfOk (Ft.b F)) → brc (!m1) (K (AV.bool false)) (brc (decide (Ft.off F < -50400)) (K (AV.bool false)) (brc (decide (Ft.off F > 50400)) (K (AV.bool false)) (brc (decide (IntKind.wrap IntKind.i64 (Hf.m (Ft.a F) - Hf.m (Ft.b F)) < 0)) (brc (decide (IntKind.wrap IntKind.i64 (0 - IntKind.wrap IntKind.i64 (Hf.m (Ft.a F) - Hf.m (Ft.b F))) ≥ 2)) (K (AV.bool (decide (IntKind.wrap IntKind.i64 (0 - IntKind.wrap IntKind.i64 (Hf.m (Ft.a F) - Hf.m (Ft.b F))) ≤ 10)))) (K (AV.bool false))) (brc (decide (IntKind.wrap IntKind.i64 (Hf.m (Ft.a F) - Hf.m (Ft.b F)) ≥ 2)) (K (AV.bool (decide (IntKind.wrap IntKind.i64 (Hf.m (Ft.a F) - Hf.m (Ft.b F)) ≤ 10)))) (K (AV.bool false))))))))) := by kernel_rfl
set_option maxRecDepth 100000 in
theorem cyCanR_ok : COk Tryz.prog 145 cyCan := af_con (kB cyRightR_ok kN) (by kernel_rfl) fun args p v hc hp => by
 unfold cyCan at hc
 split at hc
 case h_2 => cases hc
 split at hc
 case h_2 => cases hc
 rename_i l F hl
 simp only [Option.some.injEq, Prod.mk.injEq] at hc
 obtain ⟨_, rfl⟩ := hc
 rw [rdF_ok hl]
 refine ⟨rfl, 6, ?_⟩
 rw [rcan_vc]
 have no : ∀ {X : Prop}, (FtOk F → X) → ¬ X → AV.bool false = AV.bool (decide (FtOk F)) := fun h k => bool_no fun q => k (h q)
 refine kA (fun h => no (fun q => q.1) (by simpa using h)) fun h0 => ?_
 rintro _ rfl
 refine kA (fun h => no (fun q => q.2.1) (by simpa using h)) fun h1 => ?_
 rintro _ rfl
 refine kA (fun h => no (fun q => q.2.2.1) (by simpa using h)) fun h2 => ?_
 have h1 : HfOk F.a := by simpa using h1
 have h2 : HfOk F.b := by simpa using h2
 have hz : F.z = true := by simpa using h0
 obtain ⟨e1, e2⟩ := abs_wrap ⟨h1.1, h1.2.1⟩ ⟨h2.1, h2.2.1⟩
 rw [e1, e2]
 unfold FtOk
 simp only [hz, h1, h2, true_and]
 clear no h0 e1 e2 h1 h2 hz hp hl
 repeat' (with_reducible refine kA (fun h => ?_) (fun h => ?_))
 all_goals first
  | (refine bool_eq ?_; simp only [decide_eq_true_eq, decide_eq_false_iff_not, Bool.not_eq_true', Bool.not_eq_false', beq_iff_eq, beq_eq_false_iff_ne, bne_iff_ne, bne_eq_false_iff_eq, ne_eq, Bool.and_eq_true, Bool.and_eq_false_iff, Bool.true_and] at *; omega)
  | (refine bool_no ?_; simp only [decide_eq_true_eq, decide_eq_false_iff_not, Bool.not_eq_true', Bool.not_eq_false', beq_iff_eq, beq_eq_false_iff_ne, bne_iff_ne, bne_eq_false_iff_eq, ne_eq, Bool.and_eq_true, Bool.and_eq_false_iff, Bool.true_and] at *; omega)
end
end Go.Proofs.YtimgphlfaninnaaGreat.P
