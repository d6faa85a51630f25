/- The abstract machine: what is reckoned out holds; functions reckoned out are contracts. -/
import Derived.Test.YtlpnbbonbclddaaQfmfbbgmdoe
namespace Go.Proofs.Ytlpnbbonbclddaa.A
open Go Go.RowKit
set_option linter.unusedVariables false
set_option linter.unusedSimpArgs false
variable {P : Program} {T : Tab} {β : Type} {x : β}
theorem bro_some {b : Bool} {A B : Option β} (h : bro b A B = some x) : (b = true ∧ A = some x) ∨ (b = false ∧ B = some x) := by cases b <;> simp_all [bro]
def InlAd (x : β) (i : Inl (Option β)) (j : Inl Prop) : Prop := ∀ c e h (K : AV → Heap → Option β) (K' : AV → Heap → Prop), i c e h K = some x → (∀ v h', K v h' = some x → K' v h') → j c e h K'
def RecAd (x : β) (i : Code → St → (Ex → St → Option β) → Option β) (j : Code → St → (Ex → St → Prop) → Prop) : Prop :=
  ∀ c st (K : Ex → St → Option β) (K' : Ex → St → Prop), i c st K = some x → (∀ e s, K e s = some x → K' e s) → j c st K'
theorem step_ad {ok : Nat → Nat → Bool} {lk : Lk} (hlk : LkOk lk) {ops : Array Oper} {rd : Nat → Heap → Nat → Option Ob} {nm : Nat → Heap → Nat} {i : Inl (Option β)} {j : Inl Prop} (hi : InlAd x i j) {n : Nat} {st : St} {K : St → Option β} {K' : St → Prop}
    (h : stepA (OA β) P T ok lk ops rd nm i n K st = some x) (hK : ∀ s, K s = some x → K' s) : stepA PA P T ok lk ops rd nm j n K' st := by
  rw [stepA_eq _ P T ok hlk] at h ⊢
  unfold stepB at h ⊢
  split at h
  · rename_i ho; exact hK _ h
  · rename_i o ho
    try simp only [ho]
    split at h
    · cases h
    · rename_i b hb
      try simp only [hb]
      rcases bro_some h with ⟨rfl, h⟩ | ⟨rfl, h⟩
      · simp only [PA, brc]
        split at h
        · rename_i p v f hv
          try simp only [hv]
          cases hok : effOk (ok n) f with
          | false => rw [hok] at h; cases h
          | true =>
          rw [hok] at h
          simp only [Bool.cond_true] at h ⊢
          rcases bro_some h with ⟨rfl, h⟩ | ⟨rfl, h⟩
          · simp only [brc]
            rw [fx_eq, fy_eq, fst_eq] at h ⊢
            exact hK _ h
          · cases h
        · rename_i hv
          try simp only [hv]
          refine hi _ _ _ _ _ h fun v h' hk => ?_
          rw [fv_eq, fst_eq] at hk ⊢
          exact hK _ hk
      · simp only [PA, brc]
        rw [fst_eq] at h ⊢
        exact hK _ h
theorem ops_ad {ok : Nat → Nat → Bool} {lk : Lk} (hlk : LkOk lk) {ops : Array Oper} {rd : Nat → Heap → Nat → Option Ob} {nm : Nat → Heap → Nat} {i : Inl (Option β)} {j : Inl Prop} (hi : InlAd x i j) {K : St → Option β} {K' : St → Prop} (hK : ∀ s, K s = some x → K' s) :
    ∀ (l : List Nat) (st : St), opsA (OA β) P T ok lk ops rd nm i l st K = some x → opsA PA P T ok lk ops rd nm j l st K'
  | [], st, h => hK _ h
  | n :: l, st, h => step_ad hlk hi h fun s hs => ops_ad hlk hi hK l s hs
theorem noInl_ad0 : InlAd x (noInl (OA β)) (noInl PA) := fun _ _ _ _ _ h _ => by cases h
theorem seg_ad {inl : Inl (Option β)} {inl' : Inl Prop} (hi : InlAd x inl inl') {ops : Array Oper} {bf : List Nat} {mask : Nat} {K : St → Option β} {K' : St → Prop} : ∀ (f : Nat) (todo : List Nat) (st : St) (_ : Unit), segA (OA β) P T inl ops bf mask f todo st K = some x → (∀ s, K s = some x → K' s) → segA PA P T inl' ops bf mask f todo st K'
  | 0, _, _, _, h, _ => by cases h
  | f + 1, todo, st, u, h, hK => by
    simp only [segA] at h ⊢
    refine ops_ad (lkOf_ok ops) noInl_ad0 (fun s hs => ?_) _ _ h
    split at hs
    · exact hK _ hs
    · exact step_ad lkAll_ok hi hs fun s2 hs2 => seg_ad hi f _ s2 u hs2 hK
def RfAd (x : β) (i : Rf (Option β)) (j : Rf Prop) : Prop :=
  ∀ f ps a b st (K : Ex → St → Option β) (K' : Ex → St → Prop), i f ps a b st K = some x → (∀ e s, K e s = some x → K' e s) → j f ps a b st K'
def CallAd (x : β) (i : FuncId → List AV → Heap → (AV → Heap → Option β) → Option β) (j : FuncId → List AV → Heap → (AV → Heap → Prop) → Prop) : Prop :=
  ∀ g args h (K : AV → Heap → Option β) (K' : AV → Heap → Prop), i g args h K = some x → (∀ v h', K v h' = some x → K' v h') → j g args h K'
theorem noRf_ad : RfAd x (noRf (OA β)) (noRf PA) := fun _ _ _ _ _ _ _ h _ => by cases h
theorem code_ad {r : Code → St → (Ex → St → Option β) → Option β} {r' : Code → St → (Ex → St → Prop) → Prop} (hr : RecAd x r r') {i : Inl (Option β)} {j : Inl Prop} (hi : InlAd x i j) {rf : Rf (Option β)} {rf' : Rf Prop} (hf : RfAd x rf rf') : RecAd x (codeA (OA β) P T noLoops r i rf) (codeA PA P T noLoops r' j rf') := by
  intro c
  induction c with
  | skip => intro st K K' h hK; exact hK _ _ h
  | label l => intro st K K' h hK; exact hK _ _ h
  | exit id => intro st K K' h hK; exact hK _ _ h
  | ret => intro st K K' h hK; exact hK _ _ h
  | seq a b iha ihb =>
    intro st K K' h hK
    refine iha _ _ _ h fun e s hs => ?_
    cases e with
    | normal => exact ihb _ _ _ hs hK
    | exit n => exact hK _ _ hs
    | ret => exact hK _ _ hs
  | cond c a b iha ihb =>
    intro st K K' h hK
    simp only [codeA] at h ⊢
    split at h
    · rename_i q hq
      try simp only [hq]
      rcases bro_some h with ⟨rfl, h⟩ | ⟨rfl, h⟩
      · have h2 : fst (refC st c true) (fun st => codeA (OA β) P T noLoops r i rf a st K) = some x := h
        rw [fst_eq, refC_eq hq] at h2
        rw [PA.br_t, fst_eq, refC_eq hq]
        exact iha _ _ _ h2 hK
      · have h2 : fst (refC st c false) (fun st => codeA (OA β) P T noLoops r i rf b st K) = some x := h
        rw [fst_eq, refC_eq hq] at h2
        rw [PA.br_f, fst_eq, refC_eq hq]
        exact ihb _ _ _ h2 hK
    · cases h
  | block id b ih =>
    intro st K K' h hK
    refine ih _ _ _ h fun e s hs => ?_
    cases e with
    | normal => exact hK _ _ hs
    | exit n =>
      simp only at hs ⊢
      split at hs
      · rename_i hn; rw [if_pos hn]; exact hK _ _ hs
      · rename_i hn; rw [if_neg hn]; exact hK _ _ hs
    | ret => exact hK _ _ hs
  | loop b ih =>
    intro st K K' h hK
    exact hr _ _ _ _ h hK
  | rangeFunc f ps a b iha ihb =>
    intro st K K' h hK
    exact hf _ _ _ _ _ _ _ h hK
  | region id ops draw =>
    intro st K K' h hK
    simp only [codeA, regionA] at h ⊢
    split at h
    · rename_i hd
      rw [if_pos hd]
      split at h
      · rename_i hok
        rw [if_pos hok]
        exact seg_ad hi _ _ _ () h (fun s hs => hK _ _ hs)
      · cases h
    · rename_i hd
      rw [if_neg hd]
      exact ops_ad lkAll_ok hi (fun s hs => hK _ _ hs) _ _ h
  | _ => intro st K K' h hK; cases h
theorem body_ad {r : Code → St → (Ex → St → Option β) → Option β} {r' : Code → St → (Ex → St → Prop) → Prop} (hr : RecAd x r r') {i : Inl (Option β)} {j : Inl Prop} (hi : InlAd x i j) {rf : Rf (Option β)} {rf' : Rf Prop} (hf : RfAd x rf rf') {fn : Func} {args : List AV} {hp : Heap} {K : AV → Heap → Option β} {K' : AV → Heap → Prop}
    (h : bodyA (OA β) P T noLoops r i rf fn args hp K = some x) (hK : ∀ v h', K v h' = some x → K' v h') : bodyA PA P T noLoops r' j rf' fn args hp K' := by
  unfold bodyA at h ⊢
  split at h
  · rename_i c hc
    try simp only [hc]
    rw [fl_eq, fst_eq] at h ⊢
    refine code_ad hr hi hf _ _ _ _ h fun e s hs => ?_
    have fin : (match shut s.d s.h with | some h2 => (match resA P ⟨s.t, h2, []⟩ fn.results.toList with | some l => fl (OA β) l fun l => K (resV l) h2 | none => (OA β).no) | none => (OA β).no) = some x → (match shut s.d s.h with | some h2 => (match resA P ⟨s.t, h2, []⟩ fn.results.toList with | some l => fl PA l fun l => K' (resV l) h2 | none => PA.no) | none => PA.no) := fun h => by
      split at h
      · rename_i h2 hs2
        try simp only [hs2]
        split at h
        · rename_i l hl
          try simp only [hl]
          rw [fl_eq] at h ⊢
          exact hK _ _ h
        · cases h
      · cases h
    cases e with
    | normal => exact fin hs
    | ret => exact fin hs
    | exit n => cases hs
  · cases h
theorem round_ad {cd : Code → St → (Ex → St → Option β) → Option β} {cd' : Code → St → (Ex → St → Prop) → Prop} (hc : RecAd x cd cd') {n : Nat} {args : List AV} {hp : Heap} {K : AV → Heap → Option β} {K' : AV → Heap → Prop}
    (h : roundA (OA β) cd n args hp K = some x) (hK : ∀ v h', K v h' = some x → K' v h') : roundA PA cd' n args hp K' := by
  unfold roundA at h ⊢
  split at h
  case h_2 => cases h
  rename_i p t ps sg bo hrd
  try simp only [hrd]
  split at h
  case isFalse => cases h
  rename_i hl
  rw [if_pos hl]
  rw [fst_eq] at h ⊢
  refine hc _ _ _ _ h fun e1 s1 h1 => ?_
  cases e1 with
  | exit n => cases h1
  | ret => cases h1
  | normal =>
    dsimp only at h1 ⊢
    split at h1
    case h_2 => cases h1
    rename_i p1 t1 ps1 as1 b1 hrd1
    try simp only [hrd1]
    refine hc _ _ _ _ h1 fun e2 s2 h2 => ?_
    split at h2
    case h_2 => cases h2
    rename_i hrd2
    try simp only [hrd2]
    cases e2 <;> exact hK _ _ h2
theorem range_ad {call : FuncId → List AV → Heap → (AV → Heap → Option β) → Option β} {call' : FuncId → List AV → Heap → (AV → Heap → Prop) → Prop} (hc : CallAd x call call') : RfAd x (rangeA (OA β) call) (rangeA PA call') := by
  intro f ps a b st K K' h hK
  unfold rangeA at h ⊢
  split at h
  case h_2 => cases h
  rename_i g first cap hf
  try simp only [hf]
  refine hc _ _ _ _ _ h fun v h2 hq => ?_
  try dsimp only at hq ⊢
  split at hq
  case h_2 => cases hq
  rename_i s pe t1 ps1 as1 b1 hrd
  try simp only [hrd]
  split at hq
  case isTrue => cases hq
  rename_i hb
  rw [if_neg hb]
  split at hq
  · rw [fst_eq] at hq ⊢; exact hK _ _ hq
  · rw [fst_eq] at hq ⊢; exact hK _ _ hq
  · rw [fst_eq] at hq ⊢; exact hK _ _ hq
  · cases hq
theorem all_ad : ∀ n, (∀ rf rf', RfAd x rf rf' → RecAd x (alp (OA β) P T rf n) (alp PA P T rf' n)) ∧ InlAd x (ainl (OA β) P T n) (ainl PA P T n) ∧ CallAd x (acall (OA β) P T n) (acall PA P T n)
  | 0 => by
    refine ⟨fun rf rf' _ c st K K' h hK => ?_, fun c e hp K K' h hK => ?_, fun g args hp K K' h hK => ?_⟩
    all_goals
      have : (none : Option β) = some x := h
      cases this
  | n + 1 => by
    obtain ⟨h1, h2, h3⟩ := all_ad n
    refine ⟨fun rf rf' hrf c st K K' h hK => ?_, fun c e h K K' hq hK => ?_, fun g args h K K' hq hK => ?_⟩
    · refine code_ad (h1 _ _ hrf) h2 hrf c _ _ _ h fun e s hs => ?_
      cases e with
      | normal => exact h1 _ _ hrf _ _ _ _ hs hK
      | exit n => exact hK _ _ hs
      | ret => exact hK _ _ hs
    · simp only [ainl] at hq ⊢
      split at hq
      · rename_i p v s al hx
        try simp only [hx]
        rcases bro_some hq with ⟨rfl, hq⟩ | ⟨rfl, hq⟩
        · simp only [PA, brc]
          rw [fso_eq, fao_eq] at hq ⊢
          exact hK _ _ hq
        · cases hq
      rename_i hx
      try simp only [hx]
      split at hq
      · rename_i g args hg
        try simp only [hg]
        exact h3 _ _ _ _ _ hq hK
      · rename_i hg
        try simp only [hg]
        split at hq
        · rename_i nl args hy
          try simp only [hy]
          exact round_ad (code_ad (h1 _ _ noRf_ad) h2 noRf_ad) hq hK
        · cases hq
    · simp only [acall] at hq ⊢
      split at hq
      · rename_i fn hf
        try simp only [hf]
        split at hq
        · cases hq
        · rename_i hn
          rw [if_neg hn]
          have hrf := range_ad h3
          exact body_ad (h1 _ _ hrf) h2 hrf hq hK
      · cases hq
theorem afn_ad {n : Nat} {g : FuncId} {args : List AV} {K : AV → Heap → Option β} {K' : AV → Heap → Prop} (h : afn (OA β) P T noLoops n g args K = some x) (hK : ∀ v h', K v h' = some x → K' v h') : afn PA P T noLoops n g args K' := by
  unfold afn at h ⊢
  split at h
  · rename_i fn hf
    try simp only [hf]
    obtain ⟨h1, h2, h3⟩ := all_ad (P := P) (T := T) (x := x) n
    have hrf := range_ad h3
    exact body_ad (h1 _ _ hrf) h2 hrf h hK
  · cases h
/-- A function that is reckoned out is a contract. -/
theorem runC_ok (hm : P.follows .mixedOrders = true) (rounds : Nat) (hT : TabOk P T) (g : FuncId) : COk P g (runC P rounds T g) := by
  intro args p v hcv hp w A hA
  simp only [runC] at hcv
  split at hcv
  case isFalse => cases hcv
  rename_i hname
  split at hcv
  case h_2 => cases hcv
  rename_i u hu
  split at hcv
  case isFalse => cases hcv
  rename_i hok
  simp at hcv
  obtain ⟨_, rfl⟩ := hcv
  simp only [Bool.and_eq_true] at hok
  have hP : afn PA P T noLoops rounds g args fun z h => toNu h 4 z = u := afn_ad hu fun v h' hk => by rw [fv_eq] at hk; simpa using hk
  exact givesN_ok hm hT hname (ltOk_none P g) hok.1 hP hA
end Go.Proofs.Ytlpnbbonbclddaa.A
