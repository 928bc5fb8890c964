/- Proved here: the law TopAnewSound returns true for every argument of bulk at most 1048576 and leaves it as it was; no other condition. (part 3 of 5.) -/
import Derived.Test.YtkfahdbjndihfaaGreatUp2
import Derived.Carry
import Derived.RowKit3
import Derived.ProofKit
import Derived.OpenShut
import Derived.Deep.Slices
set_option linter.unusedSimpArgs false
set_option linter.unusedVariables false
set_option linter.unnecessarySimpa false
namespace Go.Tc
set_option linter.unusedSimpArgs false
def outCode : ACode :=
 .seq (.ops [
   ⟨(some 6), .mv (.c (.bool false)), none, []⟩])
 (.seq (.ops [
   ⟨(some 7), .mv (.t 0), none, []⟩,
   ⟨(some 8), .mv (.t 1), none, []⟩,
   ⟨(some 9), .bin .lss .int (.t 7) (.t 8), none, []⟩,
   ⟨(some 10), .mv (.t 9), none, []⟩,
   ⟨(some 11), .mv (.t 0), (some (10, false)), []⟩,
   ⟨(some 12), .mv (.t 2), (some (10, false)), []⟩,
   ⟨(some 13), .bin .gtr .int (.t 11) (.t 12), (some (10, false)), []⟩,
   ⟨(some 14), .pick (.t 10) (.c (.bool true)) (.t 13), none, []⟩,
   ⟨(some 6), .mv (.t 14), none, []⟩])
 (.ret))
theorem out_spec {P : Program} (hP : P.follows .mixedOrders = true) {f : FuncId} (hk : compFunc P f = some (15, outCode, [.t 6])) (σ : AHeap) (a lo hi : Int) {Q : AOut → AHeap → Prop} (h : Q (.ret (.bool (decide (a < lo ∨ hi < a)))) σ) :
    RunV P (.func (.func f) [] []) [.int .i64 a, .int .i64 lo, .int .i64 hi] σ Q := by
  refine RunV.func hP hk (by simp) ?_
  simp (disch := omega) only [outCode, ↓CTL, VAL, Nat.reduceBEq]
  refine G_false (fun h1 => ?_) (fun h1 => ?_)
  · simp (disch := omega) only [↓CTL, VAL, Nat.reduceBEq]
    simpa [h1] using h
  · simp (disch := omega) only [↓CTL, VAL, Nat.reduceBEq]
    simpa [h1] using h
def idxFunc (g : Bool) (m : Nat) : ACode :=
 .seq (.ops [
   ⟨(some 4), .mv (.c (.int .i64 0)), none, []⟩])
 (.seq (.seq (.ops [
   ⟨(some 6), .mv (.t 0), none, []⟩,
   ⟨(some 7), .lenS (.t 6), none, []⟩,
   ⟨(some 8), .mv (.c (.int .i64 0)), none, []⟩])
 (.block 0 (.loop (.seq (.ops [
    ⟨(some 9), .bin .lss .int (.t 8) (.t 7), none, []⟩])
  (.seq (.cond (.t 9)
   (.skip)
   (.exit 0))
  (.seq (.block 1 (.seq (.ops [
    ⟨(some 10), .mv (.t 8), none, []⟩,
    ⟨(some 5), .mv (.t 10), none, []⟩])
  (.seq (.ops [
    ⟨(some 11), .mv (.t 1), none, []⟩,
    ⟨(some 12), .mv (.t 0), none, []⟩,
    ⟨(some 13), .mv (.t 5), none, []⟩,
    ⟨(some 14), .ixS m (.t 12) (.t 13), none, []⟩,
    ⟨(some 15), .load g m (.t 14), none, []⟩,
    ⟨(some 16), .callV (.t 11) [(.t 15)], none, []⟩])
  (.cond (.t 16)
   (.seq (.ops [
     ⟨(some 17), .mv (.t 5), none, []⟩,
     ⟨(some 4), .mv (.t 17), none, []⟩])
   (.ret))
   (.skip)))))
  (.ops [
    ⟨(some 18), .bin .add .int (.t 8) (.c (.int .i64 1)), none, []⟩,
    ⟨(some 8), .mv (.t 18), none, []⟩])))))))
 (.seq (.ops [
   ⟨(some 4), .mv (.c (.int .i64 (-1))), none, []⟩])
 (.ret)))
theorem RunV.bool {P : Program} {fv : AVal} {zs : List AVal} {σ : AHeap} (h : RunV P fv zs σ (fun o s => ∃ b, o = .ret (.bool b) ∧ s = σ)) : ∃ b, RunV P fv zs σ (fun o s => o = .ret (.bool b) ∧ s = σ) :=
  let ⟨o, s, ⟨b, h1, h2⟩, h3⟩ := h; ⟨b, o, s, ⟨h1, h2⟩, h3⟩
theorem indexFunc_spec {P : Program} (hP : P.follows .mixedOrders = true) {f : FuncId} {g : Bool} {m : Nat} (hk : compFunc P f = some (19, idxFunc g m, [.t 4])) {σ : AHeap} {v fv : AVal} {α : Type} [Inhabited α] {l : List α} {r : α → List AVal}
    (hv : TV σ m r v l) (hl : l.length ≤ 4611686018427387904) (el : α → AVal) (he : ∀ x, partA g m 0 (r x) = some (el x)) (p : α → Bool) (hf : ∀ x ∈ l, RunV P fv [el x] σ (fun o s => o = .ret (.bool (p x)) ∧ s = σ))
    {Q : AOut → AHeap → Prop} (hQ : ∀ n : Int, -1 ≤ n → n < l.length → (0 ≤ n → p (l.getD n.toNat default) = true) → (n < 0 → ∀ x ∈ l, p x = false) → Q (.ret (.int .i64 n)) σ) :
    RunV P (.func (.func f) [] []) [v, fv] σ Q := by
  refine RunV.func hP hk (by simp) ?_
  simp (disch := omega) only [idxFunc, ↓CTL, VAL, Nat.reduceBEq, Nat.reduceAdd, hv.S]
  refine A_loopV (α := Nat) [5, 8, 9, 10, 11, 12, 13, 14, 15, 16, 17, 4, 18] (fun i => [(8, .int .i64 i)]) (fun i s => s = σ ∧ i ≤ l.length ∧ ∀ j, j < i → p (l.getD j default) = false) (fun i => l.length - i) rfl (fun _ => rfl) ⟨0, ?_, rfl, Nat.zero_le _, fun j hj => absurd hj (Nat.not_lt_zero _)⟩ ?_
  · simp only [↓CTL, VAL, Nat.reduceBEq]; rfl
  · rintro i f _ ⟨rfl, hi, hpi⟩
    simp (disch := omega) only [↓CTL, VAL, Nat.reduceBEq, Nat.reduceAdd, hv.S]
    refine B_if (fun h1 => ?_) (fun h1 => ?_)
    · simp (disch := omega) only [↓CTL, VAL, Nat.reduceBEq, Nat.reduceAdd, hv.S, he, Int.toNat_natCast]
      have hmem : l.getD i default ∈ l := by
        rw [List.getD_eq_getElem?_getD, List.getElem?_eq_getElem (by omega)]; exact List.getElem_mem _
      refine (hf _ hmem).mono fun o s h => ?_
      obtain ⟨rfl, rfl⟩ := h
      simp (disch := omega) only [↓CTL, VAL, Nat.reduceBEq, Nat.reduceAdd]
      refine B_ifb (fun h2 => ?_) (fun h2 => ?_)
      · simp (disch := omega) only [↓CTL, VAL, Nat.reduceBEq, Nat.reduceAdd]
        exact hQ _ (by omega) (by omega) (fun _ => by simpa using h2) (fun h => by omega)
      · simp (disch := omega) only [↓CTL, VAL, Nat.reduceBEq, Nat.reduceAdd]
        refine ⟨i + 1, rfl, ⟨by omega, fun j hj => ?_⟩, by omega⟩
        rcases Nat.lt_or_eq_of_le (Nat.le_of_lt_succ hj) with h | rfl
        · exact hpi j h
        · exact h2
    · simp (disch := omega) only [↓CTL, VAL, Nat.reduceBEq, Nat.reduceAdd]
      refine hQ (-1) (by omega) (by omega) (fun h => by omega) (fun _ x hx => ?_)
      obtain ⟨j, hj, rfl⟩ := List.mem_iff_getElem.1 hx
      have := hpi j (by omega)
      rwa [List.getD_eq_getElem?_getD, List.getElem?_eq_getElem hj] at this
theorem indexFunc_any {P : Program} (hP : P.follows .mixedOrders = true) {f : FuncId} {g : Bool} {m : Nat} (hk : compFunc P f = some (19, idxFunc g m, [.t 4])) {σ : AHeap} {v fv : AVal} {α : Type} [Inhabited α] {l : List α} {r : α → List AVal}
    (hv : TV σ m r v l) (hl : l.length ≤ 4611686018427387904) (el : α → AVal) (he : ∀ x, partA g m 0 (r x) = some (el x)) (hf : ∀ x ∈ l, RunV P fv [el x] σ (fun o s => ∃ b, o = .ret (.bool b) ∧ s = σ))
    {Q : AOut → AHeap → Prop} (hQ : ∀ n : Int, -1 ≤ n → n < l.length → (n < 0 → -1 = n) → Q (.ret (.int .i64 n)) σ) : RunV P (.func (.func f) [] []) [v, fv] σ Q := by
  have : ∀ x, ∃ b, x ∈ l → RunV P fv [el x] σ (fun o s => o = .ret (.bool b) ∧ s = σ) := fun x => by
    by_cases h : x ∈ l
    · obtain ⟨b, hb⟩ := (hf x h).bool
      exact ⟨b, fun _ => hb⟩
    · exact ⟨true, fun h' => absurd h' h⟩
  exact indexFunc_spec hP hk hv hl el he (fun x => Classical.choose (this x)) (fun x hx => Classical.choose_spec (this x) hx) fun n h1 h2 _ _ => hQ n h1 h2 (by omega)
theorem indexFunc_inv {P : Program} (hP : P.follows .mixedOrders = true) {f : FuncId} {g : Bool} {m : Nat} (hk : compFunc P f = some (19, idxFunc g m, [.t 4])) {σ : AHeap} {v fv : AVal} {α : Type} [Inhabited α] {l : List α} {r : α → List AVal}
    (J : AHeap → Prop) (hv : ∀ s, J s → TV s m r v l) (h0 : J σ) (hl : l.length ≤ 4611686018427387904) (el : α → AVal) (he : ∀ x, partA g m 0 (r x) = some (el x)) (hf : ∀ s, ∀ x ∈ l, J s → RunV P fv [el x] s (fun o s' => (∃ b, o = .ret (.bool b)) ∧ J s'))
    {Q : AOut → AHeap → Prop} (hQ : ∀ (n : Int) s, -1 ≤ n → n < l.length → J s → Q (.ret (.int .i64 n)) s) :
    RunV P (.func (.func f) [] []) [v, fv] σ Q := by
  refine RunV.func hP hk (by simp) ?_
  simp (disch := omega) only [idxFunc, ↓CTL, VAL, Nat.reduceBEq, Nat.reduceAdd, (hv σ h0).S]
  refine A_loopV (α := Nat) [5, 8, 9, 10, 11, 12, 13, 14, 15, 16, 17, 4, 18] (fun i => [(8, .int .i64 i)]) (fun i s => i ≤ l.length ∧ J s) (fun i => l.length - i) rfl (fun _ => rfl) ⟨0, ?_, Nat.zero_le _, h0⟩ ?_
  · simp only [↓CTL, VAL, Nat.reduceBEq]; rfl
  · rintro i f s ⟨hi, hJ⟩
    have hvs := (hv s hJ).S
    simp (disch := omega) only [↓CTL, VAL, Nat.reduceBEq, Nat.reduceAdd, hvs]
    refine B_if (fun h1 => ?_) (fun h1 => ?_)
    · simp (disch := omega) only [↓CTL, VAL, Nat.reduceBEq, Nat.reduceAdd, hvs, he, Int.toNat_natCast]
      have hmem : l.getD i default ∈ l := by
        rw [List.getD_eq_getElem?_getD, List.getElem?_eq_getElem (by omega)]; exact List.getElem_mem _
      refine (hf s _ hmem hJ).mono fun o s' h => ?_
      obtain ⟨⟨b, rfl⟩, hJ'⟩ := h
      simp (disch := omega) only [↓CTL, VAL, Nat.reduceBEq, Nat.reduceAdd]
      refine B_ifb (fun h2 => ?_) (fun h2 => ?_)
      · simp (disch := omega) only [↓CTL, VAL, Nat.reduceBEq, Nat.reduceAdd]
        exact hQ _ _ (by omega) (by omega) hJ'
      · simp (disch := omega) only [↓CTL, VAL, Nat.reduceBEq, Nat.reduceAdd]
        exact ⟨i + 1, rfl, ⟨by omega, hJ'⟩, by omega⟩
    · simp (disch := omega) only [↓CTL, VAL, Nat.reduceBEq, Nat.reduceAdd]
      exact hQ (-1) _ (by omega) (by omega) hJ
def contFunc (i : FuncId) : ACode :=
 .seq (.ops [
   ⟨(some 4), .mv (.c (.bool false)), none, []⟩])
 (.seq (.ops [
   ⟨(some 5), .mv (.t 0), none, []⟩,
   ⟨(some 6), .mv (.t 1), none, []⟩,
   ⟨(some 7), .callF i [(.t 5), (.t 6)], none, []⟩,
   ⟨(some 8), .bin .geq .int (.t 7) (.c (.int .i64 0)), none, []⟩,
   ⟨(some 4), .mv (.t 8), none, []⟩])
 (.ret))
theorem containsFunc_spec {P : Program} (hP : P.follows .mixedOrders = true) {f i : FuncId} (hk : compFunc P f = some (9, contFunc i, [.t 4])) {g : Bool} {m : Nat} (hi : compFunc P i = some (19, idxFunc g m, [.t 4])) {σ : AHeap} {v fv : AVal} {α : Type} [Inhabited α] {l : List α} {r : α → List AVal}
    (hv : TV σ m r v l) (hl : l.length ≤ 4611686018427387904) (el : α → AVal) (he : ∀ x, partA g m 0 (r x) = some (el x)) (p : α → Bool) (hf : ∀ x ∈ l, RunV P fv [el x] σ (fun o s => o = .ret (.bool (p x)) ∧ s = σ))
    {Q : AOut → AHeap → Prop} (hQ : Q (.ret (.bool (l.any p))) σ) : RunV P (.func (.func f) [] []) [v, fv] σ Q := by
  refine RunV.func hP hk (by simp) ?_
  simp (disch := omega) only [contFunc, ↓CTL, VAL, Nat.reduceBEq, Nat.reduceAdd]
  refine indexFunc_spec hP hi hv hl el he p hf fun n h1 h2 h3 h4 => ?_
  simp (disch := omega) only [↓CTL, VAL, Nat.reduceBEq, Nat.reduceAdd]
  have : decide (0 ≤ n) = l.any p := by
    by_cases h : 0 ≤ n
    · rw [decide_eq_true h]
      symm
      rw [List.any_eq_true]
      refine ⟨_, ?_, h3 h⟩
      rw [List.getD_eq_getElem?_getD, List.getElem?_eq_getElem (by omega)]; exact List.getElem_mem _
    · rw [decide_eq_false h]
      symm
      rw [List.any_eq_false]
      intro x hx
      rw [h4 (by omega) x hx]; exact Bool.false_ne_true
  rw [this]
  exact hQ
theorem containsFunc_any {P : Program} (hP : P.follows .mixedOrders = true) {f i : FuncId} (hk : compFunc P f = some (9, contFunc i, [.t 4])) {g : Bool} {m : Nat} (hi : compFunc P i = some (19, idxFunc g m, [.t 4])) {σ : AHeap} {v fv : AVal} {α : Type} [Inhabited α] {l : List α} {r : α → List AVal}
    (hv : TV σ m r v l) (hl : l.length ≤ 4611686018427387904) (el : α → AVal) (he : ∀ x, partA g m 0 (r x) = some (el x)) (hf : ∀ x ∈ l, RunV P fv [el x] σ (fun o s => ∃ b, o = .ret (.bool b) ∧ s = σ))
    {Q : AOut → AHeap → Prop} (hQ : ∀ b, Q (.ret (.bool b)) σ) : RunV P (.func (.func f) [] []) [v, fv] σ Q := by
  have : ∀ x, ∃ b, x ∈ l → RunV P fv [el x] σ (fun o s => o = .ret (.bool b) ∧ s = σ) := fun x => by
    by_cases h : x ∈ l
    · obtain ⟨b, hb⟩ := (hf x h).bool
      exact ⟨b, fun _ => hb⟩
    · exact ⟨true, fun h' => absurd h' h⟩
  exact containsFunc_spec hP hk hi hv hl el he (fun x => Classical.choose (this x)) (fun x hx => Classical.choose_spec (this x) hx) (hQ _)
theorem containsFunc_inv {P : Program} (hP : P.follows .mixedOrders = true) {f i : FuncId} (hk : compFunc P f = some (9, contFunc i, [.t 4])) {g : Bool} {m : Nat} (hi : compFunc P i = some (19, idxFunc g m, [.t 4])) {σ : AHeap} {v fv : AVal} {α : Type} [Inhabited α] {l : List α} {r : α → List AVal}
    (J : AHeap → Prop) (hv : ∀ s, J s → TV s m r v l) (h0 : J σ) (hl : l.length ≤ 4611686018427387904) (el : α → AVal) (he : ∀ x, partA g m 0 (r x) = some (el x)) (hf : ∀ s, ∀ x ∈ l, J s → RunV P fv [el x] s (fun o s' => (∃ b, o = .ret (.bool b)) ∧ J s'))
    {Q : AOut → AHeap → Prop} (hQ : ∀ b s, J s → Q (.ret (.bool b)) s) : RunV P (.func (.func f) [] []) [v, fv] σ Q := by
  refine RunV.func hP hk (by simp) ?_
  simp (disch := omega) only [contFunc, ↓CTL, VAL, Nat.reduceBEq, Nat.reduceAdd]
  refine indexFunc_inv hP hi J hv h0 hl el he hf fun n s h1 h2 h3 => ?_
  simp (disch := omega) only [↓CTL, VAL, Nat.reduceBEq, Nat.reduceAdd]
  exact hQ _ _ h3
def cloneCode (m : Nat) (z : List AVal) (bytes : Nat) : ACode :=
 .seq (.ops [
   ⟨(some 2), .mv (.c .nilS), none, []⟩])
 (.seq (.seq (.ops [
   ⟨(some 3), .mv (.t 0), none, []⟩,
   ⟨(some 4), .bin .eql .slice (.t 3) (.c .nilS), none, []⟩])
 (.cond (.t 4)
  (.seq (.ops [
    ⟨(some 2), .mv (.c .nilS), none, []⟩])
  (.ret))
  (.skip)))
 (.seq (.ops [
   ⟨(some 5), .buildS m z 0 [], none, []⟩,
   ⟨(some 6), .mv (.t 0), none, []⟩,
   ⟨(some 7), .app m bytes (.t 5) (.t 6), none, []⟩,
   ⟨(some 2), .mv (.t 7), none, []⟩])
 (.ret)))
end Go.Tc
namespace Go.Tc
set_option linter.unusedSimpArgs false
structure HoldL (l : List AOper) : Type where
structure HoldA (l : List AOper) (σ : AHeap) : Type where
def drK (P : Program) (l : List AOper) (_ : HoldL l) (rd : Option Nat) (env : AEnv) (σ : AHeap) (Q : AExit → AEnv → AHeap → Prop) (_ : HoldQ Q) : Prop := wpA P (.dr l) rd env σ Q
def psOf (q : List Nat) (l : List AOper) (j k : Nat) : Bool := poss q l (ancs l []) j k
def allP {γ : Type} : List γ → (γ → Prop) → Prop
  | [], _ => True
  | a :: l, p => p a ∧ allP l p
theorem allP_iff {γ : Type} {l : List γ} {p : γ → Prop} : allP l p ↔ ∀ x ∈ l, p x := by
  induction l with
  | nil => simp [allP]
  | cons a l ih => simp [allP, ih]
theorem allP_eq {γ : Type} {l : List γ} {p : γ → Prop} : allP l p = ∀ x ∈ l, p x := propext allP_iff
theorem allP_nil {γ : Type} {p : γ → Prop} : allP [] p = True := id rfl
theorem allP_cons {γ : Type} {a : γ} {l : List γ} {p : γ → Prop} : allP (a :: l) p = (p a ∧ allP l p) := id rfl
structure HoldPs (ps : Nat → Nat → Bool) : Type where
def dK (P : Program) (q st : List Nat) (ps : Nat → Nat → Bool) (_ : HoldPs ps) (i : Nat) (l : List AOper) (env : AEnv) (σ : AHeap) (past : List (Nat × AHeap)) (pend : List (Nat × AOp × AEnv × AVal)) (K : AEnv → AHeap → Prop) (X : Nat → AVal → AHeap → Prop) : Prop :=
  wpDr P q st ps i l env σ past pend K X
section
variable {P : Program} {rd : Option Nat} {q st : List Nat} {ps : Nat → Nat → Bool} {i : Nat} {os l : List AOper} {d : Option Nat} {a : List Nat} {env : AEnv} {σ : AHeap} {past : List (Nat × AHeap)} {pend : List (Nat × AOp × AEnv × AVal)} {K : AEnv → AHeap → Prop} {X : Nat → AVal → AHeap → Prop} {Q : AExit → AEnv → AHeap → Prop}
theorem A_drK : wpA P (.dr l) rd env σ Q = drK P l {} rd env σ Q {} := id rfl
theorem dr_go (q st : List Nat) (h : drOk q st l = true) (hw : dK P q st (psOf q l) {} 0 l env σ [(0, σ)] [] (fun env' σ' => Q .normal env' σ') (fun i v σ' => panOk q l i = true ∧ Q (.panic v) (env.junk (dstsOf l)) σ')) : drK P l {} rd env σ Q {} := ⟨q, st, h, hw⟩
theorem same_load {g : Bool} {n : Nat} {x : Opnd} {v : AVal} : Same P (.load g n x) env σ v = (loadA σ g n (env.ev x) = some v) := by
  simp only [Same, OpW, o_load]
  cases loadA σ g n (env.ev x) <;> simp
theorem same_look {kt : KT} {z : AVal} {x y : Opnd} {ok : Bool} {v : AVal} : Same P (.look kt z x y ok) env σ v = (lookV σ kt z (env.ev x) (env.ev y) ok = some v) := by
  simp only [Same, OpW, p_look]
  cases lookV σ kt z (env.ev x) (env.ev y) ok <;> simp
def sameC (P : Program) (fv : AVal) (zs : List AVal) (σ : AHeap) (v : AVal) : Prop := RunV P fv zs σ (fun o s => o = .ret v ∧ s = σ)
theorem same_callF {f : FuncId} {xs : List Opnd} {v : AVal} : Same P (.callF f xs) env σ v = sameC P (.func (.func f) [] []) (xs.map env.ev) σ v := by
  simp only [Same, OpW, sameC]
  congr 1
  funext o s
  cases o <;> simp [outK]
theorem same_callV {f : Opnd} {xs : List Opnd} {v : AVal} : Same P (.callV f xs) env σ v = sameC P (env.ev f) (xs.map env.ev) σ v := by
  simp only [Same, OpW, sameC]
  congr 1
  funext o s
  cases o <;> simp [outK]
theorem DD_nil : dK P q st ps {} i [] env σ past pend K X = K env σ := id rfl
theorem DD_guardK {op : AOp} {t : Nat} {b : Bool} : dK P q st ps {} i (⟨d, op, some (t, b), a⟩ :: os) env σ past pend K X =
    guardK (env.t t) b (dK P q st ps {} i (⟨d, op, none, a⟩ :: os) env σ past pend K X)
      ((effOf (q.contains i) op = .wr → ∀ p ∈ pend, ps p.1 (i + 1) = true → Same P p.2.1 p.2.2.1 σ p.2.2.2) ∧ dK P q st ps {} (i + 1) os (env.put d (.tup [])) σ (if effOf (q.contains i) op = .wr then (i + 1, σ) :: past else past) pend K X) {} {} := by
  simp only [dK, wpDr, gOk, guardK]
  cases env.t t with
  | bool v => cases v <;> cases b <;> rfl
  | tup vs => cases vs <;> rfl
  | _ => rfl
theorem DD_rd {op : AOp} (h : plainOp op = true) (he : effOf (q.contains i) op = .rd) {o : Option AVal} (ho : opA op env σ = o.map (·, σ)) : dK P q st ps {} i (⟨d, op, none, a⟩ :: os) env σ past pend K X =
    k1 o σ (fun v _ => bif st.contains i then allP past (fun p => ps i p.1 = true → Same P op env p.2 v) ∧ dK P q st ps {} (i + 1) os (env.put d v) σ past ((i, op, env, v) :: pend) K X
      else dK P q st ps {} (i + 1) os (env.put d v) σ past pend K X) {} := by
  simp only [dK, wpDr, gOk, OpW_plain h, he, ho, isSt]
  cases o with
  | none => rfl
  | some v =>
    simp only [m2, k1, Option.map_some, allP_eq]
    cases st.contains i <;> simp
theorem DD_wr {op : AOp} (h : plainOp op = true) (he : effOf (q.contains i) op = .wr) {o : Option (AVal × AHeap)} (ho : opA op env σ = o) : dK P q st ps {} i (⟨d, op, none, a⟩ :: os) env σ past pend K X =
    k2 o (fun v σ' => allP pend (fun p => ps p.1 (i + 1) = true → Same P p.2.1 p.2.2.1 σ' p.2.2.2) ∧ dK P q st ps {} (i + 1) os (env.put d v) σ' ((i + 1, σ') :: past) pend K X) {} := by
  simp only [dK, D_wr h he, ho]
  cases o with
  | none => rfl
  | some v => simp only [m2, k2, allP_eq]
theorem DD_no {op : AOp} (h : plainOp op = true) (he : effOf (q.contains i) op = .no) {o : Option AVal} (ho : opA op env σ = o.map (·, σ)) : dK P q st ps {} i (⟨d, op, none, a⟩ :: os) env σ past pend K X =
    k1 o σ (fun v σ' => dK P q st ps {} (i + 1) os (env.put d v) σ' past pend K X) {} := by
  simp only [dK, D_no h he, ho, m2_k1]
theorem DD_callF {f : FuncId} {xs : List Opnd} : dK P q st ps {} i (⟨d, .callF f xs, none, a⟩ :: os) env σ past pend K X =
    callK P (.func (.func f) [] []) (xs.map env.ev) σ (fun v σ' => bif q.contains i then σ' = σ ∧ (bif st.contains i then allP past (fun p => ps i p.1 = true → Same P (.callF f xs) env p.2 v) ∧ dK P q st ps {} (i + 1) os (env.put d v) σ past ((i, .callF f xs, env, v) :: pend) K X
      else dK P q st ps {} (i + 1) os (env.put d v) σ past pend K X)
      else allP pend (fun p => ps p.1 (i + 1) = true → Same P p.2.1 p.2.2.1 σ' p.2.2.2) ∧ dK P q st ps {} (i + 1) os (env.put d v) σ' ((i + 1, σ') :: past) pend K X) (fun v σ' => X i v σ') {} {} := by
  simp only [dK, wpDr, gOk, OpW, callK]
  congr 1
  funext o s
  cases o with
  | panic v => rfl
  | ret v =>
    simp only [outK, effOf, isSt, allP_eq]
    by_cases hq : q.contains i = true
    · simp only [hq, if_true, cond_true]
      cases hs : st.contains i <;> simp
      all_goals
        intro h; subst h; simp
    · have hq' : q.contains i = false := by simpa using hq
      simp only [hq', cond_false, Bool.false_eq_true, if_false]
      simp
theorem DD_callV {f : Opnd} {xs : List Opnd} : dK P q st ps {} i (⟨d, .callV f xs, none, a⟩ :: os) env σ past pend K X =
    callK P (env.ev f) (xs.map env.ev) σ (fun v σ' => bif q.contains i then σ' = σ ∧ (bif st.contains i then allP past (fun p => ps i p.1 = true → Same P (.callV f xs) env p.2 v) ∧ dK P q st ps {} (i + 1) os (env.put d v) σ past ((i, .callV f xs, env, v) :: pend) K X
      else dK P q st ps {} (i + 1) os (env.put d v) σ past pend K X)
      else allP pend (fun p => ps p.1 (i + 1) = true → Same P p.2.1 p.2.2.1 σ' p.2.2.2) ∧ dK P q st ps {} (i + 1) os (env.put d v) σ' ((i + 1, σ') :: past) pend K X) (fun v σ' => X i v σ') {} {} := by
  simp only [dK, wpDr, gOk, OpW, callK]
  congr 1
  funext o s
  cases o with
  | panic v => rfl
  | ret v =>
    simp only [outK, effOf, isSt, allP_eq]
    by_cases hq : q.contains i = true
    · simp only [hq, if_true, cond_true]
      cases hs : st.contains i <;> simp
      all_goals
        intro h; subst h; simp
    · have hq' : q.contains i = false := by simpa using hq
      simp only [hq', cond_false, Bool.false_eq_true, if_false]
      simp
theorem D_mv' {x : Opnd} : dK P q st ps {} i (⟨d, .mv x, none, a⟩ :: os) env σ past pend K X = k1 (some (env.ev x)) σ (fun v σ' => dK P q st ps {} (i + 1) os (env.put d v) σ' past pend K X) {} :=
  DD_no pl_mv rfl (by rw [o_mv]; rfl)
theorem D_pick' {c x y : Opnd} : dK P q st ps {} i (⟨d, .pick c x y, none, a⟩ :: os) env σ past pend K X = k1 (pickV (env.ev c) (env.ev x) (env.ev y)) σ (fun v σ' => dK P q st ps {} (i + 1) os (env.put d v) σ' past pend K X) {} :=
  DD_no pl_pick rfl (by rw [p_pick])
theorem D_build' {z : List AVal} {parts : List (Nat × Nat × Opnd)} : dK P q st ps {} i (⟨d, .build z parts, none, a⟩ :: os) env σ past pend K X = k1 ((fillA z (parts.map fun p => (p.1, p.2.1, env.ev p.2.2))).map .agg) σ (fun v σ' => dK P q st ps {} (i + 1) os (env.put d v) σ' past pend K X) {} :=
  DD_no pl_build rfl (by rw [o_build])
theorem D_nilck' {x : Opnd} : dK P q st ps {} i (⟨d, .nilck x, none, a⟩ :: os) env σ past pend K X = k1 (nilV (env.ev x)) σ (fun v σ' => dK P q st ps {} (i + 1) os (env.put d v) σ' past pend K X) {} :=
  DD_no pl_nilck rfl (by rw [p_nilck])
theorem D_bin' {op : BinOp} {e : EqT} {x y : Opnd} : dK P q st ps {} i (⟨d, .bin op e x y, none, a⟩ :: os) env σ past pend K X = k1 (binA op e (env.ev x) (env.ev y)) σ (fun v σ' => dK P q st ps {} (i + 1) os (env.put d v) σ' past pend K X) {} :=
  DD_no pl_bin rfl (by rw [o_bin])
theorem D_un' {op : UnOp} {x : Opnd} : dK P q st ps {} i (⟨d, .un op x, none, a⟩ :: os) env σ past pend K X = k1 (unA op (env.ev x)) σ (fun v σ' => dK P q st ps {} (i + 1) os (env.put d v) σ' past pend K X) {} :=
  DD_no pl_un rfl (by rw [o_un])
theorem D_conv' {c : Cv} {x : Opnd} : dK P q st ps {} i (⟨d, .conv c x, none, a⟩ :: os) env σ past pend K X = k1 (convV c (env.ev x)) σ (fun v σ' => dK P q st ps {} (i + 1) os (env.put d v) σ' past pend K X) {} :=
  DD_no pl_conv rfl (by rw [p_conv])
theorem D_mkI' {t : TypeId} {x : Opnd} : dK P q st ps {} i (⟨d, .mkI t x, none, a⟩ :: os) env σ past pend K X = k1 (some (.iface t (env.ev x))) σ (fun v σ' => dK P q st ps {} (i + 1) os (env.put d v) σ' past pend K X) {} :=
  DD_no pl_mkI rfl (by rw [o_mkI]; rfl)
theorem D_mkF' {fn : Fn} {xs ys : List Opnd} : dK P q st ps {} i (⟨d, .mkF fn xs ys, none, a⟩ :: os) env σ past pend K X = k1 (some (.func fn (xs.map env.ev) (ys.map env.ev))) σ (fun v σ' => dK P q st ps {} (i + 1) os (env.put d v) σ' past pend K X) {} :=
  DD_no pl_mkF rfl (by rw [o_mkF]; rfl)
theorem D_slS' {m : Nat} {x : Opnd} {lo hi mx : Option Opnd} : dK P q st ps {} i (⟨d, .slS m x lo hi mx, none, a⟩ :: os) env σ past pend K X = k1 (sliceA m (env.ev x) (lo.map env.ev) (hi.map env.ev) (mx.map env.ev)) σ (fun v σ' => dK P q st ps {} (i + 1) os (env.put d v) σ' past pend K X) {} :=
  DD_no pl_slS rfl (by rw [o_slS])
theorem D_slA' {n m : Nat} {x : Opnd} : dK P q st ps {} i (⟨d, .slA n m x none none, none, a⟩ :: os) env σ past pend K X = k1 (slAA n m (env.ev x)) σ (fun v σ' => dK P q st ps {} (i + 1) os (env.put d v) σ' past pend K X) {} :=
  DD_no pl_slA rfl (by rw [p_slA])
theorem D_fa' {off : Nat} {x : Opnd} : dK P q st ps {} i (⟨d, .fa off x, none, a⟩ :: os) env σ past pend K X = k1 (addrOf off (env.ev x)) σ (fun v σ' => dK P q st ps {} (i + 1) os (env.put d v) σ' past pend K X) {} :=
  DD_no pl_fa rfl (by rw [o_fa])
theorem D_fld' {g : Bool} {n off : Nat} {x : Opnd} : dK P q st ps {} i (⟨d, .fld g n off x, none, a⟩ :: os) env σ past pend K X = k1 (fldV g n off (env.ev x)) σ (fun v σ' => dK P q st ps {} (i + 1) os (env.put d v) σ' past pend K X) {} :=
  DD_no pl_fld rfl (by rw [p_fld])
theorem D_ixA' {l m : Nat} {x j : Opnd} : dK P q st ps {} i (⟨d, .ixA l m x j, none, a⟩ :: os) env σ past pend K X = k1 (ixAV l m (env.ev x) (env.ev j)) σ (fun v σ' => dK P q st ps {} (i + 1) os (env.put d v) σ' past pend K X) {} :=
  DD_no pl_ixA rfl (by rw [p_ixA])
theorem D_ixS' {m : Nat} {x j : Opnd} : dK P q st ps {} i (⟨d, .ixS m x j, none, a⟩ :: os) env σ past pend K X = k1 (ixSV m (env.ev x) (env.ev j)) σ (fun v σ' => dK P q st ps {} (i + 1) os (env.put d v) σ' past pend K X) {} :=
  DD_no pl_ixS rfl (by rw [p_ixS])
theorem D_ixStr' {x j : Opnd} : dK P q st ps {} i (⟨d, .ixStr x j, none, a⟩ :: os) env σ past pend K X = k1 (ixStrV (env.ev x) (env.ev j)) σ (fun v σ' => dK P q st ps {} (i + 1) os (env.put d v) σ' past pend K X) {} :=
  DD_no pl_ixStr rfl (by rw [p_ixStr])
theorem D_ext' {x : Opnd} {j : Nat} : dK P q st ps {} i (⟨d, .ext x j, none, a⟩ :: os) env σ past pend K X = k1 (extV (env.ev x) j) σ (fun v σ' => dK P q st ps {} (i + 1) os (env.put d v) σ' past pend K X) {} :=
  DD_no pl_ext rfl (by rw [p_ext])
theorem D_lenStr' {x : Opnd} : dK P q st ps {} i (⟨d, .lenStr x, none, a⟩ :: os) env σ past pend K X = k1 (lenStrV (env.ev x)) σ (fun v σ' => dK P q st ps {} (i + 1) os (env.put d v) σ' past pend K X) {} :=
  DD_no pl_lenStr rfl (by rw [p_lenStr])
theorem D_lenS' {x : Opnd} : dK P q st ps {} i (⟨d, .lenS x, none, a⟩ :: os) env σ past pend K X = k1 ((lenOfS (env.ev x)).map fun n : Nat => AVal.int .i64 (n : Int)) σ (fun v σ' => dK P q st ps {} (i + 1) os (env.put d v) σ' past pend K X) {} :=
  DD_no pl_lenS rfl (by rw [o_lenS])
theorem D_lenA' {n : Nat} : dK P q st ps {} i (⟨d, .lenA n, none, a⟩ :: os) env σ past pend K X = k1 (some (.int .i64 n)) σ (fun v σ' => dK P q st ps {} (i + 1) os (env.put d v) σ' past pend K X) {} :=
  DD_no pl_lenA rfl (by rw [p_lenA]; rfl)
theorem D_mx' {x y : Opnd} : dK P q st ps {} i (⟨d, .mx [x, y], none, a⟩ :: os) env σ past pend K X = k1 (maxI (env.ev x) (env.ev y)) σ (fun v σ' => dK P q st ps {} (i + 1) os (env.put d v) σ' past pend K X) {} :=
  DD_no pl_mx rfl (by rw [p_mx2])
theorem D_mn' {x y : Opnd} : dK P q st ps {} i (⟨d, .mn [x, y], none, a⟩ :: os) env σ past pend K X = k1 (minI (env.ev x) (env.ev y)) σ (fun v σ' => dK P q st ps {} (i + 1) os (env.put d v) σ' past pend K X) {} :=
  DD_no pl_mn rfl (by rw [p_mn2])
theorem D_load' {g : Bool} {n : Nat} {x : Opnd} : dK P q st ps {} i (⟨d, .load g n x, none, a⟩ :: os) env σ past pend K X = k1 (loadA σ g n (env.ev x)) σ (fun v _ => bif st.contains i then allP past (fun p => ps i p.1 = true → Same P (.load g n x) env p.2 v) ∧ dK P q st ps {} (i + 1) os (env.put d v) σ past ((i, .load g n x, env, v) :: pend) K X
      else dK P q st ps {} (i + 1) os (env.put d v) σ past pend K X) {} :=
  DD_rd pl_load rfl (by rw [o_load])
theorem D_look' {kt : KT} {z : AVal} {x y : Opnd} {ok : Bool} : dK P q st ps {} i (⟨d, .look kt z x y ok, none, a⟩ :: os) env σ past pend K X = k1 (lookV σ kt z (env.ev x) (env.ev y) ok) σ (fun v _ => bif st.contains i then allP past (fun p => ps i p.1 = true → Same P (.look kt z x y ok) env p.2 v) ∧ dK P q st ps {} (i + 1) os (env.put d v) σ past ((i, .look kt z x y ok, env, v) :: pend) K X
      else dK P q st ps {} (i + 1) os (env.put d v) σ past pend K X) {} :=
  DD_rd pl_look rfl (by rw [p_look])
theorem D_lenM' {x : Opnd} : dK P q st ps {} i (⟨d, .lenM x, none, a⟩ :: os) env σ past pend K X = k1 ((mapLen σ (env.ev x)).map fun n : Nat => AVal.int .i64 (n : Int)) σ (fun v _ => bif st.contains i then allP past (fun p => ps i p.1 = true → Same P (.lenM x) env p.2 v) ∧ dK P q st ps {} (i + 1) os (env.put d v) σ past ((i, .lenM x, env, v) :: pend) K X
      else dK P q st ps {} (i + 1) os (env.put d v) σ past pend K X) {} :=
  DD_rd pl_lenM rfl (by rw [p_lenM])
theorem D_alloc' {z : List AVal} : dK P q st ps {} i (⟨d, .alloc z, none, a⟩ :: os) env σ past pend K X = k2 (some (.ptr σ.next 0 0, σ.alloc (.cells z.length [z]))) (fun v σ' => allP pend (fun p => ps p.1 (i + 1) = true → Same P p.2.1 p.2.2.1 σ' p.2.2.2) ∧ dK P q st ps {} (i + 1) os (env.put d v) σ' ((i + 1, σ') :: past) pend K X) {} :=
  DD_wr pl_alloc rfl (by rw [o_alloc])
theorem D_box' {x : Opnd} : dK P q st ps {} i (⟨d, .box x, none, a⟩ :: os) env σ past pend K X = k2 (boxV (env.ev x) σ) (fun v σ' => allP pend (fun p => ps p.1 (i + 1) = true → Same P p.2.1 p.2.2.1 σ' p.2.2.2) ∧ dK P q st ps {} (i + 1) os (env.put d v) σ' ((i + 1, σ') :: past) pend K X) {} :=
  DD_wr pl_box rfl (by rw [p_box])
theorem D_store' {n : Nat} {x y : Opnd} : dK P q st ps {} i (⟨d, .store n x y, none, a⟩ :: os) env σ past pend K X = k2 ((storeA σ n (env.ev x) (env.ev y)).map (AVal.tup [], ·)) (fun v σ' => allP pend (fun p => ps p.1 (i + 1) = true → Same P p.2.1 p.2.2.1 σ' p.2.2.2) ∧ dK P q st ps {} (i + 1) os (env.put d v) σ' ((i + 1, σ') :: past) pend K X) {} :=
  DD_wr pl_store rfl (by rw [o_store])
theorem D_mkM' {kt : KT} : dK P q st ps {} i (⟨d, .mkM kt, none, a⟩ :: os) env σ past pend K X = k2 (some (.map σ.next, σ.alloc (.map kt (fun _ => none) 0))) (fun v σ' => allP pend (fun p => ps p.1 (i + 1) = true → Same P p.2.1 p.2.2.1 σ' p.2.2.2) ∧ dK P q st ps {} (i + 1) os (env.put d v) σ' ((i + 1, σ') :: past) pend K X) {} :=
  DD_wr pl_mkM rfl (by rw [o_mkM])
theorem D_mkS' {z : List AVal} {b : Nat} {l c : Opnd} : dK P q st ps {} i (⟨d, .mkS z b l c, none, a⟩ :: os) env σ past pend K X = k2 (mkSV z b (env.ev l) (env.ev c) σ) (fun v σ' => allP pend (fun p => ps p.1 (i + 1) = true → Same P p.2.1 p.2.2.1 σ' p.2.2.2) ∧ dK P q st ps {} (i + 1) os (env.put d v) σ' ((i + 1, σ') :: past) pend K X) {} :=
  DD_wr pl_mkS rfl (by rw [p_mkS])
theorem D_upd' {kt : KT} {m y x : Opnd} : dK P q st ps {} i (⟨d, .upd kt m y x, none, a⟩ :: os) env σ past pend K X = k2 (updV σ kt (env.ev m) (env.ev y) (env.ev x)) (fun v σ' => allP pend (fun p => ps p.1 (i + 1) = true → Same P p.2.1 p.2.2.1 σ' p.2.2.2) ∧ dK P q st ps {} (i + 1) os (env.put d v) σ' ((i + 1, σ') :: past) pend K X) {} :=
  DD_wr pl_upd rfl (by rw [p_upd])
theorem D_app' {m b : Nat} {s x : Opnd} : dK P q st ps {} i (⟨d, .app m b s x, none, a⟩ :: os) env σ past pend K X = k2 (appA σ m b (env.ev s) (env.ev x)) (fun v σ' => allP pend (fun p => ps p.1 (i + 1) = true → Same P p.2.1 p.2.2.1 σ' p.2.2.2) ∧ dK P q st ps {} (i + 1) os (env.put d v) σ' ((i + 1, σ') :: past) pend K X) {} :=
  DD_wr pl_app rfl (by rw [o_app])
theorem D_cpy' {m : Nat} {s x : Opnd} : dK P q st ps {} i (⟨d, .cpy m s x, none, a⟩ :: os) env σ past pend K X = k2 (cpyA σ m (env.ev s) (env.ev x)) (fun v σ' => allP pend (fun p => ps p.1 (i + 1) = true → Same P p.2.1 p.2.2.1 σ' p.2.2.2) ∧ dK P q st ps {} (i + 1) os (env.put d v) σ' ((i + 1, σ') :: past) pend K X) {} :=
  DD_wr pl_cpy rfl (by rw [o_cpy])
theorem D_buildS' {m : Nat} {z : List AVal} {len : Nat} {parts : List (Nat × Opnd)} : dK P q st ps {} i (⟨d, .buildS m z len parts, none, a⟩ :: os) env σ past pend K X = k2 ((fillRows m (List.replicate len z) (parts.map fun p => (p.1, env.ev p.2))).map (fun rows => (AVal.ms m σ.next 0 len true, σ.alloc (.cells m rows)))) (fun v σ' => allP pend (fun p => ps p.1 (i + 1) = true → Same P p.2.1 p.2.2.1 σ' p.2.2.2) ∧ dK P q st ps {} (i + 1) os (env.put d v) σ' ((i + 1, σ') :: past) pend K X) {} :=
  DD_wr pl_buildS rfl (by rw [p_buildS])
theorem imp_true {A : Prop} : (A → True) = True := by simp
end
theorem DRW : type_of% (And.intro @A_drK (And.intro @DD_nil (And.intro @DD_guardK (And.intro @DD_callF (And.intro @DD_callV (And.intro @D_mv' (And.intro @D_pick' (And.intro @D_build' (And.intro @D_nilck' (And.intro @D_bin' (And.intro @D_un' (And.intro @D_conv' (And.intro @D_mkI' (And.intro @D_mkF' (And.intro @D_slS' (And.intro @D_slA' (And.intro @D_fa' (And.intro @D_fld' (And.intro @D_ixA' (And.intro @D_ixS' (And.intro @D_ixStr' (And.intro @D_ext' (And.intro @D_lenStr' (And.intro @D_lenS' (And.intro @D_lenA' (And.intro @D_mx' (And.intro @D_mn' (And.intro @D_load' (And.intro @D_look' (And.intro @D_lenM' (And.intro @D_alloc' (And.intro @D_box' (And.intro @D_store' (And.intro @D_mkM' (And.intro @D_mkS' (And.intro @D_upd' (And.intro @D_app' (And.intro @D_cpy' (@D_buildS'))))))))))))))))))))))))))))))))))))))) :=
  And.intro @A_drK (And.intro @DD_nil (And.intro @DD_guardK (And.intro @DD_callF (And.intro @DD_callV (And.intro @D_mv' (And.intro @D_pick' (And.intro @D_build' (And.intro @D_nilck' (And.intro @D_bin' (And.intro @D_un' (And.intro @D_conv' (And.intro @D_mkI' (And.intro @D_mkF' (And.intro @D_slS' (And.intro @D_slA' (And.intro @D_fa' (And.intro @D_fld' (And.intro @D_ixA' (And.intro @D_ixS' (And.intro @D_ixStr' (And.intro @D_ext' (And.intro @D_lenStr' (And.intro @D_lenS' (And.intro @D_lenA' (And.intro @D_mx' (And.intro @D_mn' (And.intro @D_load' (And.intro @D_look' (And.intro @D_lenM' (And.intro @D_alloc' (And.intro @D_box' (And.intro @D_store' (And.intro @D_mkM' (And.intro @D_mkS' (And.intro @D_upd' (And.intro @D_app' (And.intro @D_cpy' (@D_buildS'))))))))))))))))))))))))))))))))))))))
theorem DRV : type_of% (And.intro @same_load (And.intro @same_look (And.intro @same_callF (And.intro @same_callV (And.intro @allP_nil (And.intro @allP_cons (@imp_true))))))) :=
  And.intro @same_load (And.intro @same_look (And.intro @same_callF (And.intro @same_callV (And.intro @allP_nil (And.intro @allP_cons (@imp_true))))))
end Go.Tc
namespace Go.Tc
set_option linter.unusedSimpArgs false
def OwnS {α : Type} (s : AHeap) (b m : Nat) (f : α → List AVal) (v : AVal) (l : List α) : Prop :=
  (v = .nilS ∧ l = []) ∨ ∃ N ex, v = .ms m N 0 l.length ex ∧ b ≤ N ∧ N < s.next ∧ s.objs N = some (.cells m (l.map f))
def Off (v : AVal) (M : Nat) : Prop := ∀ m i len ex, v ≠ .ms m M i len ex
section
variable {α : Type} {s s' : AHeap} {b m : Nat} {f : α → List AVal} {v : AVal} {l : List α}
theorem OwnS.nil : OwnS s b m f .nilS ([] : List α) := .inl ⟨rfl, rfl⟩
theorem OwnS.keep (h : OwnS s b m f v l) (hn : s.next ≤ s'.next) (hk : ∀ M, b ≤ M → M < s.next → ¬ Off v M → s'.objs M = s.objs M) : OwnS s' b m f v l := by
  rcases h with h | ⟨N, ex, rfl, h1, h2, h3⟩
  · exact .inl h
  · refine .inr ⟨N, ex, rfl, h1, Nat.lt_of_lt_of_le h2 hn, ?_⟩
    rw [hk N h1 h2 fun h => h _ _ _ _ rfl]; exact h3
theorem OwnS.weak (h : OwnS s b m f v l) {c : Nat} (hc : c ≤ b) : OwnS s c m f v l := by
  rcases h with h | ⟨N, ex, h0, h1, h2, h3⟩
  · exact .inl h
  · exact .inr ⟨N, ex, h0, Nat.le_trans hc h1, h2, h3⟩
theorem OwnS.ext (h : OwnS s b m f v l) (hE : Ext s s') : OwnS s' b m f v l := h.keep hE.1 fun M _ hM _ => hE.2 M hM
theorem OwnS.alloc (h : OwnS s b m f v l) (o : AObj) : OwnS (s.alloc o) b m f v l := h.ext ((Ext.refl _).alloc _)
theorem OwnS.set (h : OwnS s b m f v l) {M : Nat} (hM : Off v M) (o : AObj) : OwnS (s.set M o) b m f v l := by
  refine h.keep (Nat.le_refl _) fun K _ _ hK => ?_
  rw [objs_else]
  rintro rfl
  exact hK hM
theorem OwnS.kill (h : OwnS s b m f v l) {M : Nat} (hM : Off v M) : OwnS (s.kill M) b m f v l := by
  refine h.keep (Nat.le_refl _) fun K _ _ hK => ?_
  rw [AHeap.objs_kill, if_neg]
  rintro rfl
  exact hK hM
theorem OwnS.tv [Inhabited α] (h : OwnS s b m f v l) : TV s m f v l := by
  rcases h with ⟨rfl, rfl⟩ | ⟨N, ex, rfl, h1, h2, h3⟩
  · exact .nil
  · exact .ms h3 (by omega) (by simp)
theorem OwnS.one (h : OwnS s b m f v l) : v.one = true := by
  rcases h with ⟨rfl, rfl⟩ | ⟨N, ex, rfl, h1, h2, h3⟩ <;> rfl
theorem OwnS.len (h : OwnS s b m f v l) : lenOfS v = some l.length := by
  rcases h with ⟨rfl, rfl⟩ | ⟨N, ex, rfl, h1, h2, h3⟩ <;> rfl
theorem OwnS.off_new (h : OwnS s b m f v l) {M : Nat} (hM : s.next ≤ M) : Off v M := by
  rcases h with ⟨rfl, rfl⟩ | ⟨N, ex, rfl, h1, h2, h3⟩
  · intro _ _ _ _ h; cases h
  · intro _ _ _ _ h; cases h; omega
theorem OwnS.off_old (h : OwnS s b m f v l) {M : Nat} (hM : M < b) : Off v M := by
  rcases h with ⟨rfl, rfl⟩ | ⟨N, ex, rfl, h1, h2, h3⟩
  · intro _ _ _ _ h; cases h
  · intro _ _ _ _ h; cases h; omega
theorem OwnS.elems (h : OwnS s b m f v l) : elems s m v = some (l.map f) := by
  rcases h with ⟨rfl, rfl⟩ | ⟨N, ex, rfl, h1, h2, h3⟩
  · rfl
  · simp only [Go.Tc.elems, if_true]
    by_cases h0 : l.length = 0
    · rw [if_pos h0, List.length_eq_zero_iff.1 h0]; rfl
    · rw [if_neg h0, h3]
      simp only [List.length_map, Nat.zero_add, Nat.le_refl, if_true, List.drop_zero]
      rw [List.take_of_length_le (by simp)]
theorem OwnS.app (h : OwnS s b m f v l) {bytes : Nat} {w : AVal} {xs : List α} (hw : Go.Tc.elems s m w = some (xs.map f)) (hb : b ≤ s.next) (hs : sumLen l.length xs.length bytes = true) :
    ∃ v' s', appA s m bytes v w = some (v', s') ∧ OwnS s' b m f v' (l ++ xs) ∧ s.next ≤ s'.next ∧ (∀ M, M < s.next → Off v M → s'.objs M = s.objs M) ∧ (∀ M, M < s.next → Off v M → Off v' M) := by
  have hel := h.elems
  by_cases hx : xs.length = 0
  · have : xs = [] := List.length_eq_zero_iff.1 hx
    subst this
    refine ⟨v, s, ?_, by simpa using h, Nat.le_refl _, fun _ _ _ => rfl, fun _ _ h => h⟩
    rcases h with ⟨rfl, rfl⟩ | ⟨N, ex, rfl, h1, h2, h3⟩ <;> simp [appA, hw]
  · have hxm : (xs.map f).length ≠ 0 := by simpa using hx
    rcases h with ⟨rfl, rfl⟩ | ⟨N, ex, rfl, h1, h2, h3⟩
    · have hs' : sumLen 0 (xs.map f).length bytes = true := by simpa using hs
      refine ⟨.ms m s.next 0 (xs.map f).length false, s.alloc (.cells m (xs.map f)), by simp only [appA, hw, if_neg hxm, hs', if_true], .inr ⟨s.next, false, by simp, hb, by simp, by rw [objs_new rfl]; simp⟩, by simp,
        fun M hM _ => objs_old (by omega), fun M hM _ _ _ _ _ h => by cases h; omega⟩
    · have hs' : sumLen l.length (xs.map f).length bytes = true := by simpa using hs
      cases ex with
      | true =>
        refine ⟨.ms m s.next 0 (l.length + (xs.map f).length) false, s.alloc (.cells m (l.map f ++ xs.map f)), by simp only [appA, hw, if_neg hxm, h3, hel, hs', and_self, if_true], .inr ⟨s.next, false, by simp, hb, by simp, by rw [objs_new rfl]; simp⟩, by simp,
          fun M hM _ => objs_old (by omega), fun M hM _ _ _ _ _ h => by cases h; omega⟩
      | false =>
        refine ⟨.ms m s.next 0 (l.length + (xs.map f).length) false, (s.kill N).alloc (.cells m (l.map f ++ xs.map f)), by simp only [appA, hw, if_neg hxm, h3, hel, hs', and_self, if_true]; rfl, .inr ⟨s.next, false, by simp, hb, by simp, by rw [objs_new (σ := s.kill N) (N := s.next) rfl]; simp⟩, by simp,
          fun M hM hO => ?_, fun M hM _ _ _ _ _ h => by cases h; omega⟩
        rw [objs_old (by simpa using Nat.ne_of_lt hM), AHeap.objs_kill, if_neg]
        rintro rfl
        exact hO _ _ _ _ rfl
theorem sumLen_ok {a c bytes : Nat} (h : (a + c) * bytes ≤ 70368744177664) (h2 : a + c ≤ 4611686018427387904) : sumLen a c bytes = true := by simp [sumLen, h, h2]
theorem elems_one {N : Nat} {row : List AVal} {ex : Bool} (h : s.objs N = some (.cells m [row])) : Go.Tc.elems s m (.ms m N 0 1 ex) = some [row] := by
  simp [Go.Tc.elems, h]
end
theorem fillRows_nil {m : Nat} {rows : List (List AVal)} : fillRows m rows [] = some rows := id rfl
theorem fillRows_agg {m i : Nat} {rows : List (List AVal)} {vs : List AVal} {rest : List (Nat × AVal)} :
    fillRows m rows ((i, .agg vs) :: rest) = bif vs.length == m && Nat.ble (i + 1) rows.length && vs.all AVal.one then fillRows m (rows.set i vs) rest else none := by
  exact ite_bif (p := (AVal.agg vs).cells.length = m ∧ i + 1 ≤ rows.length ∧ (AVal.agg vs).cells.all AVal.one = true) (by simp [AVal.cells, Nat.ble_eq, and_assoc])
def fillRows' (m i : Nat) (rows : List (List AVal)) (v : AVal) (rest : List (Nat × AVal)) : Option (List (List AVal)) := fillRows m rows ((i, v) :: rest)
theorem fillRows_c {m i : Nat} {rows : List (List AVal)} {v : AVal} {rest : List (Nat × AVal)} :
    fillRows m rows ((i, v) :: rest) = bif v.one && m == 1 && Nat.ble (i + 1) rows.length then fillRows m (rows.set i [v]) rest else fillRows' m i rows v rest := by
  cases h : v.one && m == 1 && Nat.ble (i + 1) rows.length with
  | false => rfl
  | true =>
    simp only [Bool.and_eq_true, beq_iff_eq, Nat.ble_eq] at h
    obtain ⟨⟨h1, rfl⟩, h2⟩ := h
    simp only [fillRows, cells_one h1, List.length_cons, List.length_nil, List.all_cons, List.all_nil, h1, Bool.and_true, Nat.zero_add, show i < rows.length from h2, and_self, if_true, cond_true]
theorem fillRows'_agg {m i : Nat} {rows : List (List AVal)} {vs : List AVal} {rest : List (Nat × AVal)} :
    fillRows' m i rows (.agg vs) rest = bif vs.length == m && Nat.ble (i + 1) rows.length && vs.all AVal.one then fillRows m (rows.set i vs) rest else none := fillRows_agg
theorem rep_zero {z : List AVal} : List.replicate 0 z = [] := id rfl
theorem rep_succ {z : List AVal} {n : Nat} : List.replicate (n + 1) z = z :: List.replicate n z := id rfl
theorem FILL : type_of% (And.intro @fillRows_nil (And.intro @fillRows_c (And.intro @fillRows'_agg (And.intro @rep_zero @rep_succ)))) := And.intro @fillRows_nil (And.intro @fillRows_c (And.intro @fillRows'_agg (And.intro @rep_zero @rep_succ)))
end Go.Tc
namespace Go.Tc
theorem TV.ext {α : Type} [Inhabited α] {σ s : AHeap} {m : Nat} {f : α → List AVal} {v : AVal} {l : List α} (h : TV σ m f v l) (hE : Ext σ s) (hO : ∀ M, σ.next ≤ M → Off v M) : TV s m f v l := by
  refine h.keep fun n h0 h1 p hp off q hq g k => ?_
  rcases h.sh with rfl | ⟨N, i, len, ex, rfl⟩ | ⟨rows, i, len, ex, rfl⟩
  · cases hp
  · have hl := h.len
    simp only [lenOfS, Option.some.injEq] at hl
    rw [ix_ms h0 (by omega)] at hp
    cases hp
    cases hq
    rw [load_ptr, load_ptr, hE.2 N (Nat.lt_of_not_le fun h => hO N h _ _ _ _ rfl)]
  · have hl := h.len
    simp only [lenOfS, Option.some.injEq] at hl
    rw [ix_rs h0 (by omega)] at hp
    cases hp
    cases hq
    rfl
end Go.Tc
namespace Go.Tc
set_option linter.unusedSimpArgs false
def Iter (P : Program) (gv : AVal) (B : AHeap → Prop) (R : Nat → List AVal → Prop) (C : Nat → Prop) : Prop :=
  ∀ (yv : AVal) (J : Nat → AHeap → Prop) (E : AHeap → Prop) (σ0 : AHeap), yv.one = true → (∀ k s s', J k s → Ext s s' → J k s') → (∀ k s, J k s → B s) → J 0 σ0 →
    (∀ k s args, J k s → R k args → RunV P yv args s (fun o s' => (o = .ret (.bool true) ∧ J (k + 1) s') ∨ (o = .ret (.bool false) ∧ E s'))) →
    RunV P gv [yv] σ0 (fun o s => (∃ v, o = .ret v) ∧ ((∃ m, C m ∧ J m s) ∨ E s))
def envPs (env : AEnv) (ps : List Nat) (args : List AVal) : AEnv := { n := env.n, t := setPs env.t ps args, ds := [] }
def env00 (env : AEnv) : AEnv := { env with ds := [] }
theorem envPs_nil {env : AEnv} {vs : List AVal} : envPs env [] vs = env00 env := by cases vs <;> rfl
theorem envPs_cons {env : AEnv} {p : Nat} {ps : List Nat} {v : AVal} {vs : List AVal} : envPs env (p :: ps) (v :: vs) = envPs (env.set p v) ps vs := id rfl
theorem env00_get {env : AEnv} {i : Nat} : (env00 env).t i = env.t i := id rfl
theorem env00_ds {env : AEnv} : (env00 env).ds = [] := id rfl
theorem ENV : type_of% (And.intro @envPs_nil (And.intro @envPs_cons (And.intro @env00_get @env00_ds))) := And.intro @envPs_nil (And.intro @envPs_cons (And.intro @env00_get @env00_ds))
structure HoldB (a b : ACode) : Type where
def rangeK (P : Program) (f : Opnd) (ps : List Nat) (a b : ACode) (_ : HoldB a b) (rd : Option Nat) (env : AEnv) (σ : AHeap) (Q : AExit → AEnv → AHeap → Prop) (_ : HoldQ Q) : Prop := wpA P (.rangeF f ps a b) rd env σ Q
theorem A_rangeK {P : Program} {f : Opnd} {ps : List Nat} {a b : ACode} {rd : Option Nat} {env : AEnv} {σ : AHeap} {Q : AExit → AEnv → AHeap → Prop} : wpA P (.rangeF f ps a b) rd env σ Q = rangeK P f ps a b {} rd env σ Q {} := id rfl
def roundK (L : Nat) (lo : ALoop) (I : AHeap → Prop) (Z : AExit → AHeap → Prop) : AExit → AEnv → AHeap → Prop
  | .normal, _, s => s.objs L = some (.loop lo) ∧ ∀ lo', I (s.set L (.loop lo'))
  | .panic _, _, _ => False
  | e, _, s => s.objs L = some (.loop lo) ∧ ∀ lo', Z e (s.set L (.loop lo'))
theorem rk_normal {L : Nat} {lo : ALoop} {I : AHeap → Prop} {Z : AExit → AHeap → Prop} {env : AEnv} {s : AHeap} : roundK L lo I Z .normal env s = (s.objs L = some (.loop lo) ∧ ∀ lo', I (s.set L (.loop lo'))) := id rfl
theorem rk_ret {L : Nat} {lo : ALoop} {I : AHeap → Prop} {Z : AExit → AHeap → Prop} {env : AEnv} {s : AHeap} : roundK L lo I Z .ret env s = (s.objs L = some (.loop lo) ∧ ∀ lo', Z .ret (s.set L (.loop lo'))) := id rfl
theorem rk_exit {L : Nat} {lo : ALoop} {I : AHeap → Prop} {Z : AExit → AHeap → Prop} {env : AEnv} {s : AHeap} {i : Nat} : roundK L lo I Z (.exit i) env s = (s.objs L = some (.loop lo) ∧ ∀ lo', Z (.exit i) (s.set L (.loop lo'))) := id rfl
def assignK (L : Nat) (lo : ALoop) (K : AEnv → AHeap → Prop) : AExit → AEnv → AHeap → Prop
  | .normal, env, s => s.objs L = some (.loop lo) ∧ K env s
  | _, _, _ => False
theorem ak_normal {L : Nat} {lo : ALoop} {K : AEnv → AHeap → Prop} {env : AEnv} {s : AHeap} : assignK L lo K .normal env s = (s.objs L = some (.loop lo) ∧ K env s) := id rfl
theorem RK : type_of% (And.intro @A_rangeK (And.intro @rk_normal (And.intro @rk_ret (And.intro @rk_exit @ak_normal)))) := And.intro @A_rangeK (And.intro @rk_normal (And.intro @rk_ret (And.intro @rk_exit @ak_normal)))
theorem A_rangeI {P : Program} {f : Opnd} {ps : List Nat} {a b : ACode} {rd : Option Nat} {env : AEnv} {σ : AHeap} {Q : AExit → AEnv → AHeap → Prop} {g : FuncId} {first caps : List AVal} {B : AHeap → Prop} {R : Nat → List AVal → Prop} {C : Nat → Prop}
    (hf : env.ev f = .func (.func g) first caps) (hit : Iter P (.func (.func g) first caps) B R C) (I : Nat → AHeap → Prop) (Z : AExit → AHeap → Prop) (hen : enters P g = true) (hrd : ∀ L, rd = some L → ∃ lo, σ.objs L = some (.loop lo))
    (h1 : ∀ k s s', I k s → Ext s s' → I k s') (h2 : ∀ k s lo, I k s → I k (s.set σ.next (.loop lo))) (h3 : ∀ k s, I k s → B s) (h4 : ∀ k s, I k s → σ.next < s.next) (h0 : ∀ lo, I 0 (σ.alloc (.loop lo)))
    (hr : ∀ k s lo args, I k s → s.objs σ.next = some (.loop lo) → R k args → args.length = ps.length ∧
      wpA P a (some σ.next) (envPs env ps args) s (assignK σ.next lo fun env1 s1 => ∀ lo', wpA P b (some σ.next) env1 (s1.set σ.next (.loop lo')) (roundK σ.next lo' (I (k + 1)) Z)))
    (hn : ∀ m s, C m → I m s → Q .normal env (s.kill σ.next)) (hz : ∀ e s, Z e s → Q e env (s.kill σ.next)) : rangeK P f ps a b {} rd env σ Q {} := by
  refine ⟨g, first, caps, hf, hen, hrd, fun assign body ha hb => ?_⟩
  let lo0 : ALoop := { size := env.n, env := env.t, params := ps.toArray, assign, body, state := .ready, pending := none }
  have := hit (.yield σ.next) (fun k s => I k s ∧ s.objs σ.next = some (.loop lo0))
    (fun s => ∃ lo, s.objs σ.next = some (.loop lo) ∧ lo.state = .done ∧ pendA lo.pending (fun e => Z e s)) (σ.alloc (.loop lo0)) rfl
    (fun k s s' h hE => ⟨h1 k s s' h.1 hE, (hE.2 _ (h4 k s h.1)).trans h.2⟩) (fun k s h => h3 k s h.1) ⟨h0 _, objs_new rfl⟩ ?_
  · refine this.mono fun o s ⟨⟨v, hv⟩, h⟩ => ?_
    subst hv
    rcases h with ⟨m, hm, hI, hL⟩ | ⟨lo, hL, hst, hp⟩
    · exact ⟨lo0, hL, by simp [lo0], show Q .normal env _ from hn m s hm hI⟩
    · refine ⟨lo, hL, by rw [hst]; simp, pendA_mono (fun e he => hz e s he) hp⟩
  · rintro k s args ⟨hI, hL⟩ hR
    obtain ⟨hlen, hw⟩ := hr k s lo0 args hI hL hR
    refine RunV.yield hL (by simpa [lo0] using hlen) ?_
    have hA := ha (some σ.next) (envPs env ps args) s _ rfl hw
    refine RunC.mono hA fun e env1 s1 hn1 hq => ?_
    cases e with
    | normal =>
      obtain ⟨hq1, hq2⟩ := hq
      refine ⟨rfl, lo0, hq1, rfl, ?_⟩
      have hB := hb (some σ.next) env1 (s1.set σ.next (.loop { lo0 with state := .busy })) _ (by rw [hn1]) (hq2 _)
      refine RunC.mono hB fun e2 env2 s2 _ hq3 => ?_
      cases e2 with
      | normal => exact ⟨_, hq3.1, .inl ⟨rfl, hq3.2 _, by rw [AHeap.objs_set, if_pos rfl]⟩⟩
      | panic v => exact hq3.elim
      | ret => exact ⟨_, hq3.1, .inr ⟨rfl, { lo0 with state := .done, pending := some .ret }, by rw [AHeap.objs_set, if_pos rfl], rfl, show Z .ret _ from hq3.2 _⟩⟩
      | exit i => exact ⟨_, hq3.1, .inr ⟨rfl, { lo0 with state := .done, pending := some (.exit i) }, by rw [AHeap.objs_set, if_pos rfl], rfl, show Z (.exit i) _ from hq3.2 _⟩⟩
      | goto i => exact ⟨_, hq3.1, .inr ⟨rfl, { lo0 with state := .done, pending := some (.goto i) }, by rw [AHeap.objs_set, if_pos rfl], rfl, show Z (.goto i) _ from hq3.2 _⟩⟩
    | panic v => exact hq.elim
    | ret => exact hq.elim
    | exit i => exact hq.elim
    | goto i => exact hq.elim
end Go.Tc
namespace Go.Tc
set_option linter.unusedSimpArgs false
def mapF {β : Type} (enc : β → AVal) (g : AKey → Option β) : AKey → Option AVal := fun k => (g k).map enc
def mputT {β : Type} (g : AKey → Option β) (k : AKey) (v : β) : AKey → Option β := fun x => if x = k then some v else g x
theorem mput_mapF {β : Type} {enc : β → AVal} {g : AKey → Option β} {k : AKey} {x : β} : mput (mapF enc g) k (enc x) = mapF enc (mputT g k x) := by
  funext j
  simp only [mput, mapF, mputT]
  split <;> rfl
theorem mapF_isSome {β : Type} {enc : β → AVal} {g : AKey → Option β} {k : AKey} : (mapF enc g k).isSome = (g k).isSome := by simp [mapF]
theorem mapF_getD {β : Type} {enc : β → AVal} {g : AKey → Option β} {k : AKey} {d : β} : (mapF enc g k).getD (enc d) = enc ((g k).getD d) := by
  simp only [mapF]; cases g k <;> rfl
def eI (x : Int) : AVal := .int .i64 x
theorem eI_eq {x : Int} : eI x = .int .i64 x := id rfl
def eB (x : Bool) : AVal := .bool x
theorem eB_eq {x : Bool} : eB x = .bool x := id rfl
theorem getD_int {g : AKey → Option Int} {k : AKey} {d : Int} : (mapF eI g k).getD (.int .i64 d) = .int .i64 ((g k).getD d) := mapF_getD (enc := eI)
theorem getD_bool {g : AKey → Option Bool} {k : AKey} {d : Bool} : (mapF eB g k).getD (.bool d) = .bool ((g k).getD d) := mapF_getD (enc := eB)
theorem mput_int {g : AKey → Option Int} {k : AKey} {x : Int} : mput (mapF eI g) k (.int .i64 x) = mapF eI (mputT g k x) := mput_mapF (enc := eI)
theorem mput_bool {g : AKey → Option Bool} {k : AKey} {x : Bool} : mput (mapF eB g) k (.bool x) = mapF eB (mputT g k x) := mput_mapF (enc := eB)
theorem mapF_none {β : Type} {enc : β → AVal} : (fun _ => none : AKey → Option AVal) = mapF enc (fun _ => none) := id rfl
def lookO (o : Option AObj) (K : KT) (z : AVal) (k : Option AKey) (ok : Bool) : Option AVal := match o, k with
  | some (.map K' f _), some k => if K' = K then some (if ok then .tup [(f k).getD z, .bool (f k).isSome] else (f k).getD z) else none
  | _, _ => none
def updO (o : Option AObj) (K : KT) (k : Option AKey) (x : AVal) : Option AObj := match o, k with
  | some (.map K' f n), some k => if K' = K then some (.map K (mput f k x) (if (f k).isSome then n else n + 1)) else none
  | _, _ => none
section
variable {σ : AHeap} {K : KT} {N n : Nat} {z i x v : AVal} {ok : Bool} {f : AKey → Option AVal} {k : AKey}
theorem look_map : lookV σ K z (.map N) i ok = lookO (σ.objs N) K z (toKey K i) ok := by
  simp only [lookV, lookO, mapAt]
  cases σ.objs N with
  | none => rfl
  | some o =>
    cases o with
    | map K' f n =>
      simp only
      by_cases h : K' = K
      · rw [if_pos h]; cases toKey K i <;> simp [h]
      · rw [if_neg h]; cases toKey K i <;> simp [h]
    | _ => rfl
theorem upd_map : updV σ K (.map N) i x = (updO (σ.objs N) K (toKey K i) x).map fun o => (AVal.tup [], σ.set N o) := by
  simp only [updV, updO]
  cases toKey K i with
  | none => cases σ.objs N with
    | none => rfl
    | some o => cases o <;> rfl
  | some k =>
    simp only
    cases σ.objs N with
    | none => rfl
    | some o =>
      cases o with
      | map K' f n => simp only; split <;> rfl
      | _ => rfl
theorem lookO_in : lookO (some (.map K f n)) K z (some k) false = some ((f k).getD z) := by simp [lookO]
theorem lookO_ok : lookO (some (.map K f n)) K z (some k) true = some (.tup [(f k).getD z, .bool (f k).isSome]) := by simp [lookO]
theorem updO_in : updO (some (.map K f n)) K (some k) x = some (.map K (mput f k x) (if (f k).isSome then n else n + 1)) := by simp [updO]
theorem toKey_int {q : IntKind} {y : Int} : toKey (.one (.int q)) (.int q y) = some (.one (.int y)) := by simp [toKey, toAK]
theorem toKey_str {s : ByteArray} : toKey (.one .str) (.str s) = some (.one (.str s)) := by simp [toKey, toAK]
theorem toKey_int2 {q q' : IntKind} {y y' : Int} : toKey (.tup [.int q, .int q']) (.agg [.int q y, .int q' y']) = some (.tup [.int y, .int y']) := by simp [toKey, toAKs, toAK]
theorem w_omap_comp {α β : Type} {g : α → β} {a : α} : (some a).map g = some (g a) := id rfl
theorem nilM_eq {N : Nat} : binA .eql .map (.map N) .nilM = some (.bool false) := id rfl
end
theorem MAP : type_of% (And.intro @look_map (And.intro @upd_map (And.intro @lookO_in (And.intro @lookO_ok (And.intro @updO_in (And.intro @toKey_int (And.intro @toKey_str (And.intro @toKey_int2 (And.intro @getD_int (And.intro @getD_bool (And.intro @mput_int (@mput_bool)))))))))))) :=
  And.intro @look_map (And.intro @upd_map (And.intro @lookO_in (And.intro @lookO_ok (And.intro @updO_in (And.intro @toKey_int (And.intro @toKey_str (And.intro @toKey_int2 (And.intro @getD_int (And.intro @getD_bool (And.intro @mput_int (@mput_bool)))))))))))
theorem mputT_same {β : Type} {g : AKey → Option β} {k : AKey} {v : β} : mputT g k v k = some v := if_pos rfl
theorem mputT_ne {β : Type} {g : AKey → Option β} {k j : AKey} {v : β} (h : j ≠ k) : mputT g k v j = g j := if_neg h
theorem store_rI {l : List Int} {i : Nat} {x : Int} (h : i < l.length) : storeO (some (.cells 1 (l.map rI))) 1 i 0 (.int .i64 x) = some (.cells 1 ((l.set i x).map rI)) := storeO_map x h rfl rfl (fun _ => rfl) rfl
theorem rep_rI {n : Nat} : List.replicate n [AVal.int .i64 0] = (List.replicate n (0 : Int)).map rI := by rw [List.map_replicate]; rfl
theorem zero_add_nat {n : Nat} : 0 + n = n := Nat.zero_add n
theorem loadO_mapset {α : Type} [Inhabited α] {agg : Bool} {m n i j k : Nat} {f : α → List AVal} {l : List α} {x : α} (h : i < l.length) : loadO (some (.cells m ((l.set j x).map f))) agg n i k = partA agg n k (f ((l.set j x).getD i default)) := loadO_map (by rw [List.length_set]; exact h)
theorem store_rIset {l : List Int} {i j : Nat} {x y : Int} (h : i < l.length) : storeO (some (.cells 1 ((l.set j y).map rI))) 1 i 0 (.int .i64 x) = some (.cells 1 (((l.set j y).set i x).map rI)) := store_rI (by rw [List.length_set]; exact h)
theorem ROW : type_of% (And.intro @loadO_mapset (And.intro @store_rIset (And.intro @loadO_map (And.intro @store_rI (And.intro @rep_rI @zero_add_nat))))) := And.intro @loadO_mapset (And.intro @store_rIset (And.intro @loadO_map (And.intro @store_rI (And.intro @rep_rI @zero_add_nat))))
end Go.Tc
namespace Go.Tc
set_option linter.unusedSimpArgs false
section
variable {α : Type} {s σ : AHeap} {b m : Nat} {f : α → List AVal} {v w : AVal} {l xs : List α}
theorem rows_of [Inhabited α] {rows : List (List AVal)} {i : Nat} (h0 : l.length ≠ 0)
    (hr : ∀ n, n < l.length → ∀ off g k, (match (rows[i + n]?).map (·, off) with | some (r, q) => partA g k q r | none => none) = partA g k off (f (l.getD n default))) : i + l.length ≤ rows.length ∧ (rows.drop i).take l.length = l.map f := by
  have hin : ∀ n, n < l.length → rows[i + n]? = some (f (l.getD n default)) := by
    intro n hn
    have h1 := hr n hn 0 true 0
    cases hrow : rows[i + n]? with
    | none => rw [hrow] at h1; simp [partA] at h1
    | some r =>
      congr 1
      apply List.ext_getElem?
      intro off
      have := hr n hn off false 1
      rw [hrow] at this
      simpa [partA] using this
  have hlen : i + l.length ≤ rows.length := by
    have := (List.getElem?_eq_some_iff.1 (hin (l.length - 1) (by omega))).1
    omega
  refine ⟨hlen, List.ext_getElem? fun n => ?_⟩
  by_cases hn : n < l.length
  · rw [List.getElem?_take, if_pos hn, List.getElem?_drop, hin n hn, List.getElem?_map, List.getElem?_eq_getElem hn, List.getD_eq_getElem?_getD, List.getElem?_eq_getElem hn]; rfl
  · rw [List.getElem?_eq_none (by simp; omega), List.getElem?_eq_none (by simp; omega)]
theorem TV.elems [Inhabited α] (h : TV σ m f v l) : Go.Tc.elems σ m v = some (l.map f) := by
  rcases h.shn with ⟨rfl, h0⟩ | ⟨N, i, ex, rfl⟩ | ⟨rows, i, ex, rfl⟩
  · rw [List.length_eq_zero_iff.1 h0]; rfl
  · by_cases h0 : l.length = 0
    · simp [Go.Tc.elems, h0, List.length_eq_zero_iff.1 h0]
    · have key : ∃ m' rows, σ.objs N = some (.cells m' rows) := by
        obtain ⟨p, hp, _, hl⟩ := h.el 0 (Int.le_refl _) (by omega)
        rw [ix_ms (Int.le_refl _) (by omega)] at hp
        cases hp
        obtain ⟨q, hq, hld⟩ := hl 0 true 0
        cases hq
        rw [load_ptr] at hld
        cases hN : σ.objs N with
        | none => rw [hN] at hld; simp [loadO, partA] at hld
        | some o =>
          cases o with
          | cells m' rows => exact ⟨_, _, rfl⟩
          | _ => rw [hN] at hld; simp [loadO, partA] at hld
      obtain ⟨m', rows, hN⟩ := key
      have := rows_of (rows := rows) (i := i) (l := l) (f := f) h0 (fun n hn off g k => by
        obtain ⟨p, hp, _, hl⟩ := h.el n (by omega) (by omega)
        rw [ix_ms (by omega) (by omega)] at hp
        cases hp
        obtain ⟨q, hq, hld⟩ := hl off g k
        cases hq
        simp only [loadA, Go.Tc.rowAt, hN, Int.toNat_natCast, Nat.zero_add] at hld
        exact hld)
      simp [Go.Tc.elems, h0, hN, this.1, this.2]
  · by_cases h0 : l.length = 0
    · simp [Go.Tc.elems, h0, List.length_eq_zero_iff.1 h0]
    · have := rows_of (rows := rows) (i := i) (l := l) (f := f) h0 (fun n hn off g k => by
        obtain ⟨p, hp, _, hl⟩ := h.el n (by omega) (by omega)
        rw [ix_rs (by omega) (by omega)] at hp
        cases hp
        obtain ⟨q, hq, hld⟩ := hl off g k
        cases hq
        simp only [loadA, Go.Tc.rowAt, Int.toNat_natCast, Nat.zero_add] at hld
        exact hld)
      simp [Go.Tc.elems, h0, this.1, this.2]
theorem OwnS.cpy (h : OwnS s b m f v l) {a : Int} (h0 : 0 ≤ a) (h1 : a ≤ l.length) (hw : Go.Tc.elems s m w = some (xs.map f)) :
    ∃ (n : Int) (s' : AHeap) (l' : List α), cpyA s m (slV m v a l.length) w = some (.int .i64 n, s') ∧ OwnS s' b m f v l' ∧ l'.length = l.length ∧ s'.next = s.next ∧ (∀ M, Off v M → s'.objs M = s.objs M) := by
  rcases h with ⟨rfl, rfl⟩ | ⟨N, ex, rfl, h2, h3, h4⟩
  · have : a = 0 := by simp at h1; omega
    subst this
    exact ⟨0, s, [], by simp [cpyA, hw, slV, sliceA, bound], .inl ⟨rfl, rfl⟩, rfl, rfl, fun _ _ => rfl⟩
  · have hsl : slV m (.ms m N 0 l.length ex) a l.length = .ms m N (0 + a.toNat) ((l.length : Int).toNat - a.toNat) (ex && (l.length : Int).toNat == l.length) := by
      simp only [slV, sliceA, if_true, bound_in (show (0 : Int) ≤ (l.length : Nat) by omega) (Int.le_refl _), bound_in h0 (show a ≤ ((l.length : Int).toNat : Nat) by omega), Option.bind_some, Option.map_some, Option.getD_some]
    rw [hsl]
    simp only [cpyA, hw, Int.toNat_natCast, Nat.zero_add]
    by_cases hz : Nat.min (xs.map f).length (l.length - a.toNat) = 0
    · rw [if_pos hz]
      exact ⟨0, s, l, rfl, .inr ⟨N, ex, rfl, h2, h3, h4⟩, rfl, rfl, fun _ _ => rfl⟩
    · rw [if_neg hz, h4]
      simp only [List.length_map]
      rw [if_pos ⟨trivial, by omega⟩]
      have hmin : Nat.min xs.length (l.length - a.toNat) ≤ l.length - a.toNat := Nat.min_le_right _ _
      have hmin2 : Nat.min xs.length (l.length - a.toNat) ≤ xs.length := Nat.min_le_left _ _
      generalize Nat.min xs.length (l.length - a.toNat) = k at hmin hmin2 ⊢
      have hlen : (l.take a.toNat ++ xs.take k ++ l.drop (a.toNat + k)).length = l.length := by simp; omega
      refine ⟨k, _, l.take a.toNat ++ xs.take k ++ l.drop (a.toNat + k), rfl, .inr ⟨N, ex, by rw [hlen], h2, h3, ?_⟩, hlen, rfl, fun M hM => ?_⟩
      · rw [objs_here]; simp
      · rw [objs_else]
        rintro rfl
        exact hM _ _ _ _ rfl
end
theorem clone_spec {P : Program} (hP : P.follows .mixedOrders = true) {f : FuncId} {m bytes : Nat} {z : List AVal} (hk : compFunc P f = some (8, cloneCode m z bytes, [.t 2])) {σ : AHeap} {α : Type} [Inhabited α] {r : α → List AVal} {v : AVal} {l : List α}
    (hv : TV σ m r v l) (ho : ∀ M, σ.next ≤ M → Off v M) (hb : sumLen 0 l.length bytes = true) {Q : AOut → AHeap → Prop} (hQ : ∀ u s, Ext σ s → OwnS s σ.next m r u l → Q (.ret u) s) :
    RunV P (.func (.func f) [] []) [v] σ Q := by
  refine RunV.func hP hk (by simp) ?_
  have hq : v = .nilS ∨ binA .eql .slice v .nilS = some (.bool false) := by
    rcases hv.sh with h | ⟨N, i, len, ex, rfl⟩ | ⟨rows, i, len, ex, rfl⟩
    · exact .inl h
    · exact .inr rfl
    · exact .inr rfl
  rcases hq with rfl | hq
  · simp (disch := omega) only [cloneCode, ↓CTL, ↓DRW, VAL, DRV, FILL, Nat.reduceBEq, Nat.reduceAdd]
    have : l = [] := by have := hv.len; simp only [lenOfS, Option.some.injEq] at this; exact List.length_eq_zero_iff.1 this.symm
    subst this
    exact hQ _ _ (.refl _) .nil
  · simp (disch := omega) only [cloneCode, ↓CTL, ↓DRW, VAL, DRV, FILL, Nat.reduceBEq, Nat.reduceAdd, hq]
    have hE : Ext σ (σ.alloc (.cells m [])) := (Ext.refl _).alloc _
    have hO : OwnS (σ.alloc (.cells m [])) σ.next m r (.ms m σ.next 0 0 true) ([] : List α) := .inr ⟨σ.next, true, rfl, Nat.le_refl _, by simp, objs_new rfl⟩
    obtain ⟨v', s', hap, h1, h2, h3, h4⟩ := hO.app (bytes := bytes) (hv.ext hE ho).elems (by simp) hb
    simp (disch := omega) only [↓CTL, ↓DRW, VAL, DRV, FILL, Nat.reduceBEq, Nat.reduceAdd, hap]
    simp only [AHeap.next_alloc] at h2 h3
    refine hQ _ _ ⟨by omega, fun M hM => ?_⟩ (by simpa using h1)
    rw [h3 M (by omega) (hO.off_old hM), objs_old (by omega)]
theorem frz_rows {σ : AHeap} {n N m i len : Nat} {ex : Bool} {rows : List (List AVal)} (hN : n ≤ N) (ho : σ.objs N = some (.cells m rows)) (hs : ∀ row ∈ rows, ∀ v ∈ row, scal v = true ∧ v.one = true) : Frz σ n (.ms m N i len ex) (.rs m rows i len ex) := by
  refine .ms hN ho (fun _ => rfl) (fun j q v v' h1 h2 => ?_) (fun j q v' h => ?_)
  · rw [h1] at h2; cases h2
    simp only [cellAt, Option.bind_eq_some_iff] at h1
    obtain ⟨row, hr, hv⟩ := h1
    exact scal_frz v (hs row (List.mem_of_getElem? hr) v (List.mem_of_getElem? hv)).1
  · simp only [cellAt, Option.bind_eq_some_iff] at h
    obtain ⟨row, hr, hv⟩ := h
    exact (hs row (List.mem_of_getElem? hr) v' (List.mem_of_getElem? hv)).2
theorem RunV.freezeOwn {P : Program} {fv : AVal} {zs : List AVal} {σ : AHeap} {α : Type} [Inhabited α] {m : Nat} {f : α → List AVal} {R : List α → Prop} {Q : AOut → AHeap → Prop} (hf : ∀ x, ∀ v ∈ f x, scal v = true ∧ v.one = true)
    (h : RunV P fv zs σ (fun o s => ∃ v l, o = .ret v ∧ Ext σ s ∧ OwnS s σ.next m f v l ∧ R l)) (hQ : ∀ v l, RV m f v l → R l → Q (.ret v) σ) : RunV P fv zs σ Q := by
  refine RunV.pure (h.mono fun o s ⟨v, l, ho, hE, hO, hR⟩ => ?_)
  subst ho
  rcases hO with ⟨rfl, rfl⟩ | ⟨N, ex, rfl, h1, h2, h3⟩
  · exact ⟨.nilS, .nilS, rfl, .nilS, fun N o hN hx => (hE.2 N hN).trans hx, hQ _ _ RV.nil hR⟩
  · refine ⟨_, .rs m (l.map f) 0 l.length ex, rfl, frz_rows h1 h3 ?_, fun N o hN hx => (hE.2 N hN).trans hx, hQ _ l (RV.rs (by omega) (by simp)) hR⟩
    intro row hr
    obtain ⟨x, _, rfl⟩ := List.mem_map.1 hr
    exact hf x
def backCode1 (m : Nat) (g : Bool) : ACode :=
 .seq (.ops [
   ⟨(some 4), .load false 1 (.t 1), none, []⟩,
   ⟨(some 5), .lenS (.t 4), none, []⟩,
   ⟨(some 6), .bin .sub .int (.t 5) (.c (.int .i64 1)), none, []⟩,
   ⟨(some 3), .mv (.t 6), none, []⟩])
 (.block 0 (.loop (.seq (.seq (.ops [
    ⟨(some 7), .mv (.t 3), none, []⟩,
    ⟨(some 8), .bin .geq .int (.t 7) (.c (.int .i64 0)), none, []⟩])
  (.cond (.t 8)
   (.skip)
   (.exit 0)))
  (.seq (.block 1 (.seq (.ops [
    ⟨(some 11), .mv (.t 0), none, []⟩,
    ⟨(some 12), .mv (.t 3), none, []⟩,
    ⟨(some 13), .load false 1 (.t 1), none, []⟩,
    ⟨(some 14), .mv (.t 3), none, []⟩,
    ⟨(some 15), .ixS m (.t 13) (.t 14), none, []⟩,
    ⟨(some 16), .load g m (.t 15), none, []⟩,
    ⟨(some 17), .callV (.t 11) [(.t 12), (.t 16)], none, []⟩,
    ⟨(some 18), .un .not (.t 17), none, []⟩])
  (.cond (.t 18)
   (.ret)
   (.skip))))
  (.ops [
    ⟨(some 9), .mv (.t 3), none, []⟩,
    ⟨(some 10), .bin .sub .int (.t 9) (.c (.int .i64 1)), none, []⟩,
    ⟨(some 3), .mv (.t 10), none, []⟩])))))
theorem back_iter {P : Program} (hP : P.follows .mixedOrders = true) {f : FuncId} {m : Nat} {g : Bool} (hk : compFunc P f = some (19, backCode1 m g, [])) {A : Nat} {v : AVal} {α : Type} [Inhabited α] {r : α → List AVal} {l : List α} (hl : l.length ≤ 4611686018427387904) (el : α → AVal) (he : ∀ x, partA g m 0 (r x) = some (el x)) :
    Iter P (.func (.func f) [] [.ptr A 0 0]) (fun s => s.objs A = some (.cells 1 [[v]]) ∧ TV s m r v l) (fun k args => k < l.length ∧ args = [.int .i64 ((l.length : Int) - 1 - k), el (l.getD (l.length - 1 - k) default)]) (fun n => n = l.length) := by
  intro yv J E σ0 hy hE hB h0 hr
  refine RunV.func hP hk (by simp) ?_
  obtain ⟨hA0, hv0⟩ := hB 0 σ0 h0
  simp (disch := omega) only [backCode1, ↓CTL, ↓DRW, VAL, DRV, Nat.reduceBEq, Nat.reduceAdd, hA0, hv0.S]
  refine A_loopV (α := Nat) [7, 8, 11, 12, 13, 14, 15, 16, 17, 18, 9, 10, 3] (fun i => [(3, .int .i64 ((l.length : Int) - 1 - i))]) (fun i s => i ≤ l.length ∧ J i s) (fun i => l.length - i) rfl (fun _ => rfl) ⟨0, ?_, Nat.zero_le _, h0⟩ ?_
  · simp (disch := omega) only [↓CTL, VAL, Nat.reduceBEq]; simp
  · rintro i f' s ⟨hi, hJ⟩
    obtain ⟨hA, hv⟩ := hB i s hJ
    simp (disch := omega) only [↓CTL, ↓DRW, VAL, DRV, Nat.reduceBEq, Nat.reduceAdd]
    refine B_if (fun hlt => ?_) (fun hge => ?_)
    · have e1 : ((l.length : Int) - 1 - i).toNat = l.length - 1 - i := by omega
      simp (disch := omega) only [↓CTL, ↓DRW, VAL, DRV, Nat.reduceBEq, Nat.reduceAdd, hA, hv.S, he, e1]
      refine (hr i _ _ hJ ⟨by omega, rfl⟩).mono fun o s' h => ?_
      rcases h with ⟨rfl, hJ'⟩ | ⟨rfl, hE'⟩
      · simp (disch := omega) only [↓CTL, ↓DRW, VAL, DRV, Nat.reduceBEq, Nat.reduceAdd, Bool.not_true]
        refine ⟨i + 1, ?_, ⟨by omega, hJ'⟩, by omega⟩
        congr 1; omega
      · simp (disch := omega) only [↓CTL, ↓DRW, VAL, DRV, Nat.reduceBEq, Nat.reduceAdd, Bool.not_false]
        exact ⟨⟨_, rfl⟩, .inr hE'⟩
    · simp (disch := omega) only [↓CTL, ↓DRW, VAL, DRV, Nat.reduceBEq, Nat.reduceAdd]
      have : i = l.length := by omega
      exact ⟨⟨_, rfl⟩, .inl ⟨_, rfl, this ▸ hJ⟩⟩
end Go.Tc
namespace Go.Tc
set_option linter.unusedSimpArgs false
def isPtrD : TypeDesc → Bool
  | .pointer _ => true
  | _ => false
def methOf (P : Program) (t : TypeId) (name : String) : Option FuncId :=
  match P.info? t, P.underlying t with
  | some i, some d => match i.methods.find? (fun m => m.name == name) with
    | some m => if m.path.isEmpty then (match m.func with
      | some (f, p) => if p == isPtrD d && enters P f then some f else none
      | none => none) else none
    | none => none
  | _, _ => none
theorem run_method {P : Program} {t : TypeId} {name : String} {f : FuncId} (h : methOf P t name = some f) (n : Nat) (v : Value) (w : World) : (Go.method (n + 1) t v name).run P w = .ok (f, v) w ∧ enters P f = true := by
  unfold methOf at h
  split at h
  · rename_i i d hi hd
    split at h
    · rename_i m hm
      split at h
      · rename_i hp
        split at h
        · rename_i f' p hf
          split at h
          · rename_i hc
            cases h
            simp only [Bool.and_eq_true, beq_iff_eq] at hc
            obtain ⟨rfl, hen⟩ := hc
            have hp' : m.path.toList = [] := by simpa using hp
            refine ⟨?_, hen⟩
            simp only [Go.method, Sem.run_bind, run_info hi, Result.andThen, hm, hp', Go.follow, Sem.run_pure, hf, hp, if_true]
            cases d <;> simp [Go.receiverAt, Sem.run_bind, run_und hd, Result.andThen, isPtrD, Go.Place.get]
          · cases h
        · cases h
      · cases h
    · cases h
  · cases h
theorem RunI.meth {P : Program} {t : TypeId} {name : String} {f : FuncId} (h : methOf P t name = some f) {v : AVal} {args : List AVal} {σ : AHeap} {Q : AOut → AHeap → Prop} (hr : RunV P (.func (.func f) [] []) (v :: args) σ Q) : RunI P (.iface t v) name args σ Q := by
  obtain ⟨out, σ', hQ, hc⟩ := hr
  refine ⟨out, σ', hQ, fun ι ro w ru us R hru hus => ?_⟩
  cases hru with
  | @iface _ _ u hu =>
  have hcall := hc ι ro w (.func (.func f) #[] #[]) (#[u] ++ us) R (.func (by simp) rfl rfl (by simp) (by simp)) ⟨by simp [hus.1]; omega, fun i a b ha hb => by
    cases i with
    | zero =>
      rw [Array.getElem?_append_left (by simp)] at hb
      simp at ha hb; subst ha; subst hb; exact hu
    | succ i =>
      simp at ha
      refine hus.2 i a b ha ?_
      rw [Array.getElem?_append_right (by simp)] at hb
      simpa using hb⟩
  have hm := fun n => run_method h n u w
  have hen := (hm 0).2
  simp only [Deferred.ofValue, pure_bind, invoke, enters_run hen] at hcall
  have : (invoke (.fn (.method name) #[]) (#[.iface t u] ++ us)).run P w = .ok (.enter f (#[u] ++ us)) w := by
    simp only [invoke]
    have h0 : (#[Value.iface t u] ++ us)[0]? = some (.iface t u) := (Array.getElem?_append_left (show 0 < (#[Value.iface t u]).size from Nat.zero_lt_one)).trans rfl
    simp only [h0, callMethod, Sem.run_bind, run_program, Result.andThen]
    rw [show P.types.size + Made.depth = (P.types.size + (Made.depth - 1)) + 1 by have : 0 < Made.depth := by decide
                                                                                  omega]
    rw [(hm _).1]
    have hex : (#[Value.iface t u] ++ us).extract 1 (#[Value.iface t u] ++ us).size = us := by
      apply Array.ext_getElem?
      intro i
      rw [Array.getElem?_extract]
      by_cases hi : i < us.size
      · rw [if_pos (by simp; omega), Array.getElem?_append_right (show (#[Value.iface t u]).size ≤ 1 + i from Nat.le_add_right 1 i)]
        show us[1 + i - 1]? = us[i]?
        rw [Nat.add_sub_cancel_left]
      · rw [if_neg (by simp; omega), Array.getElem?_eq_none (Nat.le_of_not_lt hi)]
    rw [hex]
    simp only [enters_run hen]
  rw [this]
  simpa using hcall
def callIK (P : Program) (rv : AVal) (name : String) (zs : List AVal) (σ : AHeap) (K X : AVal → AHeap → Prop) (_ : HoldK K) (_ : HoldK X) : Prop := RunI P rv name zs σ (outK K X)
section
variable {P : Program} {rd : Option Nat} {q st : List Nat} {ps : Nat → Nat → Bool} {i : Nat} {os l : List AOper} {d : Option Nat} {a : List Nat} {env : AEnv} {σ : AHeap} {past : List (Nat × AHeap)} {pend : List (Nat × AOp × AEnv × AVal)} {K : AEnv → AHeap → Prop} {X : Nat → AVal → AHeap → Prop} {Q : AExit → AEnv → AHeap → Prop}
theorem L_callIK {x : Opnd} {m : String} {xs : List Opnd} : Go.Tc.wpOps P rd (⟨d, .callI x m xs, none, a⟩ :: os) env σ Q =
    callIK P (env.ev x) m (xs.map env.ev) σ (fun v σ' => Go.Tc.wpOps P rd os (env.put d v) σ' Q) (fun v σ' => Q (.panic v) env σ') {} {} := id rfl
theorem DD_callI {x : Opnd} {m : String} {xs : List Opnd} : dK P q st ps {} i (⟨d, .callI x m xs, none, a⟩ :: os) env σ past pend K X =
    callIK P (env.ev x) m (xs.map env.ev) σ (fun v σ' => bif q.contains i then σ' = σ ∧ (bif st.contains i then allP past (fun p => ps i p.1 = true → Same P (.callI x m xs) env p.2 v) ∧ dK P q st ps {} (i + 1) os (env.put d v) σ past ((i, .callI x m xs, env, v) :: pend) K X
      else dK P q st ps {} (i + 1) os (env.put d v) σ past pend K X)
      else allP pend (fun p => ps p.1 (i + 1) = true → Same P p.2.1 p.2.2.1 σ' p.2.2.2) ∧ dK P q st ps {} (i + 1) os (env.put d v) σ' ((i + 1, σ') :: past) pend K X) (fun v σ' => X i v σ') {} {} := by
  simp only [dK, wpDr, gOk, OpW, callIK, allP_eq]
  congr 1
  funext o s
  cases o with
  | panic v => rfl
  | ret v =>
    simp only [outK, effOf, isSt, allP_eq]
    by_cases hq : q.contains i = true
    · simp only [hq, if_true, cond_true]
      cases hs : st.contains i <;> simp
      all_goals
        intro h; subst h; simp
    · have hq' : q.contains i = false := by simpa using hq
      simp only [hq', cond_false, Bool.false_eq_true, if_false]
      simp
end
theorem IFC : type_of% (And.intro @L_callIK @DD_callI) := And.intro @L_callIK @DD_callI
theorem storeO_fld {α : Type} [Inhabited α] {m n i k : Nat} {f : α → List AVal} {l : List α} {v : AVal} (x : α) (h : i < l.length) (hv : v.cells.length = n) (hk : ∀ y, k + n ≤ (f y).length) (h1 : v.cells.all AVal.one = true) (hs : splice (f (l.getD i default)) k v.cells = f x) :
    storeO (some (.cells m (l.map f))) n i k v = some (.cells m ((l.set i x).map f)) := by
  have hg : l.getD i default = l[i] := by rw [List.getD_eq_getElem?_getD, List.getElem?_eq_getElem h]; rfl
  simp only [storeO, List.getElem?_map, List.getElem?_eq_getElem h, Option.map_some, Option.bind_some]
  rw [if_pos ⟨hv, hk _, h1⟩, ← hg, hs, ← List.map_set]
end Go.Tc
namespace Go.Tc
set_option linter.unusedSimpArgs false
def rS (s : ByteArray) : List AVal := [.str s]
theorem rS_eq {s : ByteArray} : rS s = [.str s] := id rfl
structure Hp (s : AHeap) (H b : Nat) (nv sv : AVal) (ns : List Int) (ss : List ByteArray) : Prop where
  obj : s.objs H = some (.cells 2 [[nv, sv]])
  hb : H < b
  bn : b ≤ s.next
  n : OwnS s b 1 rI nv ns
  s : OwnS s b 1 rS sv ss
  dis : ∀ M, ¬ Off nv M → Off sv M
def Step (H : Nat) (s : AHeap) (nv sv : AVal) (s' : AHeap) (nv' sv' : AVal) : Prop :=
  s.next ≤ s'.next ∧ ∀ M, M < s.next → M ≠ H → Off nv M → Off sv M → s'.objs M = s.objs M ∧ Off nv' M ∧ Off sv' M
theorem Step.refl {H : Nat} {s : AHeap} {nv sv : AVal} : Step H s nv sv s nv sv := ⟨Nat.le_refl _, fun _ _ _ h1 h2 => ⟨rfl, h1, h2⟩⟩
theorem Step.trans {H : Nat} {s s1 s2 : AHeap} {nv sv nv1 sv1 nv2 sv2 : AVal} (h : Step H s nv sv s1 nv1 sv1) (k : Step H s1 nv1 sv1 s2 nv2 sv2) : Step H s nv sv s2 nv2 sv2 :=
  ⟨Nat.le_trans h.1 k.1, fun M h1 h2 h3 h4 => by
    obtain ⟨a1, a2, a3⟩ := h.2 M h1 h2 h3 h4
    obtain ⟨b1, b2, b3⟩ := k.2 M (Nat.lt_of_lt_of_le h1 h.1) h2 a2 a3
    exact ⟨b1.trans a1, b2, b3⟩⟩
theorem Step.alloc {H : Nat} {s : AHeap} {nv sv : AVal} {o : AObj} : Step H s nv sv (s.alloc o) nv sv :=
  ⟨by simp, fun M h1 _ h3 h4 => ⟨objs_old (Nat.ne_of_lt h1), h3, h4⟩⟩
theorem Hp.alloc {s : AHeap} {H b : Nat} {nv sv : AVal} {ns : List Int} {ss : List ByteArray} (h : Hp s H b nv sv ns ss) (o : AObj) : Hp (s.alloc o) H b nv sv ns ss :=
  ⟨by rw [objs_old (Nat.ne_of_lt (Nat.lt_of_lt_of_le h.hb h.bn))]; exact h.obj, h.hb, Nat.le_succ_of_le h.bn, h.n.alloc o, h.s.alloc o, h.dis⟩
def Stays (W : Nat → AHeap → AVal → AVal → Prop) : Prop := ∀ H s nv sv s' nv' sv', W H s nv sv → Step H s nv sv s' nv' sv' → W H s' nv' sv'
def WTrue : Nat → AHeap → AVal → AVal → Prop := fun _ _ _ _ => True
theorem WTrue.stays : Stays WTrue := fun _ _ _ _ _ _ _ _ _ => trivial
def PutSpec (P : Program) (W : Nat → AHeap → AVal → AVal → Prop) (put : AVal) (x : AVal) (A : List Int) (B : List ByteArray) : Prop :=
  ∀ s H b nv sv ns ss, W H s nv sv → Hp s H b nv sv ns ss → ns.length + A.length ≤ 1099511627776 → ss.length + B.length ≤ 1099511627776 →
    RunV P put [.ptr H 0 0, x] s (fun o s' => (∃ v, o = .ret v) ∧ ∃ nv' sv', Hp s' H b nv' sv' (ns ++ A) (ss ++ B) ∧ Step H s nv sv s' nv' sv')
theorem Hp.num {s : AHeap} {H b : Nat} {nv sv : AVal} {ns : List Int} {ss : List ByteArray} (h : Hp s H b nv sv ns ss) (x : Int) (hl : ns.length + 1 ≤ 1099511627776) :
    ∃ nv' s', appA (s.alloc (.cells 1 [[.int .i64 x]])) 1 8 nv (.ms 1 s.next 0 1 true) = some (nv', s') ∧ nv'.one = true ∧ s'.objs H = some (.cells 2 [[nv, sv]]) ∧ Hp (s'.set H (.cells 2 [[nv', sv]])) H b nv' sv (ns ++ [x]) ss ∧ Step H s nv sv (s'.set H (.cells 2 [[nv', sv]])) nv' sv := by
  have hb := h.hb
  have hn := h.bn
  obtain ⟨nv', s', h1, h2, h3, h4, h5⟩ := OwnS.app (bytes := 8) (w := .ms 1 s.next 0 1 true) (xs := [x]) (h.n.alloc (.cells 1 [[.int .i64 x]])) (elems_one (objs_new rfl)) (by simp only [AHeap.next_alloc]; omega) (sumLen_ok (by simp only [List.length_singleton]; omega) (by simp only [List.length_singleton]; omega))
  simp only [AHeap.next_alloc] at h3 h4 h5
  have hH : s'.objs H = some (.cells 2 [[nv, sv]]) := by
    rw [h4 H (by omega) (h.n.off_old hb), objs_old (by omega)]; exact h.obj
  have hs : OwnS s' b 1 rS sv ss := h.s.keep (by omega) fun M hM1 hM2 hM3 => by
    rw [h4 M (by omega) (Classical.byContradiction fun hc => hM3 (h.dis M hc)), objs_old (by omega)]
  refine ⟨nv', s', h1, h2.one, hH, ⟨objs_here, hb, by simp only [AHeap.next_set]; omega, h2.set (h5 H (by omega) (h.n.off_old hb)) _, hs.set (h.s.off_old hb) _, fun M hM => ?_⟩, by simp only [AHeap.next_set]; omega, fun M g1 g2 g3 g4 => ⟨?_, h5 M (by omega) g3, g4⟩⟩
  · by_cases hc : Off nv M
    · by_cases hlt : M < s.next + 1
      · exact absurd (h5 M hlt hc) hM
      · exact h.s.off_new (by omega)
    · exact h.dis M hc
  · rw [objs_else g2, h4 M (by omega) g3, objs_old (by omega)]
theorem Hp.txt {s : AHeap} {H b : Nat} {nv sv : AVal} {ns : List Int} {ss : List ByteArray} (h : Hp s H b nv sv ns ss) (x : ByteArray) {bytes : Nat} (hby : bytes ≤ 16) (hl : ss.length + 1 ≤ 1099511627776) :
    ∃ sv' s', appA (s.alloc (.cells 1 [[.str x]])) 1 bytes sv (.ms 1 s.next 0 1 true) = some (sv', s') ∧ sv'.one = true ∧ s'.objs H = some (.cells 2 [[nv, sv]]) ∧ Hp (s'.set H (.cells 2 [[nv, sv']])) H b nv sv' ns (ss ++ [x]) ∧ Step H s nv sv (s'.set H (.cells 2 [[nv, sv']])) nv sv' := by
  have hb := h.hb
  have hn := h.bn
  have hmul : (ss.length + 1) * bytes ≤ 1099511627776 * 16 := Nat.mul_le_mul hl hby
  obtain ⟨sv', s', h1, h2, h3, h4, h5⟩ := OwnS.app (bytes := bytes) (w := .ms 1 s.next 0 1 true) (xs := [x]) (h.s.alloc (.cells 1 [[.str x]])) (elems_one (objs_new rfl)) (by simp only [AHeap.next_alloc]; omega) (sumLen_ok (by simp only [List.length_singleton]; omega) (by simp only [List.length_singleton]; omega))
  simp only [AHeap.next_alloc] at h3 h4 h5
  have hdis : ∀ M, ¬ Off sv M → Off nv M := fun M hM => Classical.byContradiction fun hc => hM (h.dis M hc)
  have hH : s'.objs H = some (.cells 2 [[nv, sv]]) := by
    rw [h4 H (by omega) (h.s.off_old hb), objs_old (by omega)]; exact h.obj
  have hs : OwnS s' b 1 rI nv ns := h.n.keep (by omega) fun M hM1 hM2 hM3 => by
    rw [h4 M (by omega) (h.dis M hM3), objs_old (by omega)]
  refine ⟨sv', s', h1, h2.one, hH, ⟨objs_here, hb, by simp only [AHeap.next_set]; omega, hs.set (h.n.off_old hb) _, h2.set (h5 H (by omega) (h.s.off_old hb)) _, fun M hM => ?_⟩, by simp only [AHeap.next_set]; omega, fun M g1 g2 g3 g4 => ⟨?_, g3, h5 M (by omega) g4⟩⟩
  · have hlt : M < s.next := Nat.lt_of_not_le fun hc => hM (h.n.off_new hc)
    exact h5 M (by omega) (h.dis M hM)
  · rw [objs_else g2, h4 M (by omega) g4, objs_old (by omega)]
def putOps (bx hx t : Nat) (x : Nat × Bool × Nat × FuncId) : List AOper :=
  [⟨some t, .mv (.t hx), none, []⟩, ⟨some (t + 1), .fa x.1 (.t bx), none, []⟩, ⟨some (t + 2), .load x.2.1 x.2.2.1 (.t (t + 1)), none, []⟩, ⟨some (t + 3), .callF x.2.2.2 [(.t t), (.t (t + 2))], none, []⟩]
def putBody (bx hx : Nat) : Nat → List (Nat × Bool × Nat × FuncId) → ACode
  | _, [] => .skip
  | t, [x] => .ops (putOps bx hx t x)
  | t, x :: y :: r => .seq (.ops (putOps bx hx t x)) (putBody bx hx (t + 4) (y :: r))
inductive PutsAll (P : Program) (W : Nat → AHeap → AVal → AVal → Prop) (row : List AVal) : List (Nat × Bool × Nat × FuncId) → List Int → List ByteArray → Prop
  | nil : PutsAll P W row [] [] []
  | cons {off n : Nat} {g : Bool} {f : FuncId} {v : AVal} {A A' : List Int} {B B' : List ByteArray} {r : List (Nat × Bool × Nat × FuncId)} (h : partA g n off row = some v) (hp : PutSpec P W (.func (.func f) [] []) v A B) (hr : PutsAll P W row r A' B') :
      PutsAll P W row ((off, g, n, f) :: r) (A ++ A') (B ++ B')
theorem putBody_spec {P : Program} {W : Nat → AHeap → AVal → AVal → Prop} (hW : Stays W) {row : List AVal} {bx hx m H b Bn : Nat} : ∀ (r : List (Nat × Bool × Nat × FuncId)) (A : List Int) (B : List ByteArray), PutsAll P W row r A B → r ≠ [] →
    ∀ (t : Nat) (env : AEnv) (s : AHeap) (nv sv : AVal) (ns : List Int) (ss : List ByteArray) (Q : AExit → AEnv → AHeap → Prop), hx < t → bx < t → env.t hx = .ptr H 0 0 → env.t bx = .ptr Bn 0 0 → Bn < s.next → Bn ≠ H → Off nv Bn → Off sv Bn → s.objs Bn = some (.cells m [row]) →
    W H s nv sv → Hp s H b nv sv ns ss → ns.length + A.length ≤ 1099511627776 → ss.length + B.length ≤ 1099511627776 →
    (∀ env' s' nv' sv', env'.ds = env.ds → Hp s' H b nv' sv' (ns ++ A) (ss ++ B) → Step H s nv sv s' nv' sv' → Q .normal env' s') → wpA P (putBody bx hx t r) none env s Q := by
  intro r
  induction r with
  | nil => intro A B _ h; exact absurd rfl h
  | cons x r ih =>
    rintro A B hall _ t env s nv sv ns ss Q h1 h2 h3 h4 h5 h6 h7 h8 h9 hw hp hl1 hl2 hQ
    cases hall with
    | @cons off n g f v A1 A2 B1 B2 _ hv hs hr =>
    simp only [List.length_append] at hl1 hl2
    have one : ∀ Q' : AExit → AEnv → AHeap → Prop, (∀ env' s' nv' sv', env'.ds = env.ds → env'.t hx = .ptr H 0 0 → env'.t bx = .ptr Bn 0 0 → Hp s' H b nv' sv' (ns ++ A1) (ss ++ B1) → Step H s nv sv s' nv' sv' → Q' .normal env' s') → Go.Tc.wpOps P none (putOps bx hx t (off, g, n, f)) env s Q' := by
      intro Q' hQ'
      have e1 : ∀ v', (env.put (some t) v').t bx = env.t bx := fun v' => by
        rw [put_some, set_get, beq_eq_false_iff_ne.2 (by omega)]; rfl
      have e2 : ∀ v' v'', ((env.put (some t) v').put (some (t + 1)) v'').t (t + 1) = v'' := fun v' v'' => by
        rw [put_some, put_some, set_get, beq_iff_eq.2 rfl]; rfl
      simp only [putOps]
      rw [L_mv, ev_t, h3, k1_some, L_fa, ev_t, e1, h4, addr_ptr, k1_some, L_load, ev_t, e2, Nat.zero_add, load_ptr, h9, loadO_row, hv, k1_some, L_callFK]
      have e3 : (List.map (AEnv.ev (((env.put (some t) (.ptr H 0 0)).put (some (t + 1)) (.ptr Bn 0 off)).put (some (t + 2)) v)) [.t t, .t (t + 2)]) = [.ptr H 0 0, v] := by
        simp only [List.map_cons, List.map_nil, ev_t, put_some, set_get]
        simp [show (t == t + 1) = false from beq_eq_false_iff_ne.2 (by omega), show (t == t + 2) = false from beq_eq_false_iff_ne.2 (by omega)]
      rw [e3]
      refine (hs s H b nv sv ns ss hw hp (by omega) (by omega)).mono fun o s' ⟨⟨v', ho⟩, nv', sv', hp', hst⟩ => ?_
      subst ho
      show Go.Tc.wpOps P none [] _ s' Q'
      rw [L_nil]
      refine hQ' _ s' nv' sv' rfl ?_ ?_ hp' hst
      · simp only [put_some, set_get]
        simp [beq_eq_false_iff_ne.2 (show hx ≠ t + 3 by omega), beq_eq_false_iff_ne.2 (show hx ≠ t + 2 by omega), beq_eq_false_iff_ne.2 (show hx ≠ t + 1 by omega), beq_eq_false_iff_ne.2 (show hx ≠ t by omega), h3]
      · simp only [put_some, set_get]
        simp [beq_eq_false_iff_ne.2 (show bx ≠ t + 3 by omega), beq_eq_false_iff_ne.2 (show bx ≠ t + 2 by omega), beq_eq_false_iff_ne.2 (show bx ≠ t + 1 by omega), beq_eq_false_iff_ne.2 (show bx ≠ t by omega), h4]
    cases r with
    | nil =>
      cases hr
      show Go.Tc.wpOps P none (putOps bx hx t (off, g, n, f)) env s Q
      refine one Q fun env' s' nv' sv' hd _ _ hp' hst => hQ env' s' nv' sv' hd ?_ hst
      simpa using hp'
    | cons y r =>
      show wpA P (.seq (.ops (putOps bx hx t (off, g, n, f))) (putBody bx hx (t + 4) (y :: r))) none env s Q
      rw [A_seq, A_ops]
      refine one _ fun env' s' nv' sv' hd g1 g2 hp' hst => ?_
      rw [th_normal]
      obtain ⟨b1, b2, b3⟩ := hst.2 Bn h5 h6 h7 h8
      refine ih A2 B2 hr (by simp) (t + 4) env' s' nv' sv' (ns ++ A1) (ss ++ B1) Q (by omega) (by omega) g1 g2 (Nat.lt_of_lt_of_le h5 hst.1) h6 b2 b3 (b1.trans h9) (hW _ _ _ _ _ _ _ hw hst) hp' (by simp only [List.length_append]; omega) (by simp only [List.length_append]; omega)
        fun env2 s2 nv2 sv2 hd2 hp2 hst2 => hQ env2 s2 nv2 sv2 (hd2.trans hd) ?_ (hst.trans hst2)
      simpa [List.append_assoc] using hp2
theorem putStruct_spec {P : Program} (hP : P.follows .mixedOrders = true) {W : Nat → AHeap → AVal → AVal → Prop} (hW : Stays W) {f : FuncId} {n : Nat} {r : List (Nat × Bool × Nat × FuncId)} (hk : compFunc P f = some (n, .seq (.ops [⟨some 3, .box (.t 1), none, []⟩]) (putBody 3 0 4 r), [])) (hn : 2 ≤ n)
    {row : List AVal} (h1 : row.all AVal.one = true) {A : List Int} {B : List ByteArray} (hr : PutsAll P W row r A B) (hne : r ≠ []) : PutSpec P W (.func (.func f) [] []) (.agg row) A B := by
  intro s H b nv sv ns ss hw hp hl1 hl2
  refine RunV.func hP hk (by simpa using hn) ?_
  have hlt := Nat.lt_of_lt_of_le hp.hb hp.bn
  simp (disch := omega) only [↓CTL, VAL, Nat.reduceBEq, h1]
  refine putBody_spec hW (m := row.length) (Bn := s.next) (H := H) (b := b) r A B hr hne 4 _ _ nv sv ns ss _ (by omega) (by omega) ?_ ?_ (by simp) (by omega) (hp.n.off_new (Nat.le_refl _)) (hp.s.off_new (Nat.le_refl _)) (objs_new rfl) (hW _ _ _ _ _ _ _ hw .alloc) (hp.alloc _) hl1 hl2 fun env' s' nv' sv' hd hp' hst => ?_
  · simp only [VAL, Nat.reduceBEq]
  · simp only [VAL, Nat.reduceBEq]
  · rw [retA_normal]
    refine ⟨hd, ?_⟩
    simp only [resAs]
    exact ⟨⟨_, rfl⟩, nv', sv', hp', Step.alloc.trans hst⟩
end Go.Tc
namespace Go.Tc
set_option linter.unusedSimpArgs false
def putIntCode : ACode := .ops [⟨some 4, .mv (.t 0), none, []⟩, ⟨some 5, .mv (.t 0), none, []⟩, ⟨some 6, .nilck (.t 5), none, []⟩, ⟨some 7, .fa 0 (.t 6), none, []⟩, ⟨some 8, .load false 1 (.t 7), none, []⟩, ⟨some 9, .mv (.t 1), none, []⟩,
  ⟨some 10, .buildS 1 [.int .i64 0] 1 [(0, .t 9)], none, []⟩, ⟨some 11, .app 1 8 (.t 8) (.t 10), none, []⟩, ⟨some 12, .nilck (.t 4), none, []⟩, ⟨some 13, .fa 0 (.t 12), none, []⟩, ⟨none, .store 1 (.t 13) (.t 11), none, []⟩]
def putByteCode : ACode := .ops [⟨some 4, .mv (.t 0), none, []⟩, ⟨some 5, .mv (.t 0), none, []⟩, ⟨some 6, .nilck (.t 5), none, []⟩, ⟨some 7, .fa 0 (.t 6), none, []⟩, ⟨some 8, .load false 1 (.t 7), none, []⟩, ⟨some 9, .mv (.t 1), none, []⟩, ⟨some 10, .conv (.int .i64) (.t 9), none, []⟩,
  ⟨some 11, .buildS 1 [.int .i64 0] 1 [(0, .t 10)], none, []⟩, ⟨some 12, .app 1 8 (.t 8) (.t 11), none, []⟩, ⟨some 13, .nilck (.t 4), none, []⟩, ⟨some 14, .fa 0 (.t 13), none, []⟩, ⟨none, .store 1 (.t 14) (.t 12), none, []⟩]
def putsCode (m : Nat) (g : Bool) : ACode :=
 .seq (.ops [⟨some 7, .mv (.t 0), none, []⟩, ⟨some 8, .mv (.t 0), none, []⟩, ⟨some 9, .nilck (.t 8), none, []⟩, ⟨some 10, .fa 0 (.t 9), none, []⟩, ⟨some 11, .load false 1 (.t 10), none, []⟩, ⟨some 12, .mv (.t 1), none, []⟩, ⟨some 13, .lenS (.t 12), none, []⟩,
   ⟨some 14, .buildS 1 [.int .i64 0] 1 [(0, .t 13)], none, []⟩, ⟨some 15, .app 1 8 (.t 11) (.t 14), none, []⟩, ⟨some 16, .nilck (.t 7), none, []⟩, ⟨some 17, .fa 0 (.t 16), none, []⟩, ⟨none, .store 1 (.t 17) (.t 15), none, []⟩])
 (.seq (.ops [⟨some 6, .mv (.c (.int .i64 0)), none, []⟩])
 (.block 0 (.loop (.seq (.seq (.ops [⟨some 18, .mv (.t 6), none, []⟩, ⟨some 19, .mv (.t 1), none, []⟩, ⟨some 20, .lenS (.t 19), none, []⟩, ⟨some 21, .bin .lss .int (.t 18) (.t 20), none, []⟩]) (.cond (.t 21) .skip (.exit 0)))
  (.seq (.block 1 (.ops [⟨some 24, .mv (.t 2), none, []⟩, ⟨some 25, .mv (.t 0), none, []⟩, ⟨some 26, .mv (.t 1), none, []⟩, ⟨some 27, .mv (.t 6), none, []⟩, ⟨some 28, .ixS m (.t 26) (.t 27), none, []⟩, ⟨some 29, .load g m (.t 28), none, []⟩, ⟨some 30, .callV (.t 24) [.t 25, .t 29], none, []⟩]))
  (.ops [⟨some 22, .mv (.t 6), none, []⟩, ⟨some 23, .bin .add .int (.t 22) (.c (.int .i64 1)), none, []⟩, ⟨some 6, .mv (.t 23), none, []⟩]))))))
def putLCode (p e : FuncId) : ACode := .ops [⟨some 4, .mv (.t 0), none, []⟩, ⟨some 5, .mv (.t 1), none, []⟩, ⟨some 6, .callF p [.t 4, .t 5, .f e], none, []⟩]
section
variable {P : Program} {W : Nat → AHeap → AVal → AVal → Prop}
theorem putInt_spec (hP : P.follows .mixedOrders = true) {f : FuncId} (hk : compFunc P f = some (14, putIntCode, [])) (x : Int) : PutSpec P W (.func (.func f) [] []) (.int .i64 x) [x] [] := by
  intro s H b nv sv ns ss _ hp hl1 hl2
  have hH := hp.obj
  have hb := hp.hb
  have hbn := hp.bn
  refine RunV.func hP hk (by simp) ?_
  obtain ⟨nv', s', h1, h2, h3, h4, h5⟩ := hp.num x (by simpa using hl1)
  simp (disch := omega) only [putIntCode, ↓CTL, VAL, FILL, Nat.reduceBEq, Nat.reduceAdd, hH, h1, h2, h3]
  exact ⟨⟨_, rfl⟩, nv', sv, by simpa using h4, h5⟩
theorem putByte_spec (hP : P.follows .mixedOrders = true) {f : FuncId} (hk : compFunc P f = some (15, putByteCode, [])) (k : IntKind) (x : Int) : PutSpec P W (.func (.func f) [] []) (.int k x) [IntKind.i64.wrap x] [] := by
  intro s H b nv sv ns ss _ hp hl1 hl2
  have hH := hp.obj
  have hb := hp.hb
  have hbn := hp.bn
  refine RunV.func hP hk (by simp) ?_
  obtain ⟨nv', s', h1, h2, h3, h4, h5⟩ := hp.num (IntKind.i64.wrap x) (by simpa using hl1)
  generalize hw : IntKind.i64.wrap x = y at h1 h4 ⊢
  simp (disch := omega) only [putByteCode, ↓CTL, VAL, FILL, Nat.reduceBEq, Nat.reduceAdd, hH, hw, h1, h2, h3]
  exact ⟨⟨_, rfl⟩, nv', sv, by simpa using h4, h5⟩
theorem puts_spec (hP : P.follows .mixedOrders = true) (hW : Stays W) {f : FuncId} {m : Nat} {g : Bool} (hk : compFunc P f = some (31, putsCode m g, [])) {α : Type} [Inhabited α] {r : α → List AVal} {v put : AVal} {l : List α} (hv : ∀ H s nv sv, W H s nv sv → TV s m r v l) (hl : l.length ≤ 1048576)
    (el : α → AVal) (he : ∀ x, partA g m 0 (r x) = some (el x)) (A : α → List Int) (B : α → List ByteArray) (hp : ∀ x ∈ l, PutSpec P W put (el x) (A x) (B x)) :
    ∀ s H b nv sv ns ss, W H s nv sv → Hp s H b nv sv ns ss → ns.length + (((l.length : Int)) :: l.flatMap A).length ≤ 1099511627776 → ss.length + (l.flatMap B).length ≤ 1099511627776 →
    RunV P (.func (.func f) [] []) [.ptr H 0 0, v, put] s (fun o s' => (∃ v, o = .ret v) ∧ ∃ nv' sv', Hp s' H b nv' sv' (ns ++ ((l.length : Int)) :: l.flatMap A) (ss ++ l.flatMap B) ∧ Step H s nv sv s' nv' sv') := by
  intro s H b nv sv ns ss hw hh hl1 hl2
  have hH := hh.obj
  have hb := hh.hb
  have hbn := hh.bn
  simp only [List.length_cons] at hl1
  refine RunV.func hP hk (by simp) ?_
  obtain ⟨nv1, s1, h1, h2, h3, h4, h5⟩ := hh.num (l.length : Int) (by omega)
  simp (disch := omega) only [putsCode, ↓CTL, VAL, FILL, Nat.reduceBEq, Nat.reduceAdd, hH, (hv _ _ _ _ hw).len, h1, h2, h3]
  refine A_loopV (α := Nat × AVal × AVal) [18, 19, 20, 21, 24, 25, 26, 27, 28, 29, 30, 22, 23, 6] (fun x => [(6, .int .i64 x.1)]) (fun x t => x.1 ≤ l.length ∧ Hp t H b x.2.1 x.2.2 (ns ++ (l.length : Int) :: (l.take x.1).flatMap A) (ss ++ (l.take x.1).flatMap B) ∧ Step H s nv sv t x.2.1 x.2.2) (fun x => l.length - x.1) rfl (fun _ => rfl) ⟨(0, nv1, sv), ?_, Nat.zero_le _, by simpa using h4, h5⟩ ?_
  · simp only [↓CTL, VAL, Nat.reduceBEq]; rfl
  · rintro ⟨i, nv2, sv2⟩ f' t ⟨hi, hh2, hst⟩
    dsimp only at hi hh2 hst ⊢
    have hw2 := hW _ _ _ _ _ _ _ hw hst
    have hvt := (hv _ _ _ _ hw2).S
    simp (disch := omega) only [↓CTL, VAL, Nat.reduceBEq, Nat.reduceAdd, hvt]
    refine B_if (fun hlt => ?_) (fun hge => ?_)
    · simp (disch := omega) only [↓CTL, VAL, Nat.reduceBEq, Nat.reduceAdd, hvt, he, Int.toNat_natCast]
      have hmem : l.getD i default ∈ l := by rw [List.getD_eq_getElem?_getD, List.getElem?_eq_getElem (by omega)]; exact List.getElem_mem _
      have hts : l.take (i + 1) = l.take i ++ [l.getD i default] := by
        rw [List.take_add_one, List.getElem?_eq_getElem (by omega), List.getD_eq_getElem?_getD, List.getElem?_eq_getElem (by omega)]; rfl
      have hfA : (l.take (i + 1)).flatMap A = (l.take i).flatMap A ++ A (l.getD i default) := by rw [hts]; simp
      have hfB : (l.take (i + 1)).flatMap B = (l.take i).flatMap B ++ B (l.getD i default) := by rw [hts]; simp
      have lA : ((l.take (i + 1)).flatMap A).length ≤ (l.flatMap A).length := by
        conv => rhs; rw [← List.take_append_drop (i + 1) l, List.flatMap_append]
        simp
      have lB : ((l.take (i + 1)).flatMap B).length ≤ (l.flatMap B).length := by
        conv => rhs; rw [← List.take_append_drop (i + 1) l, List.flatMap_append]
        simp
      rw [hfA, List.length_append] at lA
      rw [hfB, List.length_append] at lB
      refine (hp _ hmem t H b nv2 sv2 _ _ hw2 hh2 (by simp only [List.length_append, List.length_cons]; omega) (by simp only [List.length_append]; omega)).mono fun o s' ⟨⟨v', ho⟩, nv3, sv3, hh3, hst3⟩ => ?_
      subst ho
      simp (disch := omega) only [↓CTL, VAL, Nat.reduceBEq, Nat.reduceAdd]
      refine ⟨(i + 1, nv3, sv3), rfl, ⟨by dsimp only; omega, ?_, hst.trans hst3⟩, by dsimp only; omega⟩
      dsimp only
      rw [hfA, hfB]
      simpa [List.append_assoc] using hh3
    · simp (disch := omega) only [↓CTL, VAL, Nat.reduceBEq, Nat.reduceAdd]
      have : i = l.length := by omega
      subst this
      rw [List.take_length] at hh2
      exact ⟨⟨_, rfl⟩, nv2, sv2, hh2, hst⟩
theorem putL_spec (hP : P.follows .mixedOrders = true) (hW : Stays W) {f p e : FuncId} {m : Nat} {g : Bool} (hf : compFunc P f = some (7, putLCode p e, [])) (hk : compFunc P p = some (31, putsCode m g, [])) {α : Type} [Inhabited α] {r : α → List AVal} {v : AVal} {l : List α} (hv : ∀ H s nv sv, W H s nv sv → TV s m r v l) (hl : l.length ≤ 1048576)
    (el : α → AVal) (he : ∀ x, partA g m 0 (r x) = some (el x)) (A : α → List Int) (B : α → List ByteArray) (hp : ∀ x ∈ l, PutSpec P W (.func (.func e) [] []) (el x) (A x) (B x)) :
    PutSpec P W (.func (.func f) [] []) v ((l.length : Int) :: l.flatMap A) (l.flatMap B) := by
  intro s H b nv sv ns ss hw hh hl1 hl2
  refine RunV.func hP hf (by simp) ?_
  simp (disch := omega) only [putLCode, ↓CTL, VAL, Nat.reduceBEq, Nat.reduceAdd]
  refine (puts_spec hP hW hk hv hl el he A B hp s H b nv sv ns ss hw hh hl1 hl2).mono fun o s' ⟨⟨v', ho⟩, nv3, sv3, hh3, hst3⟩ => ?_
  subst ho
  simp (disch := omega) only [↓CTL, VAL, Nat.reduceBEq, Nat.reduceAdd]
  exact ⟨⟨_, rfl⟩, nv3, sv3, hh3, hst3⟩
end
def WipeAt (P : Program) (f : AVal) (m k : Nat) : Prop :=
  ∀ s N i rows, N < s.next → s.objs N = some (.cells m rows) → i < rows.length → (∀ row ∈ rows, row.length = m) → RunV P f [.ptr N i k] s (fun o s' => (∃ v, o = .ret v) ∧ s.next ≤ s'.next ∧ (∃ rows', s'.objs N = some (.cells m rows') ∧ rows'.length = rows.length ∧ ∀ row ∈ rows', row.length = m) ∧ ∀ M, M < s.next → M ≠ N → s'.objs M = s.objs M)
def wipe1Code (x : AVal) : ACode := .ops [⟨some 2, .mv (.t 0), none, []⟩, ⟨some 3, .nilck (.t 2), none, []⟩, ⟨none, .store 1 (.t 3) (.c x), none, []⟩]
def wipeOps (t : Nat) (x : Nat × FuncId) : List AOper := [⟨some t, .mv (.t 0), none, []⟩, ⟨some (t + 1), .nilck (.t t), none, []⟩, ⟨some (t + 2), .fa x.1 (.t (t + 1)), none, []⟩, ⟨some (t + 3), .callF x.2 [.t (t + 2)], none, []⟩]
def wipeBody : Nat → List (Nat × FuncId) → ACode
  | _, [] => .skip
  | t, [x] => .ops (wipeOps t x)
  | t, x :: y :: r => .seq (.ops (wipeOps t x)) (wipeBody (t + 4) (y :: r))
def wipesCode (m : Nat) : ACode :=
 .seq (.ops [⟨some 4, .mv (.c (.int .i64 0)), none, []⟩])
 (.block 0 (.loop (.seq (.seq (.ops [⟨some 5, .mv (.t 4), none, []⟩, ⟨some 6, .mv (.t 0), none, []⟩, ⟨some 7, .lenS (.t 6), none, []⟩, ⟨some 8, .bin .lss .int (.t 5) (.t 7), none, []⟩]) (.cond (.t 8) .skip (.exit 0)))
  (.seq (.block 1 (.ops [⟨some 11, .mv (.t 1), none, []⟩, ⟨some 12, .mv (.t 0), none, []⟩, ⟨some 13, .mv (.t 4), none, []⟩, ⟨some 14, .ixS m (.t 12) (.t 13), none, []⟩, ⟨some 15, .callV (.t 11) [.t 14], none, []⟩]))
  (.ops [⟨some 9, .mv (.t 4), none, []⟩, ⟨some 10, .bin .add .int (.t 9) (.c (.int .i64 1)), none, []⟩, ⟨some 4, .mv (.t 10), none, []⟩])))))
def wipeLCode (p e : FuncId) : ACode := .ops [⟨some 2, .mv (.t 0), none, []⟩, ⟨some 3, .nilck (.t 2), none, []⟩, ⟨some 4, .load false 1 (.t 3), none, []⟩, ⟨some 5, .callF p [.t 4, .f e], none, []⟩]
section
variable {P : Program}
theorem wipe1_spec (hP : P.follows .mixedOrders = true) {f : FuncId} {x : AVal} (hk : compFunc P f = some (4, wipe1Code x, [])) (h1 : x.one = true) {m k : Nat} (hkm : k < m) : WipeAt P (.func (.func f) [] []) m k := by
  intro s N i rows _ hN hi hrows
  refine RunV.func hP hk (by simp) ?_
  have hst : storeO (some (.cells m rows)) 1 i k x = some (.cells m (rows.set i (splice rows[i] k x.cells))) := by
    have hr := hrows _ (List.getElem_mem hi)
    simp only [storeO, List.getElem?_eq_getElem hi, Option.bind_some, cells_one h1, List.length_singleton, List.all_cons, List.all_nil, h1, Bool.and_true]
    rw [if_pos ⟨trivial, by omega, trivial⟩]
  have hlen : (splice rows[i] k x.cells).length = m := by
    rw [cells_one h1, splice_length _ _ _ (by have := hrows _ (List.getElem_mem hi); simp; omega)]
    exact hrows _ (List.getElem_mem hi)
  generalize splice rows[i] k x.cells = row' at hst hlen
  simp (disch := omega) only [wipe1Code, ↓CTL, VAL, Nat.reduceBEq, Nat.reduceAdd, hN, hst]
  refine ⟨⟨_, rfl⟩, Nat.le_refl _, ⟨_, rfl, by rw [List.length_set], fun row hr => ?_⟩, fun M _ hM => objsA_ne hM⟩
  rcases List.mem_or_eq_of_mem_set hr with h | h
  · exact hrows row h
  · exact h ▸ hlen
theorem wipeBody_spec {m k N i : Nat} : ∀ (r : List (Nat × FuncId)), r ≠ [] → (∀ x ∈ r, WipeAt P (.func (.func x.2) [] []) m (k + x.1)) → ∀ (t : Nat) (env : AEnv) (s : AHeap) (rows : List (List AVal)) (Q : AExit → AEnv → AHeap → Prop), 0 < t → env.t 0 = .ptr N i k → N < s.next → s.objs N = some (.cells m rows) → i < rows.length → (∀ row ∈ rows, row.length = m) →
    (∀ env' s' rows', env'.ds = env.ds → s.next ≤ s'.next → s'.objs N = some (.cells m rows') → rows'.length = rows.length → (∀ row ∈ rows', row.length = m) → (∀ M, M < s.next → M ≠ N → s'.objs M = s.objs M) → Q .normal env' s') → wpA P (wipeBody t r) none env s Q := by
  intro r
  induction r with
  | nil => intro h; exact absurd rfl h
  | cons x r ih =>
    intro _ hall t env s rows Q ht h0 hlt hN hi hrows hQ
    have one : ∀ Q' : AExit → AEnv → AHeap → Prop, (∀ env' s' rows', env'.ds = env.ds → env'.t 0 = .ptr N i k → s.next ≤ s'.next → s'.objs N = some (.cells m rows') → rows'.length = rows.length → (∀ row ∈ rows', row.length = m) → (∀ M, M < s.next → M ≠ N → s'.objs M = s.objs M) → Q' .normal env' s') →
        Go.Tc.wpOps P none (wipeOps t x) env s Q' := by
      intro Q' hQ'
      simp only [wipeOps]
      rw [L_mv, ev_t, h0, k1_some, L_nilck, ev_t, put_some, set_get, beq_iff_eq.2 rfl, w_cond_true, nilV_ptr, k1_some, L_fa, ev_t, put_some, set_get, beq_iff_eq.2 rfl, w_cond_true, addr_ptr, k1_some, L_callFK]
      have e3 : (List.map (AEnv.ev ((((env.set t (.ptr N i k)).set (t + 1) (.ptr N i k)).put (some (t + 2)) (.ptr N i (k + x.1))))) [.t (t + 2)]) = [.ptr N i (k + x.1)] := by
        simp only [List.map_cons, List.map_nil, ev_t, put_some, set_get, beq_iff_eq.2 rfl, w_cond_true]
      rw [e3]
      refine (hall x (by simp) s N i rows hlt hN hi hrows).mono fun o s' ⟨⟨v', ho⟩, g1, ⟨rows', g2, g3, g4⟩, g5⟩ => ?_
      subst ho
      show Go.Tc.wpOps P none [] _ s' Q'
      rw [L_nil]
      refine hQ' _ s' rows' rfl ?_ g1 g2 g3 g4 g5
      simp only [put_some, set_get]
      simp [show ((0 : Nat) == t + 3) = false from beq_eq_false_iff_ne.2 (by omega), show ((0 : Nat) == t + 2) = false from beq_eq_false_iff_ne.2 (by omega), show ((0 : Nat) == t + 1) = false from beq_eq_false_iff_ne.2 (by omega), show ((0 : Nat) == t) = false from beq_eq_false_iff_ne.2 (by omega), h0]
    cases r with
    | nil => exact one Q fun env' s' rows' hd _ g1 g2 g3 g4 g5 => hQ env' s' rows' hd g1 g2 g3 g4 g5
    | cons y r =>
      show wpA P (.seq (.ops (wipeOps t x)) (wipeBody (t + 4) (y :: r))) none env s Q
      rw [A_seq, A_ops]
      refine one _ fun env' s' rows' hd h0' g1 g2 g3 g4 g5 => ?_
      rw [th_normal]
      exact ih (by simp) (fun z hz => hall z (by simp [hz])) (t + 4) env' s' rows' Q (by omega) h0' (Nat.lt_of_lt_of_le hlt g1) g2 (by omega) g4 fun env2 s2 rows2 hd2 k1 k2 k3 k4 k5 =>
        hQ env2 s2 rows2 (hd2.trans hd) (Nat.le_trans g1 k1) k2 (k3.trans g3) k4 fun M hM hne => (k5 M (Nat.lt_of_lt_of_le hM g1) hne).trans (g5 M hM hne)
theorem wipeStruct_spec (hP : P.follows .mixedOrders = true) {f : FuncId} {n : Nat} {r : List (Nat × FuncId)} (hk : compFunc P f = some (n, wipeBody 2 r, [])) (hn : 1 ≤ n) (hne : r ≠ []) {m k : Nat} (hall : ∀ x ∈ r, WipeAt P (.func (.func x.2) [] []) m (k + x.1)) : WipeAt P (.func (.func f) [] []) m k := by
  intro s N i rows hNl hN hi hrows
  refine RunV.func hP hk (by simpa using hn) ?_
  refine wipeBody_spec r hne hall 2 _ s rows _ (by omega) (by simp only [VAL]) hNl hN hi hrows fun env' s' rows' hd g1 g2 g3 g4 g5 => ?_
  rw [retA_normal]
  refine ⟨hd, ?_⟩
  simp only [resAs]
  exact ⟨⟨_, rfl⟩, g1, ⟨rows', g2, g3, g4⟩, g5⟩
theorem wipeL_spec (hP : P.follows .mixedOrders = true) {f p e : FuncId} {m : Nat} (hf : compFunc P f = some (6, wipeLCode p e, [])) (hk : compFunc P p = some (16, wipesCode m, [])) (he : WipeAt P (.func (.func e) [] []) m 0) {s : AHeap} {X N : Nat} {v : AVal} {len : Nat} {rows : List (List AVal)} {ex : Bool}
    (hX : s.objs X = some (.cells 1 [[v]])) (hv : v = .nilS ∨ v = .ms m N 0 len ex ∧ N < s.next ∧ s.objs N = some (.cells m rows) ∧ len ≤ rows.length ∧ (∀ row ∈ rows, row.length = m)) (hl : len ≤ 4611686018427387904) :
    RunV P (.func (.func f) [] []) [.ptr X 0 0] s (fun o s' => (∃ v, o = .ret v) ∧ s.next ≤ s'.next ∧ ∀ M, M < s.next → (M ≠ N ∨ v = .nilS) → s'.objs M = s.objs M) := by
  refine RunV.func hP hf (by simp) ?_
  simp (disch := omega) only [wipeLCode, ↓CTL, VAL, Nat.reduceBEq, Nat.reduceAdd, hX]
  have key : RunV P (.func (.func p) [] []) [v, .func (.func e) [] []] s (fun o s' => (∃ v, o = .ret v) ∧ s.next ≤ s'.next ∧ ∀ M, M < s.next → (M ≠ N ∨ v = .nilS) → s'.objs M = s.objs M) := by
    refine RunV.func hP hk (by simp) ?_
    rcases hv with rfl | ⟨rfl, h1, h2, h3, h4⟩
    · simp (disch := omega) only [wipesCode, ↓CTL, VAL, Nat.reduceBEq, Nat.reduceAdd]
      refine A_loopV (α := Nat) [5, 6, 7, 8, 11, 12, 13, 14, 15, 9, 10, 4] (fun i => [(4, .int .i64 i)]) (fun i t => i = 0 ∧ t = s) (fun _ => 0) rfl (fun _ => rfl) ⟨0, ?_, rfl, rfl⟩ ?_
      · simp only [↓CTL, VAL, Nat.reduceBEq]; rfl
      · rintro i f' t ⟨rfl, rfl⟩
        simp (disch := omega) only [↓CTL, VAL, Nat.reduceBEq, Nat.reduceAdd]
        exact ⟨⟨_, rfl⟩, Nat.le_refl _, fun _ _ _ => trivial⟩
    · simp (disch := omega) only [wipesCode, ↓CTL, VAL, Nat.reduceBEq, Nat.reduceAdd]
      refine A_loopV (α := Nat) [5, 6, 7, 8, 11, 12, 13, 14, 15, 9, 10, 4] (fun i => [(4, .int .i64 i)]) (fun i t => i ≤ len ∧ s.next ≤ t.next ∧ (∃ rows', t.objs N = some (.cells m rows') ∧ rows'.length = rows.length ∧ ∀ row ∈ rows', row.length = m) ∧ ∀ M, M < s.next → M ≠ N → t.objs M = s.objs M) (fun i => len - i) rfl (fun _ => rfl) ⟨0, ?_, Nat.zero_le _, Nat.le_refl _, ⟨rows, h2, rfl, h4⟩, fun _ _ _ => rfl⟩ ?_
      · simp only [↓CTL, VAL, Nat.reduceBEq]; rfl
      · rintro i f' t ⟨hi, hn, ⟨rows', r1, r2, r3⟩, hM⟩
        simp (disch := omega) only [↓CTL, VAL, Nat.reduceBEq, Nat.reduceAdd]
        refine B_if (fun hlt => ?_) (fun hge => ?_)
        · simp (disch := omega) only [↓CTL, VAL, Nat.reduceBEq, Nat.reduceAdd, Int.toNat_natCast, Nat.zero_add]
          refine (he t N i rows' (by omega) r1 (by omega) r3).mono fun o s' ⟨⟨v', ho⟩, g1, ⟨rows2, g2, g3, g4⟩, g5⟩ => ?_
          subst ho
          simp (disch := omega) only [↓CTL, VAL, Nat.reduceBEq, Nat.reduceAdd]
          exact ⟨i + 1, rfl, ⟨by omega, by omega, ⟨rows2, g2, by omega, g4⟩, fun M h5 h6 => (g5 M (by omega) h6).trans (hM M h5 h6)⟩, by omega⟩
        · simp (disch := omega) only [↓CTL, VAL, Nat.reduceBEq, Nat.reduceAdd]
          exact ⟨⟨_, rfl⟩, hn, fun M h5 h6 => hM M h5 (by rcases h6 with h | h; exact h; cases h)⟩
  refine key.mono fun o s' ⟨⟨v', ho⟩, h1, h2⟩ => ?_
  subst ho
  simp (disch := omega) only [↓CTL, VAL, Nat.reduceBEq, Nat.reduceAdd]
  exact ⟨⟨_, rfl⟩, h1, h2⟩
end
end Go.Tc
namespace Go.Tc
set_option linter.unusedSimpArgs false
set_option maxRecDepth 20000
def sameCode : ACode :=
 .seq (.ops [
   ⟨(some 2), .box (.t 0), none, []⟩,
   ⟨(some 3), .box (.t 1), none, []⟩,
   ⟨(some 4), .mv (.c (.bool false)), none, []⟩])
 (.seq (.seq (.ops [
   ⟨(some 7), .fa 0 (.t 2), none, []⟩,
   ⟨(some 8), .load false 1 (.t 7), none, []⟩,
   ⟨(some 9), .lenS (.t 8), none, []⟩,
   ⟨(some 10), .fa 0 (.t 3), none, []⟩,
   ⟨(some 11), .load false 1 (.t 10), none, []⟩,
   ⟨(some 12), .lenS (.t 11), none, []⟩,
   ⟨(some 13), .bin .neq .int (.t 9) (.t 12), none, []⟩,
   ⟨(some 14), .mv (.t 13), none, []⟩,
   ⟨(some 15), .fa 1 (.t 2), (some (14, false)), []⟩,
   ⟨(some 16), .load false 1 (.t 15), (some (14, false)), []⟩,
   ⟨(some 17), .lenS (.t 16), (some (14, false)), []⟩,
   ⟨(some 18), .fa 1 (.t 3), (some (14, false)), []⟩,
   ⟨(some 19), .load false 1 (.t 18), (some (14, false)), []⟩,
   ⟨(some 20), .lenS (.t 19), (some (14, false)), []⟩,
   ⟨(some 21), .bin .neq .int (.t 17) (.t 20), (some (14, false)), []⟩,
   ⟨(some 22), .pick (.t 14) (.c (.bool true)) (.t 21), none, []⟩])
 (.cond (.t 22)
  (.seq (.ops [
    ⟨(some 4), .mv (.c (.bool false)), none, []⟩])
  (.ret))
  (.skip)))
 (.seq (.seq (.ops [
   ⟨(some 5), .mv (.c (.int .i64 0)), none, []⟩])
 (.block 0 (.loop (.seq (.seq (.ops [
    ⟨(some 23), .mv (.t 5), none, []⟩,
    ⟨(some 24), .fa 0 (.t 2), none, []⟩,
    ⟨(some 25), .load false 1 (.t 24), none, []⟩,
    ⟨(some 26), .lenS (.t 25), none, []⟩,
    ⟨(some 27), .bin .lss .int (.t 23) (.t 26), none, []⟩])
  (.cond (.t 27)
   (.skip)
   (.exit 0)))
  (.seq (.block 1 (.seq (.dr [
    ⟨(some 30), .fa 0 (.t 2), none, []⟩,
    ⟨(some 31), .load false 1 (.t 30), none, [0]⟩,
    ⟨(some 32), .mv (.t 5), none, []⟩,
    ⟨(some 33), .ixS 1 (.t 31) (.t 32), none, [1, 2]⟩,
    ⟨(some 34), .load false 1 (.t 33), none, [3]⟩,
    ⟨(some 35), .fa 0 (.t 3), none, []⟩,
    ⟨(some 36), .load false 1 (.t 35), none, [5]⟩,
    ⟨(some 37), .mv (.t 5), none, []⟩,
    ⟨(some 38), .ixS 1 (.t 36) (.t 37), none, [6, 7]⟩,
    ⟨(some 39), .load false 1 (.t 38), none, [8]⟩,
    ⟨(some 40), .bin .neq .int (.t 34) (.t 39), none, [4, 9]⟩])
  (.cond (.t 40)
   (.seq (.ops [
     ⟨(some 4), .mv (.c (.bool false)), none, []⟩])
   (.ret))
   (.skip))))
  (.ops [
    ⟨(some 28), .mv (.t 5), none, []⟩,
    ⟨(some 29), .bin .add .int (.t 28) (.c (.int .i64 1)), none, []⟩,
    ⟨(some 5), .mv (.t 29), none, []⟩]))))))
 (.seq (.seq (.ops [
   ⟨(some 6), .mv (.c (.int .i64 0)), none, []⟩])
 (.block 2 (.loop (.seq (.seq (.ops [
    ⟨(some 41), .mv (.t 6), none, []⟩,
    ⟨(some 42), .fa 1 (.t 2), none, []⟩,
    ⟨(some 43), .load false 1 (.t 42), none, []⟩,
    ⟨(some 44), .lenS (.t 43), none, []⟩,
    ⟨(some 45), .bin .lss .int (.t 41) (.t 44), none, []⟩])
  (.cond (.t 45)
   (.skip)
   (.exit 2)))
  (.seq (.block 3 (.seq (.dr [
    ⟨(some 48), .fa 1 (.t 2), none, []⟩,
    ⟨(some 49), .load false 1 (.t 48), none, [0]⟩,
    ⟨(some 50), .mv (.t 6), none, []⟩,
    ⟨(some 51), .ixS 1 (.t 49) (.t 50), none, [1, 2]⟩,
    ⟨(some 52), .load false 1 (.t 51), none, [3]⟩,
    ⟨(some 53), .fa 1 (.t 3), none, []⟩,
    ⟨(some 54), .load false 1 (.t 53), none, [5]⟩,
    ⟨(some 55), .mv (.t 6), none, []⟩,
    ⟨(some 56), .ixS 1 (.t 54) (.t 55), none, [6, 7]⟩,
    ⟨(some 57), .load false 1 (.t 56), none, [8]⟩,
    ⟨(some 58), .bin .neq .str (.t 52) (.t 57), none, [4, 9]⟩])
  (.cond (.t 58)
   (.seq (.ops [
     ⟨(some 4), .mv (.c (.bool false)), none, []⟩])
   (.ret))
   (.skip))))
  (.ops [
    ⟨(some 46), .mv (.t 6), none, []⟩,
    ⟨(some 47), .bin .add .int (.t 46) (.c (.int .i64 1)), none, []⟩,
    ⟨(some 6), .mv (.t 47), none, []⟩]))))))
 (.seq (.ops [
   ⟨(some 4), .mv (.c (.bool true)), none, []⟩])
 (.ret)))))
def againCode (sm : FuncId) : ACode :=
 .seq (.ops [
   ⟨(some 2), .mv (.c (.bool false)), none, []⟩])
 (.seq (.ops [
   ⟨(some 3), .alloc [.nilS, .nilS], none, []⟩,
   ⟨(some 4), .alloc [.nilS, .nilS], none, []⟩])
 (.seq (.ops [
   ⟨(some 6), .mv (.t 0), none, []⟩,
   ⟨(some 7), .callV (.t 6) [(.t 3)], none, []⟩,
   ⟨(some 5), .mv (.t 7), none, []⟩])
 (.seq (.ops [
   ⟨(some 8), .mv (.t 5), none, []⟩,
   ⟨(some 9), .callV (.t 8) [], none, []⟩])
 (.seq (.ops [
   ⟨(some 10), .mv (.t 0), none, []⟩,
   ⟨(some 11), .callV (.t 10) [(.t 4)], none, []⟩])
 (.seq (.ops [
   ⟨(some 12), .load true 2 (.t 3), none, []⟩,
   ⟨(some 13), .load true 2 (.t 4), none, []⟩,
   ⟨(some 14), .callF sm [(.t 12), (.t 13)], none, []⟩,
   ⟨(some 2), .mv (.t 14), none, []⟩])
 (.ret))))))
theorem neq_str {e : EqT} {a : ByteArray} : binA .neq e (.str a) (.str a) = some (.bool false) := by
  cases e <;> simp [binA, binStr]
section
variable {P : Program}
theorem same_spec (hP : P.follows .mixedOrders = true) {f : FuncId} (hk : compFunc P f = some (59, sameCode, [.t 4])) {s : AHeap} {n1 n2 s1 s2 : AVal} {ns : List Int} {ss : List ByteArray}
    (a1 : ∀ s', Ext s s' → TV s' 1 rI n1 ns) (a2 : ∀ s', Ext s s' → TV s' 1 rI n2 ns) (b1 : ∀ s', Ext s s' → TV s' 1 rS s1 ss) (b2 : ∀ s', Ext s s' → TV s' 1 rS s2 ss) (l1 : ns.length ≤ 4611686018427387904) (l2 : ss.length ≤ 4611686018427387904)
    {Q : AOut → AHeap → Prop} (hQ : Q (.ret (.bool true)) s) : RunV P (.func (.func f) [] []) [.agg [n1, s1], .agg [n2, s2]] s Q := by
  refine RunV.drop (RunV.func hP hk (by simp) ?_)
  have hE : Ext s ((s.alloc (.cells 2 [[n1, s1]])).alloc (.cells 2 [[n2, s2]])) := ((Ext.refl _).alloc _).alloc _
  have o1 := (a1 s (.refl _)).one
  have o2 := (a2 s (.refl _)).one
  have o3 := (b1 s (.refl _)).one
  have o4 := (b2 s (.refl _)).one
  have h1 := (a1 _ hE).S
  have h2 := (a2 _ hE).S
  have h3 := (b1 _ hE).S
  have h4 := (b2 _ hE).S
  simp (disch := omega) only [sameCode, ↓CTL, VAL, Nat.reduceBEq, Nat.reduceAdd, h1, h2, h3, h4, ne_eq, not_true_eq_false, decide_false]
  refine A_loopV (α := Nat) [23, 24, 25, 26, 27, 30, 31, 32, 33, 34, 35, 36, 37, 38, 39, 40, 4, 28, 29, 5] (fun i => [(5, .int .i64 i)]) (fun i t => i ≤ ns.length ∧ t = (s.alloc (.cells 2 [[n1, s1]])).alloc (.cells 2 [[n2, s2]])) (fun i => ns.length - i) rfl (fun _ => rfl) ⟨0, ?_, Nat.zero_le _, rfl⟩ ?_
  · simp only [↓CTL, VAL, Nat.reduceBEq]; rfl
  · rintro i f' t ⟨hi, rfl⟩
    simp (disch := omega) only [↓CTL, ↓DRW, VAL, DRV, Nat.reduceBEq, Nat.reduceAdd, h1, h2, h3, h4]
    refine B_if (fun hlt => ?_) (fun hge => ?_)
    · simp (disch := omega) only [↓CTL, ↓DRW, VAL, DRV, Nat.reduceBEq, Nat.reduceAdd, h1, h2, h3, h4]
      refine dr_go [] [] ?_ ?_; · decide
      simp (disch := omega) only [↓CTL, ↓DRW, VAL, DRV, Nat.reduceBEq, Nat.reduceAdd, h1, h2, h3, h4, rI_eq, ne_eq, not_true_eq_false, decide_false]
      exact ⟨i + 1, rfl, by omega, by omega⟩
    · simp (disch := omega) only [↓CTL, ↓DRW, VAL, DRV, Nat.reduceBEq, Nat.reduceAdd, h1, h2, h3, h4]
      refine A_loopV (α := Nat) [41, 42, 43, 44, 45, 48, 49, 50, 51, 52, 53, 54, 55, 56, 57, 58, 4, 46, 47, 6] (fun i => [(6, .int .i64 i)]) (fun i t => i ≤ ss.length ∧ t = (s.alloc (.cells 2 [[n1, s1]])).alloc (.cells 2 [[n2, s2]])) (fun i => ss.length - i) rfl (fun _ => rfl) ⟨0, ?_, Nat.zero_le _, rfl⟩ ?_
      · simp only [↓CTL, VAL, Nat.reduceBEq]; rfl
      · rintro j f2 t ⟨hj, rfl⟩
        simp (disch := omega) only [↓CTL, ↓DRW, VAL, DRV, Nat.reduceBEq, Nat.reduceAdd, h1, h2, h3, h4]
        refine B_if (fun hlt => ?_) (fun hge => ?_)
        · simp (disch := omega) only [↓CTL, ↓DRW, VAL, DRV, Nat.reduceBEq, Nat.reduceAdd, h1, h2, h3, h4]
          refine dr_go [] [] ?_ ?_; · decide
          simp (disch := omega) only [↓CTL, ↓DRW, VAL, DRV, Nat.reduceBEq, Nat.reduceAdd, h1, h2, h3, h4, rS_eq, neq_str]
          exact ⟨j + 1, rfl, by omega, by omega⟩
        · simp (disch := omega) only [↓CTL, ↓DRW, VAL, DRV, Nat.reduceBEq, Nat.reduceAdd, h1, h2, h3, h4]
          exact ⟨_, rfl, rfl, hE, hQ⟩
def CallSpec (P : Program) (C : AVal) (X : Nat) (xo : AObj) (A : List Int) (B : List ByteArray) : Prop :=
  ∀ s H, X < s.next → s.objs X = some xo → H < s.next → X ≠ H → s.objs H = some (.cells 2 [[.nilS, .nilS]]) → RunV P C [.ptr H 0 0] s (fun o s' => ∃ w b nv sv, o = .ret w ∧ s.next ≤ b ∧ Hp s' H b nv sv A B ∧ (∀ M, M < s.next → M ≠ H → s'.objs M = s.objs M) ∧
    RunV P w [] s' (fun o' s'' => (∃ v, o' = .ret v) ∧ s'.next ≤ s''.next ∧ ∀ M, M < s'.next → (M < s.next ∨ b ≤ M) → s''.objs M = s'.objs M))
theorem again_spec (hP : P.follows .mixedOrders = true) {f sm : FuncId} (hk : compFunc P f = some (15, againCode sm, [.t 2])) (hs : compFunc P sm = some (59, sameCode, [.t 4])) {C : AVal} {X : Nat} {xo : AObj} {A : List Int} {B : List ByteArray} (hC : CallSpec P C X xo A B) (lA : A.length ≤ 1099511627776) (lB : B.length ≤ 1099511627776)
    {s : AHeap} (hX : X < s.next) (hxo : s.objs X = some xo) {Q : AOut → AHeap → Prop} (hQ : Q (.ret (.bool true)) s) : RunV P (.func (.func f) [] []) [C] s Q := by
  refine RunV.drop (RunV.func hP hk (by simp) ?_)
  simp (disch := omega) only [againCode, ↓CTL, VAL, Nat.reduceBEq, Nat.reduceAdd]
  refine (hC _ s.next (by simp only [AHeap.next_alloc]; omega) (by simp (disch := omega) only [VAL]; exact hxo) (by simp only [AHeap.next_alloc]; omega) (by omega) (by simp (disch := omega) only [VAL])).mono fun o s2 h => ?_
  obtain ⟨w, b, nv, sv, rfl, hb, hh, hfr, hw⟩ := h
  simp only [AHeap.next_alloc] at hb hfr hw
  have e1 := hh.bn
  simp (disch := omega) only [↓CTL, VAL, Nat.reduceBEq, Nat.reduceAdd]
  refine hw.mono fun o s3 h => ?_
  obtain ⟨⟨v, rfl⟩, hn3, hfr3⟩ := h
  have hX2 := hfr X (by omega) (by omega)
  have hX3 := hfr3 X (by omega) (by omega)
  have hB2 := hfr (s.next + 1) (by omega) (by omega)
  have hB3 := hfr3 (s.next + 1) (by omega) (by omega)
  have hA3 := hfr3 s.next (by omega) (by omega)
  simp (disch := omega) only [VAL] at hX2 hB2
  simp (disch := omega) only [↓CTL, VAL, Nat.reduceBEq, Nat.reduceAdd]
  refine (hC s3 (s.next + 1) (by omega) (hX3.trans (hX2.trans hxo)) (by omega) (by omega) (hB3.trans hB2)).mono fun o s4 h => ?_
  obtain ⟨w', b', nv', sv', rfl, hb', hh', hfr4, _⟩ := h
  have hA4 := (hfr4 s.next (by omega) (by omega)).trans (hA3.trans hh.obj)
  have hO4 := hh'.obj
  have e2 := hh'.bn
  have on : OwnS s4 b 1 rI nv A := hh.n.keep (by omega) fun M h1 h2 _ => (hfr4 M (by omega) (by omega)).trans (hfr3 M (by omega) (.inr h1))
  have os : OwnS s4 b 1 rS sv B := hh.s.keep (by omega) fun M h1 h2 _ => (hfr4 M (by omega) (by omega)).trans (hfr3 M (by omega) (.inr h1))
  simp (disch := omega) only [↓CTL, VAL, Nat.reduceBEq, Nat.reduceAdd, hA4, hO4]
  refine same_spec hP hs (fun s' h => (on.ext h).tv) (fun s' h => (hh'.n.ext h).tv) (fun s' h => (os.ext h).tv) (fun s' h => (hh'.s.ext h).tv) (by omega) (by omega) ?_
  simp (disch := omega) only [↓CTL, VAL, Nat.reduceBEq, Nat.reduceAdd]
  refine ⟨_, rfl, rfl, ⟨by omega, fun M hM => ?_⟩, hQ⟩
  rw [hfr4 M (by omega) (by omega), hfr3 M (by omega) (by omega), hfr M (by omega) (by omega)]
  simp (disch := omega) only [VAL]
end
end Go.Tc
namespace Go.Tc
set_option linter.unusedSimpArgs false
def Clo (v : AVal) : Prop := ∀ r, Ren r v v
mutual
theorem scal_ren {r : Nat → Nat → Prop} : ∀ v, scal v = true → Ren r v v
  | .bool b, _ => .bool b
  | .int k x, _ => .int k x
  | .str s, _ => .str s
  | .nilS, _ => .nilS
  | .nilP, _ => .nilP
  | .agg vs, h => .agg rfl fun i v v' h1 h2 => by
      rw [h1] at h2; cases h2
      exact scals_ren vs (by simpa [scal] using h) v (List.mem_of_getElem? h1)
  | .tup vs, h => .tup rfl fun i v v' h1 h2 => by
      rw [h1] at h2; cases h2
      exact scals_ren vs (by simpa [scal] using h) v (List.mem_of_getElem? h1)
theorem scals_ren {r : Nat → Nat → Prop} : ∀ vs, scals vs = true → ∀ v ∈ vs, Ren r v v
  | [], _ => by simp
  | v :: vs, h => by
    simp only [scals, Bool.and_eq_true] at h
    intro x hx
    have h1 := scal_ren (r := r) v h.1
    have h2 := scals_ren (r := r) vs h.2
    rcases List.mem_cons.1 hx with h3 | hx
    · rw [h3]; exact h1
    · exact h2 x hx
end
theorem Clo.scal {v : AVal} (h : Go.Tc.scal v = true) : Clo v := fun _ => scal_ren v h
theorem Clo.agg {vs : List AVal} (h : ∀ v ∈ vs, Clo v) : Clo (.agg vs) := fun r => .agg rfl fun i v v' h1 h2 => by
  rw [h1] at h2; cases h2
  exact h v (List.mem_of_getElem? h1) r
theorem Clo.rs {m i len : Nat} {ex : Bool} {rows : List (List AVal)} (h : ∀ row ∈ rows, ∀ v ∈ row, Clo v ∧ v.one = true) : Clo (.rs m rows i len ex) := fun r =>
  .rs (fun _ => rfl) id (fun j q v v' h1 h2 => by
    rw [h1] at h2; cases h2
    simp only [cellAt, Option.bind_eq_some_iff] at h1
    obtain ⟨row, hr, hv⟩ := h1
    exact (h row (List.mem_of_getElem? hr) v (List.mem_of_getElem? hv)).1 r) (fun j q v' h1 => by
    simp only [cellAt, Option.bind_eq_some_iff] at h1
    obtain ⟨row, hr, hv⟩ := h1
    exact (h row (List.mem_of_getElem? hr) v' (List.mem_of_getElem? hv)).2)
def RowsS (rows : List (List AVal)) : Prop := ∀ row ∈ rows, ∀ v ∈ row, scal v = true ∧ v.one = true
def nilHeap : AHeap := ⟨fun _ => none, 0⟩
open Classical in
noncomputable def keepS : Option AObj → Option AObj
  | some (.cells m rows) => if RowsS rows then some (.cells m rows) else none
  | _ => none
noncomputable def plus (σ s : AHeap) : AHeap := ⟨fun N => if N < σ.next then σ.objs N else if N < σ.next + s.next then keepS (s.objs (N - σ.next)) else none, σ.next + s.next⟩
def sh1 (n : Nat) : AVal → AVal
  | .ms m N i len ex => .ms m (N + n) i len ex
  | v => v
theorem plus_ext (σ s : AHeap) : Ext σ (plus σ s) := ⟨Nat.le_add_right _ _, fun _ hN => if_pos hN⟩
theorem plus_obj {σ s : AHeap} {N m : Nat} {rows : List (List AVal)} (h : s.objs N = some (.cells m rows)) (hl : N < s.next) (hs : RowsS rows) : (plus σ s).objs (N + σ.next) = some (.cells m rows) := by
  simp only [plus]
  rw [if_neg (by omega), if_pos (by omega), Nat.add_sub_cancel, h]
  simp [keepS, hs]
inductive Rk where
  | sc (v : AVal)
  | ow (m : Nat) (rows : List (List AVal))
def RP (b : Nat) (s : AHeap) : Rk → AVal → Prop
  | .sc u, v => v = u ∧ scal u = true
  | .ow m rows, v => (v = .nilS ∧ rows = []) ∨ ∃ N ex, v = .ms m N 0 rows.length ex ∧ b ≤ N ∧ N < s.next ∧ s.objs N = some (.cells m rows) ∧ RowsS rows
def RPs (b : Nat) (s : AHeap) : List Rk → List AVal → Prop
  | [], [] => True
  | k :: ks, v :: vs => RP b s k v ∧ RPs b s ks vs
  | _, _ => False
theorem RP.shift {σ s : AHeap} {k : Rk} {v : AVal} (h : RP 0 s k v) : RP σ.next (plus σ s) k (sh1 σ.next v) := by
  cases k with
  | sc u =>
    obtain ⟨rfl, hs⟩ := h
    refine ⟨?_, hs⟩
    cases v <;> first | rfl | cases hs
  | ow m rows =>
    rcases h with ⟨rfl, rfl⟩ | ⟨N, ex, rfl, _, h1, h2, h3⟩
    · exact .inl ⟨rfl, rfl⟩
    · exact .inr ⟨N + σ.next, ex, rfl, by omega, by simp only [plus]; omega, plus_obj h2 h1 h3, h3⟩
theorem RPs.shift {σ s : AHeap} : ∀ {ks : List Rk} {vs : List AVal}, RPs 0 s ks vs → RPs σ.next (plus σ s) ks (vs.map (sh1 σ.next))
  | [], [], _ => trivial
  | _ :: _, _ :: _, h => ⟨RP.shift h.1, RPs.shift h.2⟩
theorem RP.ren {σ s : AHeap} {k : Rk} {v : AVal} (h : RP 0 s k v) : Ren (fun N N' => (if N < s.next then some (N + σ.next) else none) = some N') v (sh1 σ.next v) := by
  cases k with
  | sc u =>
    obtain ⟨rfl, hs⟩ := h
    have : sh1 σ.next v = v := by cases v <;> first | rfl | cases hs
    rw [this]
    exact scal_ren v hs
  | ow m rows =>
    rcases h with ⟨rfl, rfl⟩ | ⟨N, ex, rfl, _, h1, h2, h3⟩
    · exact .nilS
    · exact .ms (by rw [if_pos h1])
theorem RPs.ren {σ s : AHeap} : ∀ {ks : List Rk} {vs : List AVal}, RPs 0 s ks vs → ∀ (i : Nat) v v', vs[i]? = some v → (vs.map (sh1 σ.next))[i]? = some v' → Ren (fun N N' => (if N < s.next then some (N + σ.next) else none) = some N') v v'
  | [], [], _, i, v, v', h1, _ => by simp at h1
  | _ :: _, a :: _, h, 0, v, v', h1, h2 => by
    simp at h1 h2; subst h1; subst h2; exact h.1.ren
  | _ :: _, _ :: _, h, i + 1, v, v', h1, h2 => by
    simp only [List.getElem?_cons_succ, List.map_cons] at h1 h2
    exact RPs.ren h.2 i v v' h1 h2
theorem CallV.uni {P : Program} {f : FuncId} {zs : List AVal} (hclo : ∀ a ∈ zs, Clo a) {vs : List AVal} {ks : List Rk} {s : AHeap} (h : CallV P (.func (.func f) [] []) zs nilHeap (.ret (.tup vs)) s) (hr : RPs 0 s ks vs) (σ : AHeap) :
    CallV P (.func (.func f) [] []) zs σ (.ret (.tup (vs.map (sh1 σ.next)))) (plus σ s) := by
  refine h.ren (fun N => if N < s.next then some (N + σ.next) else none) (fun N' => if σ.next ≤ N' ∧ N' < σ.next + s.next then some (N' - σ.next) else none) (fun N N' => ?_) (fun N N' hg => ?_) (fun N N' hg => ?_) (Nat.le_add_right _ _) (.func rfl rfl (by simp) (by simp)) rfl
    (fun i a a0 h1 h2 => by rw [h1] at h2; cases h2; exact hclo a (List.mem_of_getElem? h1) _) (fun N o hN => by simp [nilHeap] at hN) (fun N' o' hN => ?_) ?_
  · constructor
    · intro hg
      split at hg
      · cases hg
        rw [if_pos ⟨by omega, by omega⟩]; congr 1; omega
      · cases hg
    · intro hg
      split at hg
      · cases hg
        rw [if_pos (by omega)]; congr 1; omega
      · cases hg
  · simp only [nilHeap]
    split at hg
    · cases hg; omega
    · cases hg
  · simp only [plus]
    split at hg
    · cases hg; omega
    · cases hg
  · simp only [plus] at hN
    split at hN
    · rename_i hlt
      right
      exact ⟨by rw [if_neg (by omega)], hN⟩
    · rename_i hge
      left
      split at hN
      case isFalse => cases hN
      rename_i hlt2
      cases ho : s.objs (N' - σ.next) with
      | none => rw [ho] at hN; cases hN
      | some o =>
        cases o with
        | cells m rows =>
          rw [ho] at hN
          simp only [keepS] at hN
          split at hN
          · rename_i hrows
            cases hN
            refine ⟨N' - σ.next, .cells m rows, ?_, ho, .cells (fun _ => rfl) (fun j q v v' h1 h2 => ?_) (fun j q v' h1 => ?_)⟩
            · show (if N' - σ.next < s.next then some (N' - σ.next + σ.next) else none) = some N'
              rw [if_pos (by omega)]; congr 1; omega
            · rw [h1] at h2; cases h2
              simp only [cellAt, Option.bind_eq_some_iff] at h1
              obtain ⟨row, hr, hv⟩ := h1
              exact scal_ren v (hrows row (List.mem_of_getElem? hr) v (List.mem_of_getElem? hv)).1
            · simp only [cellAt, Option.bind_eq_some_iff] at h1
              obtain ⟨row, hr, hv⟩ := h1
              exact (hrows row (List.mem_of_getElem? hr) v' (List.mem_of_getElem? hv)).2
          · cases hN
        | _ => rw [ho] at hN; cases hN
  · exact .tup (by simp) hr.ren
theorem RunV.uni {P : Program} {f : FuncId} {zs : List AVal} (hclo : ∀ a ∈ zs, Clo a) (h : ∀ σ, RunV P (.func (.func f) [] []) zs σ (fun o s => ∃ ks vs, o = .ret (.tup vs) ∧ RPs σ.next s ks vs ∧ Ext σ s)) :
    ∃ ks, ∀ σ, RunV P (.func (.func f) [] []) zs σ (fun o s => ∃ vs, o = .ret (.tup vs) ∧ RPs σ.next s ks vs ∧ Ext σ s) := by
  obtain ⟨o, s, ⟨ks, vs, rfl, hr, _⟩, hc⟩ := h nilHeap
  exact ⟨ks, fun σ => ⟨_, _, ⟨_, rfl, hr.shift, plus_ext σ s⟩, hc.uni hclo hr σ⟩⟩
theorem RunV.uniG {P : Program} {f : FuncId} {zs : List AVal} (hclo : ∀ a ∈ zs, Clo a) {γ : Type} (mk : γ → List Rk) (h : ∀ σ, RunV P (.func (.func f) [] []) zs σ (fun o s => ∃ c vs, o = .ret (.tup vs) ∧ RPs σ.next s (mk c) vs ∧ Ext σ s)) :
    ∃ c, ∀ σ, RunV P (.func (.func f) [] []) zs σ (fun o s => ∃ vs, o = .ret (.tup vs) ∧ RPs σ.next s (mk c) vs ∧ Ext σ s) := by
  obtain ⟨o, s, ⟨c, vs, rfl, hr, _⟩, hc⟩ := h nilHeap
  exact ⟨c, fun σ => ⟨_, _, ⟨_, rfl, hr.shift, plus_ext σ s⟩, hc.uni hclo hr σ⟩⟩
theorem RPs.two {b : Nat} {s : AHeap} {k1 k2 : Rk} {vs : List AVal} (h : RPs b s [k1, k2] vs) : ∃ v1 v2, vs = [v1, v2] ∧ RP b s k1 v1 ∧ RP b s k2 v2 := by
  match vs, h with
  | [v1, v2], h => exact ⟨v1, v2, rfl, h.1, h.2.1⟩
theorem RPs.three {b : Nat} {s : AHeap} {k1 k2 k3 : Rk} {vs : List AVal} (h : RPs b s [k1, k2, k3] vs) : ∃ v1 v2 v3, vs = [v1, v2, v3] ∧ RP b s k1 v1 ∧ RP b s k2 v2 ∧ RP b s k3 v3 := by
  match vs, h with
  | [v1, v2, v3], h => exact ⟨v1, v2, v3, rfl, h.1, h.2.1, h.2.2.1⟩
def FlatR {α : Type} (f : α → List AVal) : Prop := ∀ x, ∀ v ∈ f x, scal v = true ∧ v.one = true
theorem FlatR.rows {α : Type} {f : α → List AVal} (h : FlatR f) (l : List α) : RowsS (l.map f) := fun row hr => by
  obtain ⟨x, _, rfl⟩ := List.mem_map.1 hr
  exact h x
theorem OwnS.rp {α : Type} {s : AHeap} {b m : Nat} {f : α → List AVal} {v : AVal} {l : List α} (h : OwnS s b m f v l) (hf : FlatR f) : RP b s (.ow m (l.map f)) v := by
  rcases h with ⟨rfl, rfl⟩ | ⟨N, ex, rfl, h1, h2, h3⟩
  · exact .inl ⟨rfl, rfl⟩
  · exact .inr ⟨N, ex, by simp, h1, h2, h3, hf.rows l⟩
theorem RP.own {α : Type} {s : AHeap} {b m : Nat} {f : α → List AVal} {v : AVal} {l : List α} (h : RP b s (.ow m (l.map f)) v) : OwnS s b m f v l := by
  rcases h with ⟨rfl, h⟩ | ⟨N, ex, rfl, h1, h2, h3, _⟩
  · exact .inl ⟨rfl, by simpa using h⟩
  · exact .inr ⟨N, ex, by simp, h1, h2, h3⟩
def OwnW {α : Type} (m : Nat) (f : α → List AVal) (v : AVal) (l : List α) : Nat → AHeap → AVal → AVal → Prop := fun H s nv sv =>
  (v = .nilS ∧ l = []) ∨ ∃ N ex, v = .ms m N 0 l.length ex ∧ N < s.next ∧ N ≠ H ∧ Off nv N ∧ Off sv N ∧ s.objs N = some (.cells m (l.map f))
theorem OwnW.stays {α : Type} {m : Nat} {f : α → List AVal} {v : AVal} {l : List α} : Stays (OwnW m f v l) := by
  intro H s nv sv s' nv' sv' h hst
  rcases h with h | ⟨N, ex, h0, h1, h2, h3, h4, h5⟩
  · exact .inl h
  · obtain ⟨g1, g2, g3⟩ := hst.2 N h1 h2 h3 h4
    exact .inr ⟨N, ex, h0, Nat.lt_of_lt_of_le h1 hst.1, h2, g2, g3, g1.trans h5⟩
theorem OwnW.tv {α : Type} [Inhabited α] {m : Nat} {f : α → List AVal} {v : AVal} {l : List α} {H : Nat} {s : AHeap} {nv sv : AVal} (h : OwnW m f v l H s nv sv) : TV s m f v l := by
  rcases h with ⟨rfl, rfl⟩ | ⟨N, ex, rfl, h1, h2, h3, h4, h5⟩
  · exact .nil
  · exact .ms h5 (by omega) (by simp)
theorem OwnS.w {α : Type} {s : AHeap} {b m : Nat} {f : α → List AVal} {v : AVal} {l : List α} (h : OwnS s b m f v l) {H : Nat} (hH : H < b) : OwnW m f v l H s .nilS .nilS := by
  rcases h with h | ⟨N, ex, h0, h1, h2, h3⟩
  · exact .inl h
  · exact .inr ⟨N, ex, h0, h2, by omega, (fun _ _ _ _ h => by cases h), (fun _ _ _ _ h => by cases h), h3⟩
theorem Hp.new {s : AHeap} {H : Nat} (hH : H < s.next) (h : s.objs H = some (.cells 2 [[.nilS, .nilS]])) : Hp s H s.next .nilS .nilS [] [] :=
  ⟨h, hH, Nat.le_refl _, .nil, .nil, fun _ _ _ _ _ _ h => by cases h⟩
theorem putOne {P : Program} {W : Nat → AHeap → AVal → AVal → Prop} {put x : AVal} {A : List Int} {B : List ByteArray} (h : PutSpec P W put x A B) {s : AHeap} {H b : Nat} {nv sv : AVal} {ns : List Int} {ss : List ByteArray} (hw : W H s nv sv) (hp : Hp s H b nv sv ns ss)
    (l1 : ns.length + A.length ≤ 1099511627776) (l2 : ss.length + B.length ≤ 1099511627776) {Q : AOut → AHeap → Prop} (hQ : ∀ v s' nv' sv', Hp s' H b nv' sv' (ns ++ A) (ss ++ B) → Step H s nv sv s' nv' sv' → Q (.ret v) s') : RunV P put [.ptr H 0 0, x] s Q :=
  (h s H b nv sv ns ss hw hp l1 l2).mono fun o s' ⟨⟨v, hv⟩, nv', sv', h1, h2⟩ => hv ▸ hQ v s' nv' sv' h1 h2
end Go.Tc
namespace Go.Tc
set_option linter.unusedSimpArgs false
theorem putAll_spec {P : Program} (hP : P.follows .mixedOrders = true) {f : FuncId} {n : Nat} {r : List (Nat × Bool × Nat × FuncId)} (hk : compFunc P f = some (n, .seq (.ops [⟨some 2, .box (.t 0), none, []⟩]) (putBody 2 1 4 r), [])) (hn : 2 ≤ n)
    {row : List AVal} (h1 : row.all AVal.one = true) {A : List Int} {B : List ByteArray} (hr : PutsAll P WTrue row r A B) (hne : r ≠ []) {s : AHeap} {H b : Nat} {nv sv : AVal} {ns : List Int} {ss : List ByteArray} (hp : Hp s H b nv sv ns ss) (hl1 : ns.length + A.length ≤ 1099511627776) (hl2 : ss.length + B.length ≤ 1099511627776)
    {Q : AOut → AHeap → Prop} (hQ : ∀ v s' nv' sv', Hp s' H b nv' sv' (ns ++ A) (ss ++ B) → Step H s nv sv s' nv' sv' → Q (.ret v) s') : RunV P (.func (.func f) [] []) [.agg row, .ptr H 0 0] s Q := by
  refine RunV.func hP hk (by simpa using hn) ?_
  have hlt := Nat.lt_of_lt_of_le hp.hb hp.bn
  simp (disch := omega) only [↓CTL, VAL, Nat.reduceBEq, h1]
  refine putBody_spec WTrue.stays (m := row.length) (Bn := s.next) (H := H) (b := b) r A B hr hne 4 _ _ nv sv ns ss _ (by omega) (by omega) ?_ ?_ (by simp) (by omega) (hp.n.off_new (Nat.le_refl _)) (hp.s.off_new (Nat.le_refl _)) (objs_new rfl) trivial (hp.alloc _) hl1 hl2 fun env' s' nv' sv' hd hp' hst => ?_
  · simp only [VAL, Nat.reduceBEq]
  · simp only [VAL, Nat.reduceBEq]
  · rw [retA_normal]
    refine ⟨hd, ?_⟩
    simp only [resAs]
    exact hQ _ _ _ _ hp' (Step.alloc.trans hst)
theorem nothing_spec {P : Program} (hP : P.follows .mixedOrders = true) {f : FuncId} (hk : compFunc P f = some (0, .skip, [])) (s : AHeap) : RunV P (.func (.func f) [] []) [] s (fun o s' => (∃ v, o = .ret v) ∧ s' = s) := by
  refine RunV.func hP hk (by simp) ?_
  simp (disch := omega) only [↓CTL, VAL, Nat.reduceBEq]
  exact ⟨_, rfl⟩
theorem wiped {P : Program} {w : AVal} {s s' : AHeap} {b : Nat} {Q : AOut → AHeap → Prop} (h : RunV P w [] s' (fun o s'' => (∃ v, o = .ret v) ∧ s'.next ≤ s''.next ∧ ∀ M, M < s'.next → (M < s.next ∨ b ≤ M) → s''.objs M = s'.objs M)) :
    RunV P w [] s' (fun o s'' => (∃ v, o = .ret v) ∧ s'.next ≤ s''.next ∧ ∀ M, M < s'.next → (M < s.next ∨ b ≤ M) → s''.objs M = s'.objs M) := h
def PB1 (P : Program) (W : Nat → AHeap → AVal → AVal → Prop) (put x : AVal) (n m : Nat) : Prop := ∃ A B, A.length ≤ n ∧ B.length ≤ m ∧ PutSpec P W put x A B
def PB (P : Program) (W : Nat → AHeap → AVal → AVal → Prop) (row : List AVal) (r : List (Nat × Bool × Nat × FuncId)) (n m : Nat) : Prop := ∃ A B, A.length ≤ n ∧ B.length ≤ m ∧ PutsAll P W row r A B
theorem PB.nil {P : Program} {W : Nat → AHeap → AVal → AVal → Prop} {row : List AVal} : PB P W row [] 0 0 := ⟨[], [], Nat.le_refl _, Nat.le_refl _, .nil⟩
theorem PB.cons {P : Program} {W : Nat → AHeap → AVal → AVal → Prop} {row : List AVal} {off k : Nat} {g : Bool} {f : FuncId} {v : AVal} {r : List (Nat × Bool × Nat × FuncId)} {n m n1 m1 : Nat} (h : partA g k off row = some v) (hp : PB1 P W (.func (.func f) [] []) v n1 m1) (hr : PB P W row r n m) :
    PB P W row ((off, g, k, f) :: r) (n1 + n) (m1 + m) := by
  obtain ⟨A, B, a, b, q⟩ := hp
  obtain ⟨A', B', a', b', q'⟩ := hr
  exact ⟨A ++ A', B ++ B', by rw [List.length_append]; omega, by rw [List.length_append]; omega, .cons h q q'⟩
theorem PB1.weak {P : Program} {W : Nat → AHeap → AVal → AVal → Prop} {put x : AVal} {n m n' m' : Nat} (h : PB1 P W put x n m) (hn : n ≤ n') (hm : m ≤ m') : PB1 P W put x n' m' :=
  let ⟨A, B, a, b, q⟩ := h; ⟨A, B, Nat.le_trans a hn, Nat.le_trans b hm, q⟩
theorem len_fm {α β : Type} {l : List α} {f : α → List β} {c : Nat} (h : ∀ x, (f x).length ≤ c) : (l.flatMap f).length ≤ l.length * c := by
  induction l with
  | nil => simp
  | cons a l ih => simp only [List.flatMap_cons, List.length_append, List.length_cons, Nat.add_mul]; have := h a; omega
theorem alloc_setN {σ : AHeap} {N : Nat} {o o' : AObj} (h : N = σ.next) : (σ.alloc o).set N o' = σ.alloc o' := by subst h; exact alloc_set
def Djs (vs : List AVal) : Prop := vs.Pairwise fun a b => ∀ M, ¬ Off a M → Off b M
theorem off_sh {n : Nat} {v : AVal} {M : Nat} : Off (sh1 n v) M ↔ (M < n ∨ Off v (M - n)) := by
  cases v with
  | ms m N i len ex =>
    constructor
    · intro h
      by_cases hc : M < n
      · exact .inl hc
      · right
        intro m' i' len' ex' he
        cases he
        exact h m i len ex (by simp only [sh1]; congr 1; omega)
    · rintro (h | h) m' i' len' ex' he
      · simp only [sh1] at he; cases he; omega
      · simp only [sh1] at he; cases he
        exact h m i len ex (by congr 1; omega)
  | _ => exact ⟨fun _ => .inr (fun _ _ _ _ h => by cases h), fun _ => (fun _ _ _ _ h => by cases h)⟩
theorem Djs.shift {vs : List AVal} (h : Djs vs) (n : Nat) : Djs (vs.map (sh1 n)) := by
  refine List.Pairwise.map _ (fun a b hab M hM => ?_) h
  rw [off_sh] at hM ⊢
  by_cases hc : M < n
  · exact .inl hc
  · exact .inr (hab _ fun h => hM (.inr h))
theorem RunV.uniD {P : Program} {f : FuncId} {zs : List AVal} (hclo : ∀ a ∈ zs, Clo a) {γ : Type} (mk : γ → List Rk) (h : ∀ σ, RunV P (.func (.func f) [] []) zs σ (fun o s => ∃ c vs, o = .ret (.tup vs) ∧ RPs σ.next s (mk c) vs ∧ Ext σ s ∧ Djs vs)) :
    ∃ c, ∀ σ, RunV P (.func (.func f) [] []) zs σ (fun o s => ∃ vs, o = .ret (.tup vs) ∧ RPs σ.next s (mk c) vs ∧ Ext σ s ∧ Djs vs) := by
  obtain ⟨o, s, ⟨c, vs, rfl, hr, _, hd⟩, hc⟩ := h nilHeap
  exact ⟨c, fun σ => ⟨_, _, ⟨_, rfl, hr.shift, plus_ext σ s, hd.shift _⟩, hc.uni hclo hr σ⟩⟩
end Go.Tc
namespace Go.Tc
set_option linter.unusedSimpArgs false
set_option linter.unusedVariables false
noncomputable section
inductive Tr (α : Type) where
  | nil
  | node (v : Option α) (l r : Tr α)
def pathF : Nat → Nat → List Bool
  | 0, _ => []
  | k + 1, n => bif Nat.beq n 0 then [] else bif Nat.beq (Nat.mod n 2) 1 then true :: pathF k (Nat.div n 2) else false :: pathF k (Nat.sub (Nat.div n 2) 1)
def path (n : Nat) : List Bool := pathF (Nat.succ n) n
def unpath : List Bool → Nat
  | [] => 0
  | true :: p => 2 * unpath p + 1
  | false :: p => 2 * unpath p + 2
theorem unpath_path : ∀ (k n : Nat), n < k → unpath (pathF k n) = n := by
  intro k
  induction k with
  | zero => intro n h; omega
  | succ k ih =>
    intro n h
    have e1 : Nat.mod n 2 = n % 2 := rfl
    have e2 : Nat.div n 2 = n / 2 := rfl
    simp only [pathF, e1, e2, Nat.sub_eq, cond_eq_ite, Nat.beq_eq]
    split
    · rename_i h0; simp [unpath, h0]
    · split
      · simp only [unpath]; rw [ih _ (by omega)]; omega
      · simp only [unpath]; rw [ih _ (by omega)]; omega
theorem path_inj {i j : Nat} (h : path i = path j) : i = j := by
  have := congrArg unpath h
  rwa [path, path, unpath_path _ _ (Nat.lt_succ_self _), unpath_path _ _ (Nat.lt_succ_self _)] at this
namespace Tr
variable {α : Type}
def getP (t : Tr α) : List Bool → Option α :=
  Tr.rec (motive := fun _ => List Bool → Option α) (fun _ => none)
    (fun v _ _ ihl ihr p => List.rec (motive := fun _ => Option α) v (fun b p' _ => Bool.rec (motive := fun _ => Option α) (ihr p') (ihl p') b) p) t
theorem getP_nil {p : List Bool} : getP (.nil : Tr α) p = none := rfl
theorem getP_node {v : Option α} {l r : Tr α} : getP (.node v l r) [] = v := rfl
theorem getP_l {v : Option α} {l r : Tr α} {p : List Bool} : getP (.node v l r) (true :: p) = getP l p := rfl
theorem getP_r {v : Option α} {l r : Tr α} {p : List Bool} : getP (.node v l r) (false :: p) = getP r p := rfl
def setP (x : Option α) : List Bool → Tr α → Tr α
  | [], t => (match t with | .nil => .node x .nil .nil | .node _ l r => .node x l r)
  | b :: p, t => (match t with
    | .nil => (match b with | true => .node none (setP x p .nil) .nil | false => .node none .nil (setP x p .nil))
    | .node v l r => (match b with | true => .node v (setP x p l) r | false => .node v l (setP x p r)))
def setO (x : Option α) (p : List Bool) : Tr α → Option (Tr α) :=
  List.rec (motive := fun _ => Tr α → Option (Tr α))
    (fun t => Tr.rec (motive := fun _ => Option (Tr α)) (some (.node x .nil .nil)) (fun _ l r _ _ => some (.node x l r)) t)
    (fun b _ ih t => Tr.rec (motive := fun _ => Option (Tr α))
      (Bool.rec (motive := fun _ => Option (Tr α)) (Option.rec (motive := fun _ => Option (Tr α)) none (fun r => some (.node none .nil r)) (ih .nil)) (Option.rec (motive := fun _ => Option (Tr α)) none (fun l => some (.node none l .nil)) (ih .nil)) b)
      (fun v l r _ _ => Bool.rec (motive := fun _ => Option (Tr α)) (Option.rec (motive := fun _ => Option (Tr α)) none (fun r' => some (.node v l r')) (ih r)) (Option.rec (motive := fun _ => Option (Tr α)) none (fun l' => some (.node v l' r)) (ih l)) b) t) p
theorem setO_eq {x : Option α} : ∀ (p : List Bool) (t : Tr α), setO x p t = some (setP x p t) := by
  intro p
  induction p with
  | nil => intro t; cases t <;> rfl
  | cons b p ih =>
    intro t
    cases t with
    | nil =>
      cases b
      · show Option.rec (motive := fun _ => Option (Tr α)) none (fun r => some (.node none .nil r)) (setO x p .nil) = _
        rw [ih]; rfl
      · show Option.rec (motive := fun _ => Option (Tr α)) none (fun l => some (.node none l .nil)) (setO x p .nil) = _
        rw [ih]; rfl
    | node v l r =>
      cases b
      · show Option.rec (motive := fun _ => Option (Tr α)) none (fun r' => some (.node v l r')) (setO x p r) = _
        rw [ih]; rfl
      · show Option.rec (motive := fun _ => Option (Tr α)) none (fun l' => some (.node v l' r)) (setO x p l) = _
        rw [ih]; rfl
theorem setP_getP {x : Option α} : ∀ (p : List Bool) (t : Tr α) (q : List Bool), getP (setP x p t) q = if q = p then x else getP t q := by
  intro p
  induction p with
  | nil =>
    intro t q
    cases t <;> cases q <;> simp [setP, getP_nil, getP_node]
    · rename_i b q; cases b <;> simp [getP_nil, getP_l, getP_r]
    · rename_i b q; cases b <;> simp [getP_l, getP_r]
  | cons b p ih =>
    intro t q
    cases t <;> cases q <;> cases b <;> simp [setP, getP_nil, getP_node]
    all_goals
      rename_i b' q
      cases b' <;> simp [ih, getP_nil, getP_l, getP_r]
def get (t : Tr α) (i : Nat) : Option α := getP t (path i)
def set (k : Nat) (t : Tr α) (i : Nat) (x : Option α) : Option (Tr α) := setO x (path i) t
theorem set_get (k : Nat) (t : Tr α) (i : Nat) (x : Option α) (t' : Tr α) (h : set k t i x = some t') (j : Nat) : t'.get j = if j = i then x else t.get j := by
  simp only [set, setO_eq] at h
  cases h
  simp only [get, setP_getP]
  by_cases h : j = i
  · rw [if_pos h, if_pos (by rw [h])]
  · rw [if_neg h, if_neg (fun hh => h (path_inj hh))]
end Tr
structure XE where
  tr : Tr AVal
  base : Nat → AVal
def XE.t (E : XE) (i : Nat) : AVal := match E.tr.get i with | some v => v | none => E.base i
def envX (n : Nat) (E : XE) : AEnv := { n, t := E.t, ds := [] }
def XE.put (E : XE) : Option Nat → AVal → Option XE
  | none, _ => some E
  | some d, v => match E.tr.set 64 d (some v) with | some tr => some ⟨tr, E.base⟩ | none => none
theorem XE.put_env {n : Nat} {E E' : XE} {d : Option Nat} {v : AVal} (h : E.put d v = some E') : envX n E' = (envX n E).put d v := by
  cases d with
  | none => cases h; rfl
  | some d =>
    simp only [XE.put] at h
    split at h
    · rename_i tr ht
      cases h
      simp only [envX, AEnv.put, AEnv.set]
      congr 1
      funext i
      simp only [XE.t, Tr.set_get _ _ _ _ _ ht]
      by_cases hi : i = d <;> simp [hi]
    · cases h
structure XH where
  H : Tr AObj
  nx : Nat
  lo : Nat
def XH.toA (h : XH) : AHeap := { objs := fun N => h.H.get N, next := h.nx }
def updK (H : Tr AObj) (nx lo N : Nat) : Option XH := Bool.rec (motive := fun _ => Option XH) (some ⟨H, nx, lo⟩) (some ⟨H, nx, N⟩) (Nat.ble (Nat.succ N) lo)
def XH.upd (h : XH) (N : Nat) (o : Option AObj) : Option XH :=
  match h with
  | ⟨H0, nx, lo⟩ => match H0.set 64 N o with
    | some H => updK H nx lo N
    | none => none
def Pres (h h' : XH) : Prop := h.nx ≤ h'.nx ∧ h'.lo ≤ h.lo ∧ ∀ N, N < h.nx → N < h'.lo → h'.toA.objs N = h.toA.objs N
theorem Pres.refl (h : XH) : Pres h h := ⟨Nat.le_refl _, Nat.le_refl _, fun _ _ _ => rfl⟩
theorem Pres.trans {a b c : XH} (h : Pres a b) (k : Pres b c) : Pres a c :=
  ⟨Nat.le_trans h.1 k.1, Nat.le_trans k.2.1 h.2.1, fun N h1 h2 => (k.2.2 N (Nat.lt_of_lt_of_le h1 h.1) h2).trans (h.2.2 N h1 (Nat.lt_of_lt_of_le h2 k.2.1))⟩
theorem XH.upd_spec {h h' : XH} {N : Nat} {o : Option AObj} (hu : h.upd N o = some h') : h'.nx = h.nx ∧ (∀ M, h'.toA.objs M = if M = N then o else h.toA.objs M) ∧ h'.lo ≤ h.lo ∧ h'.lo ≤ N := by
  obtain ⟨H0, nx, lo⟩ := h
  simp only [XH.upd] at hu
  split at hu
  · rename_i H hH
    have hg := Tr.set_get _ _ _ _ _ hH
    unfold updK at hu
    cases hb : Nat.ble (Nat.succ N) lo with
    | true =>
      rw [hb] at hu; cases hu
      have : N < lo := by rw [Nat.ble_eq] at hb; exact hb
      exact ⟨rfl, hg, Nat.le_of_lt this, Nat.le_refl _⟩
    | false =>
      rw [hb] at hu; cases hu
      have : ¬ N < lo := fun x => by rw [Nat.ble_eq_true_of_le (show N.succ ≤ lo from x)] at hb; cases hb
      exact ⟨rfl, hg, Nat.le_refl _, by show lo ≤ N; omega⟩
  · cases hu
theorem XH.upd_pres {h h' : XH} {N : Nat} {o : Option AObj} (hu : h.upd N o = some h') : Pres h h' := by
  obtain ⟨h1, h2, h3, h4⟩ := XH.upd_spec hu
  exact ⟨by omega, h3, fun M _ hM => by rw [h2, if_neg (by omega)]⟩
def XH.new (h : XH) (o : Option AObj) : Option XH :=
  match h with
  | ⟨H0, nx, lo⟩ => match H0.set 64 nx o with
    | some H => some ⟨H, Nat.succ nx, lo⟩
    | none => none
def pureOp : AOp → Bool
  | .alloc _ | .box _ | .buildS .. | .store .. | .mkM _ | .mkS .. | .upd .. | .rngStr _ | .nextStr _ | .app .. | .cpy .. => false
  | _ => true
def nameV (d : Nat) : AVal → Nat
  | .ptr N _ _ | .ms _ N _ _ _ | .map N | .iter N => N
  | _ => d
def nmOf (d : Nat) (env : AEnv) : AOp → Nat
  | .store _ a _ => nameV d (env.ev a)
  | .upd _ m _ _ => nameV d (env.ev m)
  | .nextStr x => nameV d (env.ev x)
  | .app _ _ s _ => nameV d (env.ev s)
  | .cpy _ d' _ => nameV d (env.ev d')
  | _ => d
theorem opA_pure {o : AOp} {env : AEnv} {σ σ1 : AHeap} {v : AVal} (hp : pureOp o = true) (h : opA o env σ = some (v, σ1)) : σ1 = σ := by
  cases o <;> simp only [pureOp] at hp <;> first | (cases hp; done) | skip
  all_goals
    simp only [opA] at h
    first
    | (cases h; rfl)
    | (simp only [Option.map_eq_some_iff, Prod.mk.injEq] at h; obtain ⟨_, _, _, rfl⟩ := h; rfl)
    | (repeat' split at h) <;> first | (cases h; done) | (cases h; rfl) | (simp only [Option.map_eq_some_iff, Prod.mk.injEq] at h; obtain ⟨_, _, _, rfl⟩ := h; rfl)
theorem opA_delta {o : AOp} {env : AEnv} {σ σ1 : AHeap} {v : AVal} (h : opA o env σ = some (v, σ1)) : σ.next ≤ σ1.next ∧ ∀ M, M ≠ nmOf σ.next env o → M ≠ σ.next → σ1.objs M = σ.objs M := by
  by_cases hp : pureOp o = true
  · rw [opA_pure hp h]; exact ⟨Nat.le_refl _, fun _ _ _ => rfl⟩
  have al : ∀ o', (σ.alloc o').next = σ.next + 1 := fun _ => rfl
  cases o <;> simp only [pureOp, not_true_eq_false] at hp <;> simp only [opA] at h
  case alloc => cases h; exact ⟨by simp, fun M _ h2 => by rw [AHeap.objs_alloc, if_neg h2]⟩
  case box => split at h <;> cases h; exact ⟨by simp, fun M _ h2 => by rw [AHeap.objs_alloc, if_neg h2]⟩
  case buildS => split at h <;> cases h; exact ⟨by simp, fun M _ h2 => by rw [AHeap.objs_alloc, if_neg h2]⟩
  case mkM => cases h; exact ⟨by simp, fun M _ h2 => by rw [AHeap.objs_alloc, if_neg h2]⟩
  case mkS =>
    split at h
    · split at h <;> cases h; exact ⟨by simp, fun M _ h2 => by rw [AHeap.objs_alloc, if_neg h2]⟩
    · cases h
  case rngStr => split at h <;> cases h; exact ⟨by simp, fun M _ h2 => by rw [AHeap.objs_alloc, if_neg h2]⟩
  case store n a x =>
    simp only [Option.map_eq_some_iff, Prod.mk.injEq] at h
    obtain ⟨s, hs, _, rfl⟩ := h
    unfold storeA at hs
    simp only [nmOf]
    split at hs
    · rename_i N i k he
      rw [he]; simp only [nameV]
      (repeat' split at hs) <;> cases hs
      exact ⟨Nat.le_refl _, fun M h1 _ => by rw [AHeap.objs_set, if_neg h1]⟩
    · cases hs
  case upd K m i x =>
    simp only [nmOf]
    split at h
    · rename_i N k he hk
      rw [he]; simp only [nameV]
      (repeat' split at h) <;> cases h <;> exact ⟨Nat.le_refl _, fun M h1 _ => by rw [AHeap.objs_set, if_neg h1]⟩
    · cases h
  case nextStr x =>
    simp only [nmOf]
    split at h
    · rename_i N he
      rw [he]; simp only [nameV]
      (repeat' split at h) <;> cases h
      · exact ⟨Nat.le_refl _, fun M h1 _ => by rw [AHeap.objs_set, if_neg h1]⟩
      · exact ⟨Nat.le_refl _, fun M h1 _ => rfl⟩
    · cases h
  case app m b s x =>
    simp only [nmOf]
    unfold appA at h
    split at h
    · cases h
    · split at h
      · (repeat' split at h) <;> cases h
        · exact ⟨Nat.le_refl _, fun M h1 _ => rfl⟩
        · exact ⟨by simp, fun M _ h2 => by rw [AHeap.objs_alloc, if_neg h2]⟩
      · rename_i N _ len ex he
        rw [he]; simp only [nameV]
        (repeat' split at h) <;> cases h
        · exact ⟨Nat.le_refl _, fun M h1 _ => rfl⟩
        · exact ⟨by simp, fun M _ h2 => by rw [AHeap.objs_alloc, if_neg h2]⟩
        · exact ⟨by simp, fun M h1 h2 => by rw [AHeap.objs_alloc, if_neg (by simpa using h2), AHeap.objs_kill, if_neg h1]⟩
      all_goals
        (repeat' split at h) <;> cases h
        all_goals first
          | exact ⟨Nat.le_refl _, fun M h1 _ => rfl⟩
          | exact ⟨by simp, fun M _ h2 => by rw [AHeap.objs_alloc, if_neg h2]⟩
  case cpy m d s =>
    simp only [nmOf]
    unfold cpyA at h
    split at h
    · cases h
    · split at h
      · cases h; exact ⟨Nat.le_refl _, fun M h1 _ => rfl⟩
      · rename_i N i len _ he
        rw [he]; simp only [nameV]
        (repeat' split at h) <;> cases h
        · exact ⟨Nat.le_refl _, fun M h1 _ => rfl⟩
        · exact ⟨Nat.le_refl _, fun M h1 _ => by rw [AHeap.objs_set, if_neg h1]⟩
      · cases h
end
end Go.Tc
namespace Go.Tc
set_option linter.unusedSimpArgs false
set_option linter.unusedVariables false
noncomputable section
abbrev CT := AVal → List AVal → XH → Option (AVal × XH)
structure OpR where
  run : AEnv → AHeap → Option (AVal × AHeap)
def opW (o : AOp) : OpR :=
  match o with
  | .mv x => ⟨fun env σ => let e := env.ev; some (e x, σ)⟩
  | .pick c a b => ⟨fun env σ => let e := env.ev; (match e c with | .bool t => some (if t then e a else e b, σ) | _ => none)⟩
  | .alloc z => ⟨fun env σ => some (.ptr σ.next 0 0, σ.alloc (.cells z.length [z]))⟩
  | .box x => ⟨fun env σ => let e := env.ev; if (e x).cells.all AVal.one then some (.ptr σ.next 0 0, σ.alloc (.cells (e x).cells.length [(e x).cells])) else none⟩
  | .build z parts => ⟨fun env σ => let e := env.ev; let v (x : Option AVal) : Option (AVal × AHeap) := x.map (·, σ); v ((fillA z (parts.map fun p => (p.1, p.2.1, e p.2.2))).map .agg)⟩
  | .buildS m z len parts => ⟨fun env σ => let e := env.ev; match fillRows m (List.replicate len z) (parts.map fun p => (p.1, e p.2)) with
    | some rows => some (.ms m σ.next 0 len true, σ.alloc (.cells m rows))
    | none => none⟩
  | .load agg n x => ⟨fun env σ => let e := env.ev; let v (x : Option AVal) : Option (AVal × AHeap) := x.map (·, σ); v (loadA σ agg n (e x))⟩
  | .store n a x => ⟨fun env σ => let e := env.ev; (storeA σ n (e a) (e x)).map (.tup [], ·)⟩
  | .nilck x => ⟨fun env σ => let e := env.ev; (match e x with | .ptr .. | .rptr .. | .func (.func _) .. | .iface .. => some (e x, σ) | _ => none)⟩
  | .bin op q x y => ⟨fun env σ => let e := env.ev; let v (x : Option AVal) : Option (AVal × AHeap) := x.map (·, σ); v (binA op q (e x) (e y))⟩
  | .un op x => ⟨fun env σ => let e := env.ev; let v (x : Option AVal) : Option (AVal × AHeap) := x.map (·, σ); v (unA op (e x))⟩
  | .conv c x => ⟨fun env σ => let e := env.ev; (match c, e x with
    | .int k, .int _ n => some (.int k (k.wrap n), σ)
    | .id, .str s => some (.str s, σ)
    | .strOfInt, .int _ n => some (.str (Utf8.encode n), σ)
    | _, _ => none)⟩
  | .mkI t x => ⟨fun env σ => let e := env.ev; some (.iface t (e x), σ)⟩
  | .mkF fn a b => ⟨fun env σ => let e := env.ev; some (.func fn (a.map e) (b.map e), σ)⟩
  | .mkM K => ⟨fun env σ => some (.map σ.next, σ.alloc (.map K (fun _ => none) 0))⟩
  | .mkS z bytes l c => ⟨fun env σ => let e := env.ev; (match e l, e c with
    | .int _ l, .int _ c => if 0 ≤ l ∧ l ≤ c ∧ c * bytes ≤ 70368744177664 ∧ c ≤ 70368744177664 then
        some (.ms z.length σ.next 0 l.toNat (l == c), σ.alloc (.cells z.length (List.replicate l.toNat z))) else none
    | _, _ => none)⟩
  | .slS m x lo hi mx => ⟨fun env σ => let e := env.ev; let v (x : Option AVal) : Option (AVal × AHeap) := x.map (·, σ); v (sliceA m (e x) (lo.map e) (hi.map e) (mx.map e))⟩
  | .slStr x lo hi => ⟨fun env σ => let e := env.ev; let v (x : Option AVal) : Option (AVal × AHeap) := x.map (·, σ); (match e x with
    | .str s => v ((bound (hi.map e) s.size s.size).bind fun h => (bound (lo.map e) 0 h).map fun l => .str (s.extract l h))
    | _ => none)⟩
  | .slA n m x lo hi => ⟨fun env σ => let e := env.ev; let v (x : Option AVal) : Option (AVal × AHeap) := x.map (·, σ); if lo.isSome || hi.isSome then none else v (slAA n m (e x))⟩
  | .fa off x => ⟨fun env σ => let e := env.ev; let v (x : Option AVal) : Option (AVal × AHeap) := x.map (·, σ); v (addrOf off (e x))⟩
  | .fld agg n off x => ⟨fun env σ => let e := env.ev; let v (x : Option AVal) : Option (AVal × AHeap) := x.map (·, σ); (match e x with | .agg cs => v (partA agg n off cs) | _ => none)⟩
  | .ixA len m x i => ⟨fun env σ => let e := env.ev; let v (x : Option AVal) : Option (AVal × AHeap) := x.map (·, σ); (match e i with
    | .int _ i => v ((idx i len).bind fun j => addrOf (j * m) (e x))
    | _ => none)⟩
  | .ixS m x i => ⟨fun env σ => let e := env.ev; let v (x : Option AVal) : Option (AVal × AHeap) := x.map (·, σ); (match e i with | .int _ i => v (ixSA m (e x) i) | _ => none)⟩
  | .ixV len agg m x i => ⟨fun env σ => let e := env.ev; let v (x : Option AVal) : Option (AVal × AHeap) := x.map (·, σ); (match e x, e i with
    | .agg cs, .int _ i => v ((idx i len).bind fun j => partA agg m (j * m) cs)
    | _, _ => none)⟩
  | .ixStr x i => ⟨fun env σ => let e := env.ev; let v (x : Option AVal) : Option (AVal × AHeap) := x.map (·, σ); (match e x, e i with
    | .str s, .int _ i => v (if 0 ≤ i then (s[i.toNat]?).map fun b => .int .u8 b.toNat else none)
    | _, _ => none)⟩
  | .look K z x i ok => ⟨fun env σ => let e := env.ev; (match mapAt σ K (e x), toKey K (e i) with
    | some (f, _), some k => some (if ok then .tup [(f k).getD z, .bool (f k).isSome] else (f k).getD z, σ)
    | _, _ => none)⟩
  | .upd K m i x => ⟨fun env σ => let e := env.ev; (match e m, toKey K (e i) with
    | .map N, some k => (match σ.objs N with
      | some (.map K' f n) => if K' = K then some (.tup [], σ.set N (.map K (mput f k (e x)) (if (f k).isSome then n else n + 1))) else none
      | _ => none)
    | _, _ => none)⟩
  | .rngStr x => ⟨fun env σ => let e := env.ev; (match e x with
    | .str s => some (.iter σ.next, σ.alloc (.siter s 0))
    | _ => none)⟩
  | .nextStr x => ⟨fun env σ => let e := env.ev; (match e x with
    | .iter N => (match σ.objs N with
      | some (.siter s pos) => if pos < s.size then
          some (.tup [.bool true, .int .i64 pos, .int .i32 (Utf8.decode s pos).1], σ.set N (.siter s (pos + (Utf8.decode s pos).2)))
        else some (.tup [.bool false], σ)
      | _ => none)
    | _ => none)⟩
  | .tas t z x ok => ⟨fun env σ => let e := env.ev; let v (x : Option AVal) : Option (AVal × AHeap) := x.map (·, σ); v (tasA t z (e x) ok)⟩
  | .ext x i => ⟨fun env σ => let e := env.ev; let v (x : Option AVal) : Option (AVal × AHeap) := x.map (·, σ); (match e x with | .tup vs => v (vs[i]?) | _ => none)⟩
  | .lenStr x => ⟨fun env σ => let e := env.ev; (match e x with | .str s => some (.int .i64 s.size, σ) | _ => none)⟩
  | .lenS x => ⟨fun env σ => let e := env.ev; let v (x : Option AVal) : Option (AVal × AHeap) := x.map (·, σ); v ((lenOfS (e x)).map fun n : Nat => .int .i64 (n : Int))⟩
  | .lenM x => ⟨fun env σ => let e := env.ev; let v (x : Option AVal) : Option (AVal × AHeap) := x.map (·, σ); v ((mapLen σ (e x)).map fun n : Nat => .int .i64 (n : Int))⟩
  | .lenA n => ⟨fun env σ => some (.int .i64 n, σ)⟩
  | .app m bytes s x => ⟨fun env σ => let e := env.ev; appA σ m bytes (e s) (e x)⟩
  | .cpy m d s => ⟨fun env σ => let e := env.ev; cpyA σ m (e d) (e s)⟩
  | .mx xs => ⟨fun env σ => let e := env.ev; let v (x : Option AVal) : Option (AVal × AHeap) := x.map (·, σ); (match xs with | [] => none | x :: rest => v (foldO maxI (rest.map e) (e x)))⟩
  | .mn xs => ⟨fun env σ => let e := env.ev; let v (x : Option AVal) : Option (AVal × AHeap) := x.map (·, σ); (match xs with | [] => none | x :: rest => v (foldO minI (rest.map e) (e x)))⟩
  | _ => ⟨fun _ _ => none⟩
theorem opW_eq {o : AOp} {env : AEnv} {σ : AHeap} : (opW o).run env σ = opA o env σ := by cases o <;> rfl
structure NmR where
  run : Nat → AEnv → Nat
def nmW (o : AOp) : NmR :=
  match o with
  | .store _ a _ => ⟨fun d env => nameV d (env.ev a)⟩
  | .upd _ m _ _ => ⟨fun d env => nameV d (env.ev m)⟩
  | .nextStr x => ⟨fun d env => nameV d (env.ev x)⟩
  | .app _ _ s _ => ⟨fun d env => nameV d (env.ev s)⟩
  | .cpy _ d' _ => ⟨fun d env => nameV d (env.ev d')⟩
  | _ => ⟨fun d _ => d⟩
theorem nmW_eq {o : AOp} {d : Nat} {env : AEnv} : (nmW o).run d env = nmOf d env o := by cases o <;> rfl
def exOpI (σ1 : AHeap) (v : AVal) (N : Nat) (h : XH) : Option (AVal × XH) :=
  match h with
  | ⟨H0, nx, lo⟩ => match XH.upd ⟨H0, nx, lo⟩ N (σ1.objs N) with
    | none => none
    | some ⟨H1, _, lo1⟩ => match H1.set 64 nx (σ1.objs nx) with
      | none => none
      | some H2 => some (v, ⟨H2, Bool.rec (motive := fun _ => Nat) σ1.next nx (Nat.beq σ1.next nx), lo1⟩)
theorem exOpI_eq {σ1 : AHeap} {v : AVal} {N : Nat} {h : XH} : exOpI σ1 v N h = (match h.upd N (σ1.objs N) with
    | none => none
    | some h1 => match h1.H.set 64 h.nx (σ1.objs h.nx) with
      | none => none
      | some H2 => some (v, ⟨H2, σ1.next, h1.lo⟩)) := by
  obtain ⟨H0, nx, lo⟩ := h
  have e : ∀ a b : Nat, Bool.rec (motive := fun _ => Nat) a b (Nat.beq a b) = a := by
    intro a b
    cases hb : Nat.beq a b with
    | true => exact (Nat.eq_of_beq_eq_true hb).symm
    | false => rfl
  simp only [exOpI, e]
  cases XH.upd ⟨H0, nx, lo⟩ N (σ1.objs N) with
  | none => rfl
  | some h1 => rfl
def exOpA (p : Bool) (o : AOp) (env : AEnv) (h : XH) : Option (AVal × AHeap) → Option (AVal × XH)
  | none => none
  | some (v, σ1) => Bool.rec (motive := fun _ => Option (AVal × XH)) (exOpI σ1 v ((nmW o).run h.nx env) h) (some (v, h)) p
def exOp (o : AOp) (n : Nat) (E : XE) (h : XH) : Option (AVal × XH) :=
  exOpA (pureOp o) o (envX n E) h ((opW o).run (envX n E) h.toA)
theorem exOp_eq {o : AOp} {n : Nat} {E : XE} {h : XH} : exOp o n E h = (match opA o (envX n E) h.toA with
  | none => none
  | some (v, σ1) => bif pureOp o then some (v, h) else
    match h.upd (nmOf h.nx (envX n E) o) (σ1.objs (nmOf h.nx (envX n E) o)) with
    | none => none
    | some h1 => match h1.H.set 64 h.nx (σ1.objs h.nx) with
      | none => none
      | some H2 => some (v, ⟨H2, σ1.next, h1.lo⟩)) := by
  unfold exOp
  rw [opW_eq]
  cases opA o (envX n E) h.toA with
  | none => rfl
  | some r =>
    obtain ⟨v, σ1⟩ := r
    simp only [exOpA, nmW_eq, exOpI_eq]
    cases pureOp o <;> rfl
theorem exOp_spec {o : AOp} {n : Nat} {E : XE} {h h' : XH} {v : AVal} (hx : exOp o n E h = some (v, h')) : opA o (envX n E) h.toA = some (v, h'.toA) ∧ Pres h h' ∧ (pureOp o = true → h' = h) := by
  rw [exOp_eq] at hx
  split at hx
  · cases hx
  · rename_i v1 σ1 ho
    by_cases hp : pureOp o = true
    · rw [hp] at hx; cases hx
      refine ⟨by rw [ho, opA_pure hp ho], .refl _, fun _ => rfl⟩
    · rw [Bool.not_eq_true] at hp
      rw [hp] at hx
      simp only [cond_false] at hx
      split at hx
      · cases hx
      · rename_i h1 hu
        split at hx
        · cases hx
        · rename_i H2 hH
          cases hx
          obtain ⟨d1, d2⟩ := opA_delta ho
          obtain ⟨u1, u2, u3, u4⟩ := XH.upd_spec hu
          have g := Tr.set_get _ _ _ _ _ hH
          have hob : ∀ M, H2.get M = σ1.objs M := fun M => by
            rw [g]
            by_cases hM : M = h.nx
            · rw [if_pos hM, hM]
            · rw [if_neg hM]
              have : h1.H.get M = h1.toA.objs M := rfl
              rw [this, u2]
              by_cases hN : M = nmOf h.nx (envX n E) o
              · rw [if_pos hN, hN]
              · rw [if_neg hN]; exact (d2 M hN hM).symm
          refine ⟨?_, ⟨d1, u3, fun N hN hlo => ?_⟩, fun h => by rw [hp] at h; cases h⟩
          · rw [ho]
            have : (⟨H2, σ1.next, h1.lo⟩ : XH).toA = σ1 := by
              show AHeap.mk (fun N => H2.get N) σ1.next = σ1
              have e : (fun N => H2.get N) = σ1.objs := funext hob
              rw [e]
            rw [this]
          · show H2.get N = _
            have hlo' : N < h1.lo := hlo
            rw [hob]
            exact d2 N (show N ≠ nmOf h.nx (envX n E) o by omega) (show N ≠ h.nx by omega)
structure TgR where
  run : AEnv → Option (AVal × List AVal)
def tgW (P : Program) (o : AOp) : TgR :=
  match o with
  | .callF f xs => ⟨fun env => some (.func (.func f) [] [], xs.map env.ev)⟩
  | .callV f xs => ⟨fun env => some (env.ev f, xs.map env.ev)⟩
  | .callI x m xs => ⟨fun env => match env.ev x with
    | .iface t v => match methOf P t m with | some f => some (.func (.func f) [] [], v :: xs.map env.ev) | none => none
    | _ => none⟩
  | _ => ⟨fun _ => none⟩
def callTgt (P : Program) (o : AOp) (env : AEnv) : Option (AVal × List AVal) := (tgW P o).run env
theorem callTgt_spec {P : Program} {o : AOp} {env : AEnv} {f : AVal} {zs : List AVal} {σ : AHeap} {K X : AVal → AHeap → Prop} (h : callTgt P o env = some (f, zs)) (hr : RunV P f zs σ (outK K X)) : OpW P o env σ K X := by
  cases o <;> simp only [callTgt, tgW] at h <;> first | (cases h; done) | skip
  case callF => cases h; exact hr
  case callV => cases h; exact hr
  case callI x m xs =>
    split at h
    · rename_i t v he
      split at h
      · rename_i g hg
        cases h
        simp only [OpW]
        rw [he]
        exact RunI.meth hg hr
      · cases h
    · cases h
theorem OpW_opA {P : Program} {o : AOp} {env : AEnv} {σ σ' : AHeap} {v : AVal} {K X : AVal → AHeap → Prop} (h : opA o env σ = some (v, σ')) (hk : K v σ') : OpW P o env σ K X := by
  cases o <;> first | (simp only [opA] at h; cases h; done) | (simp only [OpW, h]; exact hk)
def exOpK (call : CT) (h : XH) : Option (AVal × List AVal) → Option (AVal × XH)
  | some (f, zs) => call f zs h
  | none => none
def exOpC (P : Program) (call : CT) (o : AOp) (n : Nat) (E : XE) (h : XH) : Option (AVal × XH) :=
  Bool.rec (motive := fun _ => Option (AVal × XH)) (exOp o n E h) (exOpK call h (callTgt P o (envX n E))) (isCall o)
def exOpQ (P : Program) (call : CT) (q : Bool) (o : AOp) (n : Nat) (E : XE) (h : XH) : Option (AVal × XH) :=
  bif q && isCall o then
    match callTgt P o (envX n E) with
    | some (f, zs) => (match call f zs ⟨h.H, h.nx, h.nx⟩ with
      | some (v, h') => bif scal v && Nat.ble h.nx h'.lo then some (v, h) else none
      | none => none)
    | none => none
  else exOpC P call o n E h
def SoundCT (P : Program) (call : CT) : Prop := ∀ f zs h v h', call f zs h = some (v, h') → Pres h h' ∧ RunV P f zs h.toA (fun o s => o = .ret v ∧ s = h'.toA)
section
variable {P : Program} {call : CT} (hcall : SoundCT P call) {n : Nat}
include hcall
theorem exOpC_sound {o : AOp} {E : XE} {h h' : XH} {v : AVal} (hx : exOpC P call o n E h = some (v, h')) : Pres h h' ∧ ∀ K X, K v h'.toA → OpW P o (envX n E) h.toA K X := by
  unfold exOpC at hx
  cases hi : isCall o with
  | true =>
    rw [hi] at hx
    have hx' : exOpK call h (callTgt P o (envX n E)) = some (v, h') := hx
    unfold exOpK at hx'
    split at hx'
    · rename_i f zs ht
      obtain ⟨h1, h2⟩ := hcall _ _ _ _ _ hx'
      exact ⟨h1, fun K X hk => callTgt_spec ht (h2.mono fun o s ⟨ho, hs⟩ => by subst ho; subst hs; exact hk)⟩
    · cases hx'
  | false =>
    rw [hi] at hx
    obtain ⟨h1, h2, _⟩ := exOp_spec (show exOp o n E h = some (v, h') from hx)
    exact ⟨h2, fun K X hk => OpW_opA h1 hk⟩
theorem exOpQ_sound {q : Bool} {o : AOp} {E : XE} {h h' : XH} {v : AVal} (hx : exOpQ P call q o n E h = some (v, h')) : Pres h h' ∧ (effOf q o = .rd → h' = h) ∧ ∀ K X, K v h'.toA → OpW P o (envX n E) h.toA K X := by
  unfold exOpQ at hx
  by_cases hq : (q && isCall o) = true
  · rw [hq] at hx
    simp only [cond_true] at hx
    split at hx
    · rename_i f zs ht
      split at hx
      · rename_i v1 h1 hc
        by_cases hb : (scal v1 && Nat.ble h.nx h1.lo) = true
        · rw [hb] at hx; cases hx
          simp only [Bool.and_eq_true, Nat.ble_eq] at hb
          obtain ⟨p, r⟩ := hcall _ _ _ _ _ hc
          refine ⟨.refl _, fun _ => rfl, fun K X hk => callTgt_spec ht (RunV.drop (r.mono fun o s ⟨ho, hs⟩ => ?_))⟩
          subst ho; subst hs
          exact ⟨v, rfl, hb.1, ⟨p.1, fun N hN => p.2.2 N hN (Nat.lt_of_lt_of_le hN hb.2)⟩, hk⟩
        · rw [Bool.not_eq_true] at hb; rw [hb] at hx; cases hx
      · cases hx
    · cases hx
  · have hq' := hq
    rw [Bool.not_eq_true] at hq
    rw [hq] at hx
    simp only [cond_false] at hx
    obtain ⟨h1, h2⟩ := exOpC_sound hcall hx
    refine ⟨h1, fun he => ?_, h2⟩
    unfold exOpC at hx
    cases hi : isCall o with
    | true =>
      exfalso
      cases o <;> simp only [isCall] at hi <;> first | (cases hi; done) | skip
      all_goals
        simp only [isCall, Bool.and_true, Bool.not_eq_true] at hq'
        subst hq'
        cases he
    | false =>
      rw [hi] at hx
      refine (exOp_spec (show exOp o n E h = some (v, h') from hx)).2.2 ?_
      cases o <;> simp only [effOf] at he <;> first | rfl | (cases he; done) | (split at he <;> cases he; done) | skip
end
def stepB (ih : XE → XH → Option (XE × XH)) (h1 : XH) : Option XE → Option (XE × XH)
  | some E1 => ih E1 h1
  | none => none
def stepA (d : Option Nat) (ih : XE → XH → Option (XE × XH)) (E : XE) : Option (AVal × XH) → Option (XE × XH)
  | some (v, h1) => stepB ih h1 (E.put d v)
  | none => none
def stepG (P : Program) (call : CT) (n : Nat) (o : AOper) (ih : XE → XH → Option (XE × XH)) (E : XE) (h : XH) : Option Bool → Option (XE × XH)
  | some b => Bool.rec (motive := fun _ => Option (XE × XH)) (stepB ih h (E.put o.dst (.tup []))) (stepA o.dst ih E (exOpC P call o.op n E h)) b
  | none => none
def exOps (P : Program) (call : CT) (n : Nat) (l : List AOper) : XE → XH → Option (XE × XH) :=
  List.rec (motive := fun _ => XE → XH → Option (XE × XH)) (fun E h => some (E, h))
    (fun o _ ih E h => stepG P call n o ih E h (gOk o.guard (envX n E))) l
theorem exOps_cons {P : Program} {call : CT} {n : Nat} {o : AOper} {os : List AOper} {E : XE} {h : XH} : exOps P call n (o :: os) E h = (match gOk o.guard (envX n E) with
    | some true => (match exOpC P call o.op n E h with
      | some (v, h1) => (match E.put o.dst v with | some E1 => exOps P call n os E1 h1 | none => none)
      | none => none)
    | some false => (match E.put o.dst (.tup []) with | some E1 => exOps P call n os E1 h | none => none)
    | none => none) := by
  show stepG P call n o (exOps P call n os) E h (gOk o.guard (envX n E)) = _
  cases gOk o.guard (envX n E) with
  | none => rfl
  | some b =>
    cases b with
    | false => simp only [stepG]; cases E.put o.dst (.tup []) <;> rfl
    | true =>
      simp only [stepG]
      cases exOpC P call o.op n E h with
      | none => rfl
      | some r => obtain ⟨v, h1⟩ := r; simp only [stepA]; cases E.put o.dst v <;> rfl
def exDr (P : Program) (call : CT) (n : Nat) (q : List Nat) : Nat → List AOper → XE → XH → Option (XE × XH)
  | _, [], E, h => some (E, h)
  | i, o :: os, E, h => match gOk o.guard (envX n E) with
    | some true => (match exOpQ P call (q.contains i) o.op n E h with
      | some (v, h1) => (match E.put o.dst v with | some E1 => exDr P call n q (i + 1) os E1 h1 | none => none)
      | none => none)
    | some false => (match E.put o.dst (.tup []) with | some E1 => exDr P call n q (i + 1) os E1 h | none => none)
    | none => none
section
variable {P : Program} {call : CT} (hcall : SoundCT P call) {n : Nat}
include hcall
theorem exOps_sound {rd : Option Nat} : ∀ (l : List AOper) (E : XE) (h : XH) (E' : XE) (h' : XH), exOps P call n l E h = some (E', h') →
    Pres h h' ∧ ∀ Q : AExit → AEnv → AHeap → Prop, Q .normal (envX n E') h'.toA → wpOps P rd l (envX n E) h.toA Q := by
  intro l
  induction l with
  | nil => intro E h E' h' hx; cases hx; exact ⟨.refl _, fun Q hQ => hQ⟩
  | cons o os ih =>
    intro E h E' h' hx
    rw [exOps_cons] at hx
    split at hx
    · rename_i hg
      split at hx
      · rename_i v h1 ho
        split at hx
        · rename_i E1 hE
          obtain ⟨p2, w2⟩ := ih _ _ _ _ hx
          obtain ⟨p1, w1⟩ := exOpC_sound hcall ho
          refine ⟨p1.trans p2, fun Q hQ => ?_⟩
          simp only [wpOps, hg]
          have hnd : ∀ f args, o.op ≠ .dfr f args := fun f args hd => by
            rw [hd] at ho
            simp [exOpC, exOpK, callTgt, tgW, exOp_eq, opA, isCall] at ho
          have hgoal := w1 (fun v σ' => wpOps P rd os ((envX n E).put o.dst v) σ' Q) (fun v σ' => Q (.panic v) (envX n E) σ') (by rw [← XE.put_env hE]; exact w2 Q hQ)
          unfold wpOne
          split
          · rename_i f args hd; exact absurd hd (hnd f args)
          · exact hgoal
        · cases hx
      · cases hx
    · rename_i hg
      split at hx
      · rename_i E1 hE
        obtain ⟨p2, w2⟩ := ih _ _ _ _ hx
        refine ⟨p2, fun Q hQ => ?_⟩
        simp only [wpOps, hg]
        rw [← XE.put_env hE]
        exact w2 Q hQ
      · cases hx
    · cases hx
theorem exDr_sound {q : List Nat} {ps : Nat → Nat → Bool} : ∀ (l : List AOper) (i : Nat) (E : XE) (h : XH) (E' : XE) (h' : XH), exDr P call n q i l E h = some (E', h') →
    Pres h h' ∧ ∀ (past : List (Nat × AHeap)) (K : AEnv → AHeap → Prop) (X : Nat → AVal → AHeap → Prop), K (envX n E') h'.toA → wpDr P q [] ps i l (envX n E) h.toA past [] K X := by
  intro l
  induction l with
  | nil => intro i E h E' h' hx; cases hx; exact ⟨.refl _, fun _ K X hK => hK⟩
  | cons o os ih =>
    intro i E h E' h' hx
    have hst : isSt q [] i o = false := rfl
    simp only [exDr] at hx
    split at hx
    · rename_i hg
      split at hx
      · rename_i v h1 ho
        split at hx
        · rename_i E1 hE
          obtain ⟨p2, w2⟩ := ih _ _ _ _ _ hx
          obtain ⟨p1, k1, w1⟩ := exOpQ_sound hcall ho
          refine ⟨p1.trans p2, fun past K X hK => ?_⟩
          simp only [wpDr, hg]
          refine w1 _ _ ⟨fun he => by rw [k1 he], fun h => (by rw [hst] at h; cases h), fun _ p hp => (by cases hp), ?_⟩
          rw [hst, ← XE.put_env hE]
          exact w2 _ K X hK
        · cases hx
      · cases hx
    · rename_i hg
      split at hx
      · rename_i E1 hE
        obtain ⟨p2, w2⟩ := ih _ _ _ _ _ hx
        refine ⟨p2, fun past K X hK => ?_⟩
        simp only [wpDr, hg]
        refine ⟨fun _ p hp => (by cases hp), ?_⟩
        rw [← XE.put_env hE]
        exact w2 _ K X hK
      · cases hx
    · cases hx
end
end
end Go.Tc
namespace Go.Tc
set_option linter.unusedSimpArgs false
set_option linter.unusedVariables false
noncomputable section
mutual
def eqV : AVal → AVal → Bool
  | .bool a, .bool b => a == b
  | .int k n, .int k' n' => decide (k = k') && decide (n = n')
  | .str s, .str t => decide (s = t)
  | .nilP, .nilP => true
  | .nilS, .nilS => true
  | .nilM, .nilM => true
  | .nilF, .nilF => true
  | .nilI, .nilI => true
  | .ptr N i k, .ptr N' i' k' => Nat.beq N N' && (Nat.beq i i' && Nat.beq k k')
  | .ms m N i l e, .ms m' N' i' l' e' => Nat.beq m m' && (Nat.beq N N' && (Nat.beq i i' && (Nat.beq l l' && (e == e'))))
  | .map N, .map N' => Nat.beq N N'
  | .iter N, .iter N' => Nat.beq N N'
  | .iface t v, .iface t' v' => decide (t = t') && eqV v v'
  | .func (.func f) a b, .func (.func f') a' b' => decide (f = f') && (eqVs a a' && eqVs b b')
  | .agg a, .agg b => eqVs a b
  | .tup a, .tup b => eqVs a b
  | _, _ => false
def eqVs : List AVal → List AVal → Bool
  | [], [] => true
  | a :: zs, b :: bs => eqV a b && eqVs zs bs
  | _, _ => false
end
mutual
theorem eqV_spec : ∀ a b, eqV a b = true → a = b
  | .bool a, b, h => by cases b <;> simp only [eqV] at h <;> first | (cases h; done) | (rw [eq_of_beq h])
  | .int k n, b, h => by cases b <;> simp only [eqV, Bool.and_eq_true, decide_eq_true_eq] at h <;> first | (cases h; done) | (rw [h.1, h.2])
  | .str s, b, h => by cases b <;> simp only [eqV, decide_eq_true_eq] at h <;> first | (cases h; done) | (rw [h])
  | .nilP, b, h => by cases b <;> simp only [eqV] at h <;> first | (cases h; done) | rfl
  | .nilS, b, h => by cases b <;> simp only [eqV] at h <;> first | (cases h; done) | rfl
  | .nilM, b, h => by cases b <;> simp only [eqV] at h <;> first | (cases h; done) | rfl
  | .nilF, b, h => by cases b <;> simp only [eqV] at h <;> first | (cases h; done) | rfl
  | .nilI, b, h => by cases b <;> simp only [eqV] at h <;> first | (cases h; done) | rfl
  | .ptr N i k, b, h => by
    cases b <;> simp only [eqV, Bool.and_eq_true, Nat.beq_eq] at h <;> first | (cases h; done) | (obtain ⟨rfl, rfl, rfl⟩ := h; rfl)
  | .ms m N i l e, b, h => by
    cases b <;> simp only [eqV, Bool.and_eq_true, Nat.beq_eq, beq_iff_eq] at h <;> first | (cases h; done) | (obtain ⟨rfl, rfl, rfl, rfl, rfl⟩ := h; rfl)
  | .map N, b, h => by cases b <;> simp only [eqV, Nat.beq_eq] at h <;> first | (cases h; done) | (rw [h])
  | .iter N, b, h => by cases b <;> simp only [eqV, Nat.beq_eq] at h <;> first | (cases h; done) | (rw [h])
  | .iface t v, b, h => by
    cases b <;> simp only [eqV, Bool.and_eq_true, decide_eq_true_eq] at h <;> first | (cases h; done) | skip
    rw [h.1, eqV_spec _ _ h.2]
  | .func fn x y, b, h => by
    cases fn with
    | func f => cases b with
      | func fn' x' y' => cases fn' with
        | func f' =>
          simp only [eqV, Bool.and_eq_true, decide_eq_true_eq] at h
          rw [h.1, eqVs_spec _ _ h.2.1, eqVs_spec _ _ h.2.2]
        | _ => unfold eqV at h; cases h
      | _ => unfold eqV at h; cases h
    | _ => unfold eqV at h; cases h
  | .agg a, b, h => by
    cases b <;> simp only [eqV] at h <;> first | (cases h; done) | skip
    rw [eqVs_spec _ _ h]
  | .tup a, b, h => by
    cases b <;> simp only [eqV] at h <;> first | (cases h; done) | skip
    rw [eqVs_spec _ _ h]
  | .rptr .., b, h => by cases b <;> simp only [eqV] at h <;> cases h
  | .rs .., b, h => by cases b <;> simp only [eqV] at h <;> cases h
  | .mi .., b, h => by cases b <;> simp only [eqV] at h <;> cases h
  | .ri .., b, h => by cases b <;> simp only [eqV] at h <;> cases h
  | .yield _, b, h => by cases b <;> simp only [eqV] at h <;> cases h
  | .junk, b, h => by cases b <;> simp only [eqV] at h <;> cases h
theorem eqVs_spec : ∀ a b, eqVs a b = true → a = b
  | [], [], _ => rfl
  | [], _ :: _, h => by simp only [eqVs] at h; cases h
  | _ :: _, [], h => by simp only [eqVs] at h; cases h
  | a :: zs, b :: bs, h => by
    simp only [eqVs, Bool.and_eq_true] at h
    rw [eqV_spec _ _ h.1, eqVs_spec _ _ h.2]
end
def sameX (P : Program) (call : CT) (q : Bool) (o : AOp) (n : Nat) (E : XE) (h : XH) (v : AVal) : Bool :=
  match effOf q o with
  | .rd => (match exOpQ P call q o n E h with | some (v', _) => eqV v' v | none => false)
  | _ => false
theorem sameX_spec {P : Program} {call : CT} (hcall : SoundCT P call) {q : Bool} {o : AOp} {n : Nat} {E : XE} {h : XH} {v : AVal} (hx : sameX P call q o n E h v = true) : Same P o (envX n E) h.toA v := by
  unfold sameX at hx
  split at hx
  · rename_i he
    split at hx
    · rename_i v' h' ho
      obtain ⟨_, k, w⟩ := exOpQ_sound hcall ho
      exact w _ _ ⟨eqV_spec _ _ hx, by rw [k he]⟩
    · cases hx
  · cases hx
def isWr (q : Bool) (o : AOp) : Bool := match effOf q o with | .wr => true | _ => false
theorem isWr_spec {q : Bool} {o : AOp} : isWr q o = true ↔ effOf q o = .wr := by
  unfold isWr
  split
  · rename_i h; simp [h]
  · rename_i h; simp; exact h
abbrev Pend := List (Nat × AOp × XE × AVal)
def pendOk (P : Program) (call : CT) (n : Nat) (q : List Nat) (ps : Nat → Nat → Bool) (k : Nat) (h : XH) (pend : Pend) : Bool :=
  pend.all fun p => bif ps p.1 k then sameX P call (q.contains p.1) p.2.1 n p.2.2.1 h p.2.2.2 else true
def exDs (P : Program) (call : CT) (n : Nat) (q st : List Nat) (ps : Nat → Nat → Bool) : Nat → List AOper → XE → XH → List (Nat × XH) → Pend → Option (XE × XH)
  | _, [], E, h, _, _ => some (E, h)
  | i, o :: os, E, h, past, pend => match gOk o.guard (envX n E) with
    | some true => (match exOpQ P call (q.contains i) o.op n E h with
      | some (v, h1) => bif (bif isSt q st i o then past.all (fun p => bif ps i p.1 then sameX P call (q.contains i) o.op n E p.2 v else true) else true) &&
            (bif isWr (q.contains i) o.op then pendOk P call n q ps (i + 1) h1 pend else true) then
          (match E.put o.dst v with
          | some E1 => exDs P call n q st ps (i + 1) os E1 h1 (bif isWr (q.contains i) o.op then (i + 1, h1) :: past else past) (bif isSt q st i o then (i, o.op, E, v) :: pend else pend)
          | none => none)
        else none
      | none => none)
    | some false => bif (bif isWr (q.contains i) o.op then pendOk P call n q ps (i + 1) h pend else true) then
        (match E.put o.dst (.tup []) with
        | some E1 => exDs P call n q st ps (i + 1) os E1 h (bif isWr (q.contains i) o.op then (i + 1, h) :: past else past) pend
        | none => none)
      else none
    | none => none
def pastA (past : List (Nat × XH)) : List (Nat × AHeap) := past.map fun p => (p.1, p.2.toA)
def pendA' (n : Nat) (pend : Pend) : List (Nat × AOp × AEnv × AVal) := pend.map fun p => (p.1, p.2.1, envX n p.2.2.1, p.2.2.2)
section
variable {P : Program} {call : CT} (hcall : SoundCT P call) {n : Nat}
include hcall
theorem pendOk_spec {q : List Nat} {ps : Nat → Nat → Bool} {k : Nat} {h : XH} {pend : Pend} (hx : pendOk P call n q ps k h pend = true) : ∀ p ∈ pendA' n pend, ps p.1 k = true → Same P p.2.1 p.2.2.1 h.toA p.2.2.2 := by
  intro p hp hps
  simp only [pendA', List.mem_map] at hp
  obtain ⟨p', hp', rfl⟩ := hp
  have := List.all_eq_true.1 hx p' hp'
  simp only at hps
  rw [hps] at this
  exact sameX_spec hcall this
theorem exDs_sound {q st : List Nat} {ps : Nat → Nat → Bool} : ∀ (l : List AOper) (i : Nat) (E : XE) (h : XH) (past : List (Nat × XH)) (pend : Pend) (E' : XE) (h' : XH), exDs P call n q st ps i l E h past pend = some (E', h') →
    Pres h h' ∧ ∀ (K : AEnv → AHeap → Prop) (X : Nat → AVal → AHeap → Prop), K (envX n E') h'.toA → wpDr P q st ps i l (envX n E) h.toA (pastA past) (pendA' n pend) K X := by
  intro l
  induction l with
  | nil => intro i E h past pend E' h' hx; cases hx; exact ⟨.refl _, fun K X hK => hK⟩
  | cons o os ih =>
    intro i E h past pend E' h' hx
    have hpast : ∀ hh : XH, (if effOf (q.contains i) o.op = .wr then (i + 1, hh.toA) :: pastA past else pastA past) = pastA (bif isWr (q.contains i) o.op then (i + 1, hh) :: past else past) := by
      intro hh
      by_cases hw : effOf (q.contains i) o.op = .wr
      · rw [if_pos hw, isWr_spec.2 hw]; rfl
      · have : isWr (q.contains i) o.op = false := by
          cases hb : isWr (q.contains i) o.op with
          | true => exact absurd (isWr_spec.1 hb) hw
          | false => rfl
        rw [if_neg hw, this]; rfl
    simp only [exDs] at hx
    split at hx
    · rename_i hg
      split at hx
      · rename_i v h1 ho
        generalize hc1 : (bif isSt q st i o then past.all (fun p => bif ps i p.1 then sameX P call (q.contains i) o.op n E p.2 v else true) else true) = c1 at hx
        generalize hc2 : (bif isWr (q.contains i) o.op then pendOk P call n q ps (i + 1) h1 pend else true) = c2 at hx
        cases c1 with
        | false => cases hx
        | true =>
          cases c2 with
          | false => cases hx
          | true =>
            simp only [Bool.and_self, cond_true] at hx
            split at hx
            · rename_i E1 hE
              obtain ⟨p2, w2⟩ := ih _ _ _ _ _ _ _ hx
              obtain ⟨p1, k1, w1⟩ := exOpQ_sound hcall ho
              refine ⟨p1.trans p2, fun K X hK => ?_⟩
              simp only [wpDr, hg]
              refine w1 _ _ ⟨fun he => by rw [k1 he], fun hst p hp hps => ?_, fun hw => ?_, ?_⟩
              · rw [hst] at hc1
                simp only [cond_true] at hc1
                simp only [pastA, List.mem_map] at hp
                obtain ⟨p', hp', rfl⟩ := hp
                have := List.all_eq_true.1 hc1 p' hp'
                simp only at hps
                rw [hps] at this
                exact sameX_spec hcall this
              · rw [isWr_spec.2 hw] at hc2
                exact pendOk_spec hcall hc2
              · rw [hpast h1, ← XE.put_env hE]
                have := w2 K X hK
                cases hs : isSt q st i o with
                | true => rw [hs] at this; exact this
                | false => rw [hs] at this; exact this
            · cases hx
      · cases hx
    · rename_i hg
      generalize hc2 : (bif isWr (q.contains i) o.op then pendOk P call n q ps (i + 1) h pend else true) = c2 at hx
      cases c2 with
      | false => cases hx
      | true =>
        simp only [cond_true] at hx
        split at hx
        · rename_i E1 hE
          obtain ⟨p2, w2⟩ := ih _ _ _ _ _ _ _ hx
          refine ⟨p2, fun K X hK => ?_⟩
          simp only [wpDr, hg]
          refine ⟨fun hw => ?_, ?_⟩
          · rw [isWr_spec.2 hw] at hc2
            exact pendOk_spec hcall hc2
          · rw [hpast h, ← XE.put_env hE]
            exact w2 K X hK
        · cases hx
    · cases hx
end
end
end Go.Tc
namespace Go.Tc
set_option linter.unusedSimpArgs false
set_option linter.unusedVariables false
noncomputable section
def callIx : Nat → List AOper → List Nat
  | _, [] => []
  | i, o :: os => bif isCall o.op then i :: callIx (i + 1) os else callIx (i + 1) os
def rdIx (calls : Bool) : Nat → List AOper → List Nat
  | _, [] => []
  | i, o :: os => bif isCall o.op then (bif calls then i :: rdIx calls (i + 1) os else rdIx calls (i + 1) os) else
      bif effOf false o.op == .rd then i :: rdIx calls (i + 1) os else rdIx calls (i + 1) os
def candDr (P : Program) (call : CT) (n : Nat) (l : List AOper) (q st : List Nat) (E : XE) (h : XH) : Option (XE × XH) :=
  bif drOk q st l then (match st with
    | [] => exDr P call n q 0 l E h
    | _ :: _ => exDs P call n q st (poss q l (ancs l [])) 0 l E h [(0, h)] [])
  else none
def tryDr (P : Program) (call : CT) (n : Nat) (l : List AOper) (E : XE) (h : XH) : Option (XE × XH) :=
  bif drOk [] [] l then candDr P call n l [] [] E h else
  bif drOk [] (rdIx false 0 l) l then candDr P call n l [] (rdIx false 0 l) E h else
  bif drOk (callIx 0 l) [] l then candDr P call n l (callIx 0 l) [] E h else
  bif drOk (callIx 0 l) (rdIx false 0 l) l then candDr P call n l (callIx 0 l) (rdIx false 0 l) E h else
  candDr P call n l (callIx 0 l) (rdIx true 0 l) E h
def DrRes (P : Program) (n : Nat) (l : List AOper) (E : XE) (h : XH) (E' : XE) (h' : XH) : Prop :=
  Pres h h' ∧ ∃ q st, drOk q st l = true ∧ ∀ (K : AEnv → AHeap → Prop) (X : Nat → AVal → AHeap → Prop), K (envX n E') h'.toA → wpDr P q st (poss q l (ancs l [])) 0 l (envX n E) h.toA [(0, h.toA)] [] K X
theorem candDr_sound {P : Program} {call : CT} (hcall : SoundCT P call) {n : Nat} {l : List AOper} {q st : List Nat} {E E' : XE} {h h' : XH} (hx : candDr P call n l q st E h = some (E', h')) : DrRes P n l E h E' h' := by
  unfold candDr at hx
  by_cases hd : drOk q st l = true
  · rw [hd] at hx
    simp only [cond_true] at hx
    split at hx
    · obtain ⟨p, w⟩ := exDr_sound hcall (ps := poss q l (ancs l [])) _ _ _ _ _ _ hx
      exact ⟨p, q, [], hd, fun K X hK => w _ K X hK⟩
    · obtain ⟨p, w⟩ := exDs_sound hcall _ _ _ _ _ _ _ _ hx
      exact ⟨p, q, _, hd, fun K X hK => w K X hK⟩
  · rw [Bool.not_eq_true] at hd; rw [hd] at hx; cases hx
theorem cond_cases {α : Type} {c : Bool} {a b r : α} (h : (bif c then a else b) = r) : a = r ∨ b = r := by cases c <;> simp at h <;> simp [h]
theorem tryDr_sound {P : Program} {call : CT} (hcall : SoundCT P call) {n : Nat} {l : List AOper} {E E' : XE} {h h' : XH} (hx : tryDr P call n l E h = some (E', h')) : DrRes P n l E h E' h' := by
  unfold tryDr at hx
  rcases cond_cases hx with h1 | h1
  · exact candDr_sound hcall h1
  rcases cond_cases h1 with h1 | h1
  · exact candDr_sound hcall h1
  rcases cond_cases h1 with h1 | h1
  · exact candDr_sound hcall h1
  rcases cond_cases h1 with h1 | h1
  · exact candDr_sound hcall h1
  · exact candDr_sound hcall h1
def rdGood (rd : Option Nat) (h : XH) : Bool :=
  match rd with
  | none => true
  | some L => match h.H.get L with | some (.loop _) => true | _ => false
theorem rdGood_spec {rd : Option Nat} {h : XH} (hg : rdGood rd h = true) : ∀ L, rd = some L → ∃ lo, h.toA.objs L = some (.loop lo) := by
  intro L hL
  subst hL
  simp only [rdGood] at hg
  split at hg
  · rename_i lo he; exact ⟨lo, he⟩
  · cases hg
def exLoop (body : XE → XH → Option (AExit × XE × XH)) : Nat → XE → XH → Option (AExit × XE × XH)
  | 0, _, _ => none
  | k + 1, E, h => match body E h with
    | some (.normal, E1, h1) => exLoop body k E1 h1
    | r => r
def pendX : Option Code → Option AExit
  | none => some .normal
  | some .ret => some .ret
  | some (.exit id) => some (.exit id)
  | _ => none
theorem pendX_spec {c : Option Code} {e : AExit} (h : pendX c = some e) {Q : AExit → Prop} (hQ : Q e) : pendA c Q := by
  unfold pendX at h
  split at h <;> cases h <;> exact hQ
def exCode (P : Program) (call : CT) (K n : Nat) (rd : Option Nat) : Code → XE → XH → Option (AExit × XE × XH)
  | .skip, E, h => some (.normal, E, h)
  | .exit id, E, h => some (.exit id, E, h)
  | .ret, E, h => some (.ret, E, h)
  | .region _ ops draw, E, h => match compOpers P n ops ops.toList with
    | none => none
    | some l => bif draw then
        (match tryDr P call n l E h with | some (E', h') => some (.normal, E', h') | none => none)
      else (match exOps P call n l E h with | some (E', h') => some (.normal, E', h') | none => none)
  | .seq a b, E, h => match exCode P call K n rd a E h with
    | some (.normal, E1, h1) => exCode P call K n rd b E1 h1
    | r => r
  | .cond c a b, E, h => match cOpnd n c with
    | some c' => (match (envX n E).ev c' with
      | .bool t => bif t then exCode P call K n rd a E h else exCode P call K n rd b E h
      | _ => none)
    | none => none
  | .block id a, E, h => match exCode P call K n rd a E h with
    | some (.exit j, E1, h1) => bif Nat.beq j id then some (.normal, E1, h1) else some (.exit j, E1, h1)
    | r => r
  | .loop a, E, h => exLoop (exCode P call K n rd a) K E h
  | .rangeFunc f ps a b, E, h => match cOpnd n f with
    | some f' => (match (envX n E).ev f' with
      | .func (.func g) first caps => bif enters P g && rdGood rd h then
          (match h.new (some (newLoop (envX n E) ps a b)) with
          | some h1 => (match call (.func (.func g) first caps) [.yield h.nx] h1 with
            | some (_, h3) => (match h3.H.get h.nx with
              | some (.loop lo) => (match lo.state with
                | .busy => none
                | _ => (match pendX lo.pending with
                  | some e => (match h3.upd h.nx none with | some h4 => some (e, E, h4) | none => none)
                  | none => none))
              | _ => none)
            | none => none)
          | none => none)
        else none
      | _ => none)
    | none => none
  | _, _, _ => none
abbrev CRes := Option (AExit × XE × XH)
structure CodeR where
  run : CT → Nat → Option Nat → XE → XH → CRes
def finK : Option (XE × XH) → CRes
  | some (E', h') => some (.normal, E', h')
  | none => none
def regionW (P : Program) (n : Nat) (draw : Bool) : Option (List AOper) → CodeR
  | none => ⟨fun _ _ _ _ _ => none⟩
  | some l => Bool.rec (motive := fun _ => CodeR) ⟨fun call _ _ E h => finK (exOps P call n l E h)⟩ ⟨fun call _ _ E h => finK (tryDr P call n l E h)⟩ draw
def seqK (f : XE → XH → CRes) : CRes → CRes
  | some (.normal, E1, h1) => f E1 h1
  | r => r
def condK' (t f : CRes) : AVal → CRes
  | .bool b => Bool.rec (motive := fun _ => CRes) f t b
  | _ => none
def blockK (id : Nat) : CRes → CRes
  | some (.exit j, E1, h1) => bif Nat.beq j id then some (.normal, E1, h1) else some (.exit j, E1, h1)
  | r => r
def condW (a b : CodeR) (n : Nat) : Option Opnd → CodeR
  | none => ⟨fun _ _ _ _ _ => none⟩
  | some c' => ⟨fun call K rd E h => condK' (a.run call K rd E h) (b.run call K rd E h) ((envX n E).ev c')⟩
def codeW (P : Program) (n : Nat) : Code → CodeR
  | .skip => ⟨fun _ _ _ E h => some (.normal, E, h)⟩
  | .exit id => ⟨fun _ _ _ E h => some (.exit id, E, h)⟩
  | .ret => ⟨fun _ _ _ E h => some (.ret, E, h)⟩
  | .region _ ops draw => regionW P n draw (compOpers P n ops ops.toList)
  | .seq a b => ⟨fun call K rd E h => seqK (fun E1 h1 => (codeW P n b).run call K rd E1 h1) ((codeW P n a).run call K rd E h)⟩
  | .cond c a b => condW (codeW P n a) (codeW P n b) n (cOpnd n c)
  | .block id a => ⟨fun call K rd E h => blockK id ((codeW P n a).run call K rd E h)⟩
  | .loop a => ⟨fun call K rd E h => exLoop ((codeW P n a).run call K rd) K E h⟩
  | .rangeFunc f ps a b => ⟨fun call K rd E h => exCode P call K n rd (.rangeFunc f ps a b) E h⟩
  | _ => ⟨fun _ _ _ _ _ => none⟩
theorem codeW_eq {P : Program} {n : Nat} : ∀ (c : Code) (call : CT) (K : Nat) (rd : Option Nat) (E : XE) (h : XH), (codeW P n c).run call K rd E h = exCode P call K n rd c E h := by
  intro c
  induction c with
  | skip => intros; rfl
  | exit id => intros; rfl
  | ret => intros; rfl
  | region id ops draw =>
    intro call K rd E h
    simp only [codeW, exCode]
    cases compOpers P n ops ops.toList with
    | none => rfl
    | some l =>
      cases draw with
      | true => simp only [regionW, cond_true]; cases tryDr P call n l E h <;> rfl
      | false => simp only [regionW, cond_false]; cases exOps P call n l E h <;> rfl
  | seq a b iha ihb =>
    intro call K rd E h
    simp only [codeW, exCode, iha, ihb]
    cases exCode P call K n rd a E h with
    | none => rfl
    | some r => obtain ⟨e, E1, h1⟩ := r; cases e <;> rfl
  | cond c a b iha ihb =>
    intro call K rd E h
    simp only [codeW, exCode]
    cases cOpnd n c with
    | none => rfl
    | some c' =>
      simp only [condW, iha, ihb]
      cases (envX n E).ev c' with
      | bool t => cases t <;> rfl
      | _ => rfl
  | block id a ih =>
    intro call K rd E h
    simp only [codeW, exCode, ih]
    cases exCode P call K n rd a E h with
    | none => rfl
    | some r => obtain ⟨e, E1, h1⟩ := r; cases e <;> rfl
  | loop a ih =>
    intro call K rd E h
    simp only [codeW, exCode]
    congr 1
    funext E h
    exact ih call K rd E h
  | rangeFunc => intros; rfl
  | scope _ _ => intros; simp [codeW, exCode]
  | label _ => intros; simp [codeW, exCode]
  | goto _ => intros; simp [codeW, exCode]
  | refuse _ => intros; simp [codeW, exCode]
def exCodeW (P : Program) (call : CT) (K n : Nat) (rd : Option Nat) (c : Code) (E : XE) (h : XH) : CRes := (codeW P n c).run call K rd E h
theorem exCodeW_sound' {P : Program} {call : CT} {K n : Nat} {rd : Option Nat} {c : Code} {E : XE} {h : XH} {r : AExit × XE × XH} (hx : exCodeW P call K n rd c E h = some r) : exCode P call K n rd c E h = some r := by
  rw [← codeW_eq]; exact hx
theorem XH.new_spec {h h' : XH} {o : AObj} (hu : h.new (some o) = some h') : h'.toA = h.toA.alloc o ∧ Pres h h' := by
  obtain ⟨H0, nx, lo⟩ := h
  simp only [XH.new] at hu
  split at hu
  · rename_i H hH
    cases hu
    have g := Tr.set_get _ _ _ _ _ hH
    refine ⟨?_, Nat.le_succ _, Nat.le_refl _, fun N (hN : N < nx) _ => by show H.get N = _; rw [g, if_neg (fun e => by subst e; exact absurd hN (Nat.lt_irrefl _))]; rfl⟩
    show AHeap.mk (fun N => H.get N) (nx + 1) = AHeap.mk _ (nx + 1)
    congr 1
    funext N
    rw [g]; rfl
  · cases hu
theorem XH.upd_set {h h' : XH} {N : Nat} {o : AObj} (hu : h.upd N (some o) = some h') : h'.toA = h.toA.set N o := by
  obtain ⟨h1, h2, _⟩ := XH.upd_spec hu
  show AHeap.mk h'.toA.objs h'.nx = AHeap.mk _ h.nx
  rw [h1]
  congr 1
  funext M
  exact h2 M
theorem XH.upd_kill {h h' : XH} {N : Nat} (hu : h.upd N none = some h') : h'.toA = h.toA.kill N := by
  obtain ⟨h1, h2, _⟩ := XH.upd_spec hu
  show AHeap.mk h'.toA.objs h'.nx = AHeap.mk _ h.nx
  rw [h1]
  congr 1
  funext M
  exact h2 M
theorem exLoop_sound {P : Program} {rd : Option Nat} {n : Nat} {c : Code} {body : XE → XH → Option (AExit × XE × XH)}
    (hb : ∀ E h e E' h', body E h = some (e, E', h') → Pres h h' ∧ ∀ Q, Q e (envX n E') h'.toA → RunC P rd c (envX n E) h.toA Q) :
    ∀ (k : Nat) (E : XE) (h : XH) (e : AExit) (E' : XE) (h' : XH), exLoop body k E h = some (e, E', h') → Pres h h' ∧ ∀ Q, Q e (envX n E') h'.toA → RunLp P rd c (envX n E) h.toA Q := by
  intro k
  induction k with
  | zero => intro E h e E' h' hx; cases hx
  | succ k ih =>
    intro E h e E' h' hx
    simp only [exLoop] at hx
    split at hx
    · rename_i E1 h1 h0
      obtain ⟨p1, w1⟩ := hb _ _ _ _ _ h0
      obtain ⟨p2, w2⟩ := ih _ _ _ _ _ hx
      exact ⟨p1.trans p2, fun Q hQ => .step (w1 _ (w2 Q hQ))⟩
    · rename_i hne
      obtain ⟨p1, w1⟩ := hb _ _ _ _ _ hx
      refine ⟨p1, fun Q hQ => .step (w1 _ ?_)⟩
      cases e with
      | normal => exact absurd hx (hne _ _)
      | exit id => exact hQ
      | goto l => exact hQ
      | ret => exact hQ
      | panic v => exact hQ
theorem exCode_sound {P : Program} (hP : P.follows .mixedOrders = true) {call : CT} (hcall : SoundCT P call) {K n : Nat} {rd : Option Nat} : ∀ (c : Code) (E : XE) (h : XH) (e : AExit) (E' : XE) (h' : XH),
    exCode P call K n rd c E h = some (e, E', h') → Pres h h' ∧ ∀ Q, Q e (envX n E') h'.toA → RunC P rd c (envX n E) h.toA Q := by
  intro c
  induction c with
  | skip => intro E h e E' h' hx; cases hx; exact ⟨.refl _, fun Q hQ => .skip hQ⟩
  | exit id => intro E h e E' h' hx; cases hx; exact ⟨.refl _, fun Q hQ => .exit hQ⟩
  | ret => intro E h e E' h' hx; cases hx; exact ⟨.refl _, fun Q hQ => .ret hQ⟩
  | region id ops draw =>
    intro E h e E' h' hx
    simp only [exCode] at hx
    split at hx
    · cases hx
    · rename_i l hl
      obtain ⟨h1, h2⟩ := compOpers_get _ _ hl
      have h2' : ∀ (j : Nat) o, ops[j]? = some o → compOper P n ops o = l[j]? := fun j o ho => h2 j o (by simpa using ho)
      cases draw with
      | true =>
        simp only [cond_true] at hx
        split at hx
        · rename_i E1 h1' hd
          cases hx
          obtain ⟨p, q, st, hq, w⟩ := tryDr_sound hcall hd
          exact ⟨p, fun Q hQ => drawn_rule hP rfl (by simpa using h1) h2' hq (w _ _ hQ)⟩
        · cases hx
      | false =>
        simp only [cond_false] at hx
        split at hx
        · rename_i E1 h1' hd
          cases hx
          obtain ⟨p, w⟩ := exOps_sound hcall (rd := rd) _ _ _ _ _ hd
          refine ⟨p, fun Q hQ => .region (ops_sound (List.range ops.size) l _ _ rfl (by simp [h1]) (fun k i o hk ho => ?_) (by simp) (w Q hQ))⟩
          rw [List.getElem?_range] at hk
          · cases hk; exact h2' k o ho
          · have := (List.getElem?_eq_some_iff.1 hk).1; simpa using this
        · cases hx
  | seq x y ihx ihy =>
    intro E h e E' h' hx
    simp only [exCode] at hx
    split at hx
    · rename_i E1 h1 h0
      obtain ⟨p1, w1⟩ := ihx _ _ _ _ _ h0
      obtain ⟨p2, w2⟩ := ihy _ _ _ _ _ hx
      exact ⟨p1.trans p2, fun Q hQ => .seq (w1 _ (w2 Q hQ))⟩
    · rename_i hne
      obtain ⟨p1, w1⟩ := ihx _ _ _ _ _ hx
      refine ⟨p1, fun Q hQ => .seq (w1 _ ?_)⟩
      cases e with
      | normal => exact absurd hx (hne _ _)
      | exit id => exact hQ
      | goto l => exact hQ
      | ret => exact hQ
      | panic v => exact hQ
  | cond c x y ihx ihy =>
    intro E h e E' h' hx
    simp only [exCode] at hx
    split at hx
    · rename_i c' hc
      split at hx
      · rename_i t ht
        cases t with
        | true =>
          obtain ⟨p, w⟩ := ihx _ _ _ _ _ hx
          exact ⟨p, fun Q hQ => .cond (t := true) hc ht (w Q hQ)⟩
        | false =>
          obtain ⟨p, w⟩ := ihy _ _ _ _ _ hx
          exact ⟨p, fun Q hQ => .cond (t := false) hc ht (w Q hQ)⟩
      · cases hx
    · cases hx
  | block id x ih =>
    intro E h e E' h' hx
    simp only [exCode] at hx
    split at hx
    · rename_i j E1 h1 h0
      obtain ⟨p, w⟩ := ih _ _ _ _ _ h0
      by_cases hj : Nat.beq j id = true
      · rw [hj] at hx; cases hx
        refine ⟨p, fun Q hQ => .block (w _ ?_)⟩
        simp only [blockA]
        rw [if_pos (Nat.eq_of_beq_eq_true hj)]; exact hQ
      · have hj' := hj
        rw [Bool.not_eq_true] at hj'
        rw [hj'] at hx; cases hx
        refine ⟨p, fun Q hQ => .block (w _ ?_)⟩
        simp only [blockA]
        rw [if_neg (fun hh => hj (by rw [hh]; exact Nat.beq_refl _))]; exact hQ
    · rename_i hne
      obtain ⟨p, w⟩ := ih _ _ _ _ _ hx
      refine ⟨p, fun Q hQ => .block (w _ ?_)⟩
      cases e with
      | exit j => exact absurd hx (hne _ _ _)
      | normal => exact hQ
      | goto l => exact hQ
      | ret => exact hQ
      | panic v => exact hQ
  | loop x ih =>
    intro E h e E' h' hx
    simp only [exCode] at hx
    obtain ⟨p, w⟩ := exLoop_sound (P := P) (rd := rd) (n := n) ih _ _ _ _ _ _ hx
    refine ⟨p, fun Q hQ => ?_⟩
    obtain ⟨e', env1, σ1, q, hn, r⟩ := w Q hQ
    exact ⟨e', env1, σ1, q, hn, fun ι ro w a r' b hr R E M hb Qc hQ => wpIn_loopAt (r ι ro w a r' b hr R E M hb Qc hQ)⟩
  | rangeFunc f ps x y ihx ihy =>
    intro E h e E' h' hx
    simp only [exCode] at hx
    split at hx
    · rename_i f' hf
      split at hx
      · rename_i g first caps hev
        by_cases hb : (enters P g && rdGood rd h) = true
        · rw [hb] at hx
          simp only [cond_true] at hx
          split at hx
          · rename_i h1 hnew
            split at hx
            · rename_i v h3 hc
              split at hx
              · rename_i lo hlo
                split at hx
                · cases hx
                · rename_i hnb
                  split at hx
                  · rename_i e1 he
                    split at hx
                    · rename_i h4 hk
                      cases hx
                      simp only [Bool.and_eq_true] at hb
                      obtain ⟨a1, p1⟩ := XH.new_spec hnew
                      obtain ⟨p3, r3⟩ := hcall _ _ _ _ _ hc
                      obtain ⟨k1, k2, k3, k4⟩ := XH.upd_spec hk
                      have hP1 := p1.trans p3
                      refine ⟨⟨by have := hP1.1; omega, Nat.le_trans k3 hP1.2.1, fun N hN hlo => by rw [k2, if_neg (by omega)]; exact hP1.2.2 N hN (by omega)⟩, fun Q hQ => ?_⟩
                      refine .rangeFunc hf hev (rdGood_spec hb.2) hb.1 ?_
                      rw [show (h.toA.next) = h.nx from rfl, ← a1]
                      refine r3.mono fun o s ⟨ho, hs⟩ => ?_
                      subst ho; subst hs
                      refine ⟨lo, hlo, fun hs => hnb hs, pendX_spec he ?_⟩
                      rw [← XH.upd_kill hk]; exact hQ
                    · cases hx
                  · cases hx
              · cases hx
            · cases hx
          · cases hx
        · rw [Bool.not_eq_true] at hb; rw [hb] at hx; cases hx
      · cases hx
    · cases hx
  | scope _ _ => intro E h e E' h' hx; simp [exCode] at hx
  | label _ => intro E h e E' h' hx; simp [exCode] at hx
  | goto _ => intro E h e E' h' hx; simp [exCode] at hx
  | refuse _ => intro E h e E' h' hx; simp [exCode] at hx
end
end Go.Tc
namespace Go.Tc
set_option linter.unusedSimpArgs false
set_option linter.unusedVariables false
noncomputable section
section
variable {P : Program}
theorem RunV.funcC {f : FuncId} {n : Nat} {ac : ACode} {rs : List ARes} (hcf : compFunc P f = some (n, ac, rs)) {first args caps : List AVal} {σ : AHeap} {Q : AOut → AHeap → Prop} {fn0 : Func} {c0 : Code} (hf0 : P.funcs[f]? = some fn0) (hb0 : fn0.body = some c0)
    (hlen : (first ++ args ++ caps).length ≤ n) (h : RunC P none c0 (env0 n (first ++ args ++ caps)) σ (retA rs Q)) : RunV P (.func (.func f) first caps) args σ Q := by
  obtain ⟨fn, c, hf, hb, hent, rfl, hcc, hcr⟩ := compFunc_spec hcf
  have e0 : fn = fn0 := by rw [hf] at hf0; exact Option.some.inj hf0
  subst e0
  have e1 : c = c0 := by rw [hb] at hb0; exact Option.some.inj hb0
  subst e1
  obtain ⟨e, env', σ', hq, hn', hrun⟩ := h
  have hn2 : env'.n = fn.ntmps := hn'
  obtain ⟨out, hQ, hds, hout⟩ : ∃ out, Q out σ' ∧ env'.ds = [] ∧ ((∃ vs, (e = .normal ∨ e = .ret) ∧ resAs env' σ' rs = some vs ∧ out = .ret (tupA vs)) ∨ ∃ v, e = .panic v ∧ out = .panic v) := by
    have rr : (env'.ds = [] ∧ (match resAs env' σ' rs with | some vs => Q (.ret (tupA vs)) σ' | none => False)) → (e = .normal ∨ e = .ret) →
        ∃ out, Q out σ' ∧ env'.ds = [] ∧ ((∃ vs, (e = .normal ∨ e = .ret) ∧ resAs env' σ' rs = some vs ∧ out = .ret (tupA vs)) ∨ ∃ v, e = .panic v ∧ out = .panic v) := by
      intro h he
      obtain ⟨hd, h⟩ := h
      split at h
      · rename_i vs hvs; exact ⟨_, h, hd, .inl ⟨vs, he, hvs, rfl⟩⟩
      · exact h.elim
    cases e with
    | normal => exact rr hq (.inl rfl)
    | ret => exact rr hq (.inr rfl)
    | panic v => exact ⟨.panic v, hq.2, hq.1, .inr ⟨v, rfl, rfl⟩⟩
    | exit id => exact hq.elim
    | goto l => exact hq.elim
  refine ⟨out, σ', hQ, fun ι ro w fu us R hfu hus => ?_⟩
  cases hfu with
  | @func _ _ _ first' caps' hnn h1 h2 h3 h4 =>
  simp only [Deferred.ofValue, pure_bind, invoke, enters_run hent, Upon]
  refine callsIn_of_wp_marks hf hb trivial ?_
  have hsz : (first' ++ us ++ caps').size = (first ++ args ++ caps).length := by simp [h1, h2, hus.1]
  have hrel : ∀ (i : Nat) v u, (first ++ args ++ caps)[i]? = some v → (first' ++ us ++ caps')[i]? = some u → VRel ι ro w v u := by
    intro i v u hv hu
    by_cases hi1 : i < (first ++ args).length
    · rw [List.getElem?_append_left hi1] at hv
      rw [Array.getElem?_append_left (by simp [h1, hus.1] at hi1 ⊢; omega)] at hu
      by_cases hi2 : i < first.length
      · rw [List.getElem?_append_left hi2] at hv
        rw [Array.getElem?_append_left (by omega)] at hu
        exact h3 i v u hv hu
      · rw [List.getElem?_append_right (by omega)] at hv
        rw [Array.getElem?_append_right (by omega)] at hu
        rw [h1] at hu
        exact hus.2 _ v u hv hu
    · rw [List.getElem?_append_right (by omega)] at hv
      rw [Array.getElem?_append_right (by simp [h1, hus.1] at hi1 ⊢; omega)] at hu
      have : (first' ++ us).size = (first ++ args).length := by simp [h1, hus.1]
      rw [this] at hu
      exact h4 _ v u hv hu
  have E0 : EnvRel ι ro w (env0 fn.ntmps (first ++ args ++ caps)) { tmps := (first' ++ us ++ caps') ++ Array.replicate (fn.ntmps - (first' ++ us ++ caps').size) undef, defers := [] } := by
    refine ⟨by simp only [Array.size_append, Array.size_replicate, env0]; simp only [Array.size_append, List.length_append] at hsz hlen; omega, fun i u hu => ?_, rfl, by simp⟩
    show VRel ι ro w ((first ++ args ++ caps).getD i (.tup [])) u
    by_cases hi : i < (first ++ args ++ caps).length
    · have hv : (first ++ args ++ caps)[i]? = some (first ++ args ++ caps)[i] := List.getElem?_eq_getElem hi
      rw [Array.getElem?_append_left (by omega)] at hu
      have := hrel i _ u hv hu
      rwa [List.getD_eq_getElem?_getD, hv]
    · rw [Array.getElem?_append_right (by omega)] at hu
      rw [List.getD_eq_getElem?_getD, List.getElem?_eq_none (by omega)]
      have hlt := (Array.getElem?_eq_some_iff.1 hu).1
      rw [Array.getElem?_replicate] at hu
      split at hu
      · cases hu; exact tupNil _ _ _
      · cases hu
  refine hrun ι ro w _ none w.heap.size trivial R E0 ⟨by simp [marksOf], by simp [marksOf]⟩ (Nat.le_refl _) _ ?_
  intro ι' ro' e' a' w' L' R' E' M' X'
  have hfil : a'.defers.filter noMark = [] := by
    have := E'.ds.1
    rw [hds] at this
    exact List.eq_nil_of_length_eq_zero this
  have fin : ∀ vs, resAs env' σ' rs = some vs → out = .ret (tupA vs) → ∀ w'', Rel ι' ro' σ' w'' → Later ι ro σ w ι' ro' σ' w'' → (∀ v u, VRel ι' ro' w' v u → VRel ι' ro' w'' v u) → LeavesIn Fence.wide 0 P fn a'.tmps (Met ι ro σ w out σ') [] .returning w'' := by
    intro vs hvs ho w'' R'' L'' hvv
    obtain ⟨u, hu, hv⟩ := results_rel (P := P) R'' (env := env') (tmps := a'.tmps) (fn := fn) (rs := rs) E'.size (fun i u hu => hvv _ _ (E'.t i u hu)) (by rw [hn2]; exact hcr) hvs
    exact ⟨u, hu, ι', ro', L'', R'', by rw [ho]; exact .ret hv⟩
  rcases hout with ⟨vs, he, hvs, ho⟩ | ⟨v, he, ho⟩
  · have := leavesM (u := .returning) (w0 := w') (by simp) (fin vs hvs ho) a'.defers w' hfil M'.nodup M'.each R' L' (fun _ _ h => h)
    rcases he with rfl | rfl <;> cases X' <;> exact this
  · subst he
    cases X' with
    | @panic _ u hv =>
    refine leavesM (u := .panicking [{ v := u, recovered := false }]) (w0 := w') (by simp) (fun w'' R'' L'' hvv => ?_) a'.defers w' hfil M'.nodup M'.each R' L' (fun _ _ h => h)
    exact ⟨ι', ro', L'', R'', by rw [ho]; exact .panic (hvv _ _ hv)⟩
def bodyX (P : Program) (f : FuncId) : Option (Nat × Code × List ARes) :=
  match P.funcs[f]? with
  | some fn => match fn.body with
    | some c => (match compFunc P f with | some (n, _, rs) => some (n, c, rs) | none => none)
    | none => none
  | none => none
theorem bodyX_spec {f : FuncId} {n : Nat} {c : Code} {rs : List ARes} (h : bodyX P f = some (n, c, rs)) : ∃ fn ac, P.funcs[f]? = some fn ∧ fn.body = some c ∧ compFunc P f = some (n, ac, rs) := by
  unfold bodyX at h
  split at h
  · rename_i fn hf
    split at h
    · rename_i c' hb
      split at h
      · rename_i n' ac rs' hc
        cases h
        exact ⟨fn, ac, hf, hb, hc⟩
      · cases h
    · cases h
  · cases h
def exRes (n : Nat) (rs : List ARes) : Option (AExit × XE × XH) → Option (AVal × XH)
  | some (.normal, E, h) | some (.ret, E, h) => (match resAs (envX n E) h.toA rs with | some vs => some (tupA vs, h) | none => none)
  | _ => none
theorem envX_nil {n : Nat} {b : Nat → AVal} : envX n ⟨.nil, b⟩ = { n, t := b, ds := [] } := rfl
def exRound (P : Program) (call : CT) (K : Nat) (L : Nat) (args : List AVal) (h : XH) : Option (AVal × XH) :=
  match h.H.get L with
  | some (.loop lo) => bif Nat.beq args.length lo.params.size then
      (match exCodeW P call K lo.size (some L) lo.assign ⟨.nil, setPs lo.env lo.params.toList args⟩ h with
      | some (.normal, E1, h1) => (match h1.H.get L with
        | some (.loop lo1) => (match lo1.state with
          | .ready => (match h1.upd L (some (.loop { lo1 with state := .busy })) with
            | some h2 => (match exCodeW P call K lo.size (some L) lo.body E1 h2 with
              | some (.normal, _, h3) => (match h3.H.get L with
                | some (.loop lo2) => (match h3.upd L (some (.loop { lo2 with state := .ready, pending := none })) with | some h4 => some (.bool true, h4) | none => none)
                | _ => none)
              | some (.ret, _, h3) => (match h3.H.get L with
                | some (.loop lo2) => (match h3.upd L (some (.loop { lo2 with state := .done, pending := some .ret })) with | some h4 => some (.bool false, h4) | none => none)
                | _ => none)
              | some (.exit id, _, h3) => (match h3.H.get L with
                | some (.loop lo2) => (match h3.upd L (some (.loop { lo2 with state := .done, pending := some (.exit id) })) with | some h4 => some (.bool false, h4) | none => none)
                | _ => none)
              | _ => none)
            | none => none)
          | _ => none)
        | _ => none)
      | _ => none)
    else none
  | _ => none
def argsX : Nat → List AVal → Tr AVal → Option (Tr AVal)
  | _, [], t => some t
  | i, a :: zs, t => match Tr.set 0 t i (some a) with | some t' => argsX (i + 1) zs t' | none => none
theorem argsX_get : ∀ (zs : List AVal) (i : Nat) (t t' : Tr AVal), argsX i zs t = some t' → ∀ j, t'.get j = if i ≤ j ∧ j < i + zs.length then zs[j - i]? else t.get j := by
  intro zs
  induction zs with
  | nil => intro i t t' h j; cases h; rw [if_neg (by simp)]
  | cons a zs ih =>
    intro i t t' h j
    simp only [argsX] at h
    split at h
    · rename_i t1 h1
      rw [ih _ _ _ h j, Tr.set_get _ _ _ _ _ h1]
      by_cases hj : j = i
      · subst hj
        rw [if_neg (by omega), if_pos rfl, if_pos (by simp)]
        simp
      · rw [if_neg hj]
        by_cases h2 : i + 1 ≤ j ∧ j < i + 1 + zs.length
        · rw [if_pos h2, if_pos (by simp; omega)]
          have : j - i = (j - (i + 1)) + 1 := by omega
          rw [this, List.getElem?_cons_succ]
        · rw [if_neg h2, if_neg (by simp; omega)]
    · cases h
theorem argsX_env {n : Nat} {zs : List AVal} {t : Tr AVal} (h : argsX 0 zs .nil = some t) : envX n ⟨t, fun _ => .tup []⟩ = env0 n zs := by
  have hg := argsX_get zs 0 .nil t h
  simp only [envX, env0]
  congr 1
  funext j
  simp only [XE.t, hg]
  by_cases hj : j < zs.length
  · rw [if_pos (by omega)]
    simp [List.getD_eq_getElem?_getD, List.getElem?_eq_getElem hj]
  · rw [if_neg (by omega)]
    have : (Tr.nil : Tr AVal).get j = none := rfl
    rw [this]
    simp [List.getD_eq_getElem?_getD, List.getElem?_eq_none (Nat.le_of_not_lt hj)]
abbrev Orc := FuncId → List AVal → XH → Option AVal
def SoundO (P : Program) (O : Orc) : Prop := ∀ f zs h v, O f zs h = some v → RunV P (.func (.func f) [] []) zs h.toA (fun o s => o = .ret v ∧ s = h.toA)
def noOrc : Orc := fun _ _ _ => none
theorem noOrc_sound {P : Program} : SoundO P noOrc := fun _ _ _ _ h => by cases h
def exGo (call : CT) (K n : Nat) (rs : List ARes) (c : CodeR) (h : XH) : Option (Tr AVal) → Option (AVal × XH)
  | some t => exRes n rs (c.run call K none ⟨t, fun _ => .tup []⟩ h)
  | none => none
def exFn (P : Program) (call : CT) (K : Nat) (zs : List AVal) (h : XH) : Option (Nat × Code × List ARes) → Option (AVal × XH)
  | some (n, c, rs) => Bool.rec (motive := fun _ => Option (AVal × XH)) none (exGo call K n rs (codeW P n c) h (argsX 0 zs .nil)) (Nat.ble zs.length n)
  | none => none
def isNilL : List AVal → Bool
  | [] => true
  | _ => false
def exOrc (O : Orc) (f : FuncId) (first caps args : List AVal) (h : XH) : Option AVal :=
  bif isNilL first && isNilL caps then O f args h else none
def orElseO (h : XH) (e : Option (AVal × XH)) : Option AVal → Option (AVal × XH)
  | some v => some (v, h)
  | none => e
def exCall (P : Program) (O : Orc) (K : Nat) : Nat → CT
  | 0, _, _, _ => none
  | d + 1, f, args, h => match f with
    | .func (.func f) first caps => orElseO h (exFn P (exCall P O K d) K (first ++ args ++ caps) h (bodyX P f)) (exOrc O f first caps args h)
    | .yield L => exRound P (exCall P O K d) K L args h
    | _ => none
theorem exRound_sound (hP : P.follows .mixedOrders = true) {call : CT} (hcall : SoundCT P call) {K L : Nat} {args : List AVal} {h h' : XH} {v : AVal} (hx : exRound P call K L args h = some (v, h')) :
    Pres h h' ∧ RunV P (.yield L) args h.toA (fun o s => o = .ret v ∧ s = h'.toA) := by
  unfold exRound at hx
  split at hx
  · rename_i lo hlo
    by_cases hb : Nat.beq args.length lo.params.size = true
    · rw [hb] at hx
      simp only [cond_true] at hx
      split at hx
      · rename_i E1 h1 hA
        split at hx
        · rename_i lo1 hlo1
          split at hx
          · rename_i hst
            split at hx
            · rename_i h2 hu
              obtain ⟨pa, wa⟩ := exCode_sound hP hcall _ _ _ _ _ _ (exCodeW_sound' hA)
              have pu := XH.upd_pres hu
              have eu := XH.upd_set hu
              have hE : ∀ (e : AExit) (E2 : XE) (h3 : XH), exCodeW P call K lo.size (some L) lo.body E1 h2 = some (e, E2, h3) → ∀ (b : Bool) (st : LoopState) (pe : Option Code) (lo2 : ALoop), h3.H.get L = some (.loop lo2) → h3.upd L (some (.loop { lo2 with state := st, pending := pe })) = some h' →
                  (∀ Q : AOut → AHeap → Prop, Q (.ret (.bool b)) (h3.toA.set L (.loop { lo2 with state := st, pending := pe })) → roundA L h3.toA lo2 Q e) → Pres h h' ∧ RunV P (.yield L) args h.toA (fun o s => o = .ret (.bool b) ∧ s = h'.toA) := by
                intro e E2 h3 hB b st pe lo2 hlo2 hu2 hr
                obtain ⟨pb, wb⟩ := exCode_sound hP hcall _ _ _ _ _ _ (exCodeW_sound' hB)
                refine ⟨((pa.trans pu).trans pb).trans (XH.upd_pres hu2), ?_⟩
                refine RunV.yield (lo := lo) hlo (Nat.eq_of_beq_eq_true hb) (wa _ ⟨rfl, lo1, hlo1, hst, ?_⟩)
                rw [← eu]
                refine wb _ ⟨lo2, hlo2, hr _ ⟨rfl, ?_⟩⟩
                rw [XH.upd_set hu2]
              split at hx
              · rename_i E2 h3 hB
                split at hx
                · rename_i lo2 hlo2
                  split at hx
                  · rename_i h4 hu2
                    cases hx
                    exact hE _ _ _ hB _ _ _ _ hlo2 hu2 fun Q hQ => hQ
                  · cases hx
                · cases hx
              · rename_i E2 h3 hB
                split at hx
                · rename_i lo2 hlo2
                  split at hx
                  · rename_i h4 hu2
                    cases hx
                    exact hE _ _ _ hB _ _ _ _ hlo2 hu2 fun Q hQ => hQ
                  · cases hx
                · cases hx
              · rename_i id E2 h3 hB
                split at hx
                · rename_i lo2 hlo2
                  split at hx
                  · rename_i h4 hu2
                    cases hx
                    exact hE _ _ _ hB _ _ _ _ hlo2 hu2 fun Q hQ => hQ
                  · cases hx
                · cases hx
              · cases hx
            · cases hx
          · cases hx
        · cases hx
      · cases hx
    · rw [Bool.not_eq_true] at hb; rw [hb] at hx; cases hx
  · cases hx
theorem exFn_sound (hP : P.follows .mixedOrders = true) {call : CT} (hcall : SoundCT P call) {K : Nat} {f : FuncId} {first args caps : List AVal} {h h' : XH} {v : AVal}
    (hx : exFn P call K (first ++ args ++ caps) h (bodyX P f) = some (v, h')) : Pres h h' ∧ RunV P (.func (.func f) first caps) args h.toA (fun o s => o = .ret v ∧ s = h'.toA) := by
  cases hbx : bodyX P f with
  | none => rw [hbx] at hx; cases hx
  | some r =>
    obtain ⟨n, c, rs⟩ := r
    rw [hbx] at hx
    cases hb : Nat.ble (first ++ args ++ caps).length n with
    | false => simp only [exFn, hb] at hx; cases hx
    | true =>
      simp only [exFn, hb] at hx
      cases ht : argsX 0 (first ++ args ++ caps) .nil with
      | none => rw [ht] at hx; cases hx
      | some t =>
        rw [ht] at hx
        simp only [exGo] at hx
        obtain ⟨fn, ac, hf, hbd, hcf⟩ := bodyX_spec hbx
        have key : ∀ (e : AExit) (E : XE) (h1 : XH), (e = .normal ∨ e = .ret) → (codeW P n c).run call K none ⟨t, fun _ => .tup []⟩ h = some (e, E, h1) →
            (match resAs (envX n E) h1.toA rs with | some vs => some (tupA vs, h1) | none => none) = some (v, h') → Pres h h' ∧ RunV P (.func (.func f) first caps) args h.toA (fun o s => o = .ret v ∧ s = h'.toA) := by
          intro e E h1 he hc hr
          rw [codeW_eq] at hc
          obtain ⟨p, w⟩ := exCode_sound hP hcall _ _ _ _ _ _ hc
          split at hr
          · rename_i vs hvs
            cases hr
            rw [argsX_env ht] at w
            refine ⟨p, RunV.funcC hcf hf hbd (by simpa using hb) (w _ ?_)⟩
            rcases he with rfl | rfl
            · refine ⟨rfl, ?_⟩; rw [hvs]; exact ⟨rfl, rfl⟩
            · refine ⟨rfl, ?_⟩; rw [hvs]; exact ⟨rfl, rfl⟩
          · cases hr
        unfold exRes at hx
        split at hx
        · rename_i E h1 hc; exact key _ _ _ (.inl rfl) hc hx
        · rename_i E h1 hc; exact key _ _ _ (.inr rfl) hc hx
        · cases hx
theorem exCall_sound (hP : P.follows .mixedOrders = true) {O : Orc} (hO : SoundO P O) {K : Nat} : ∀ d, SoundCT P (exCall P O K d) := by
  intro d
  induction d with
  | zero => intro f zs h v h' hx; cases hx
  | succ d ih =>
    intro f zs h v h' hx
    simp only [exCall] at hx
    split at hx
    · rename_i f first caps
      cases ho : exOrc O f first caps zs h with
      | none => rw [ho] at hx; exact exFn_sound hP ih hx
      | some v1 =>
        rw [ho] at hx
        cases hx
        unfold exOrc at ho
        cases first with
        | cons _ _ => cases ho
        | nil =>
          cases caps with
          | cons _ _ => cases ho
          | nil => exact ⟨.refl _, hO _ _ _ _ ho⟩
    · exact exRound_sound hP ih hx
    · cases hx
theorem CallV.uniS {P : Program} {f : FuncId} {zs : List AVal} (hclo : ∀ a ∈ zs, Clo a) {v : AVal} {s : AHeap} (h : CallV P (.func (.func f) [] []) zs nilHeap (.ret v) s) (hr : scal v = true) (σ : AHeap) :
    CallV P (.func (.func f) [] []) zs σ (.ret v) (plus σ s) := by
  refine h.ren (fun N => if N < s.next then some (N + σ.next) else none) (fun N' => if σ.next ≤ N' ∧ N' < σ.next + s.next then some (N' - σ.next) else none) (fun N N' => ?_) (fun N N' hg => ?_) (fun N N' hg => ?_) (Nat.le_add_right _ _) (.func rfl rfl (by simp) (by simp)) rfl
    (fun i a a0 h1 h2 => by rw [h1] at h2; cases h2; exact hclo a (List.mem_of_getElem? h1) _) (fun N o hN => by simp [nilHeap] at hN) (fun N' o' hN => ?_) ?_
  · constructor
    · intro hg
      split at hg
      · cases hg
        rw [if_pos ⟨by omega, by omega⟩]; congr 1; omega
      · cases hg
    · intro hg
      split at hg
      · cases hg
        rw [if_pos (by omega)]; congr 1; omega
      · cases hg
  · simp only [nilHeap]
    split at hg
    · cases hg; omega
    · cases hg
  · simp only [plus]
    split at hg
    · cases hg; omega
    · cases hg
  · simp only [plus] at hN
    split at hN
    · rename_i hlt
      right
      exact ⟨by rw [if_neg (by omega)], hN⟩
    · rename_i hge
      left
      split at hN
      case isFalse => cases hN
      rename_i hlt2
      cases ho : s.objs (N' - σ.next) with
      | none => rw [ho] at hN; cases hN
      | some o =>
        cases o with
        | cells m rows =>
          rw [ho] at hN
          simp only [keepS] at hN
          split at hN
          · rename_i hrows
            cases hN
            refine ⟨N' - σ.next, .cells m rows, ?_, ho, .cells (fun _ => rfl) (fun j q v v' h1 h2 => ?_) (fun j q v' h1 => ?_)⟩
            · show (if N' - σ.next < s.next then some (N' - σ.next + σ.next) else none) = some N'
              rw [if_pos (by omega)]; congr 1; omega
            · rw [h1] at h2; cases h2
              simp only [cellAt, Option.bind_eq_some_iff] at h1
              obtain ⟨row, hr, hv⟩ := h1
              exact scal_ren v (hrows row (List.mem_of_getElem? hr) v (List.mem_of_getElem? hv)).1
            · simp only [cellAt, Option.bind_eq_some_iff] at h1
              obtain ⟨row, hr, hv⟩ := h1
              exact (hrows row (List.mem_of_getElem? hr) v' (List.mem_of_getElem? hv)).2
          · cases hN
        | _ => rw [ho] at hN; cases hN
  · exact scal_ren v hr
def exTest (P : Program) (O : Orc) (K d : Nat) (f : FuncId) : Bool :=
  match exCall P O K d (.func (.func f) [] []) [] ⟨.nil, 0, 0⟩ with
  | some (.bool true, _) => true
  | _ => false
theorem exTest_spec (hP : P.follows .mixedOrders = true) {O : Orc} (hO : SoundO P O) {K d : Nat} {f : FuncId} (h : exTest P O K d f = true) {σ : AHeap} {Q : AOut → AHeap → Prop} (hQ : Q (.ret (.bool true)) σ) : RunV P (.func (.func f) [] []) [] σ Q := by
  unfold exTest at h
  split at h
  · rename_i h' hx
    obtain ⟨_, o, s, ⟨rfl, rfl⟩, hc⟩ := exCall_sound hP hO d _ _ _ _ _ hx
    have h0 : (⟨.nil, 0, 0⟩ : XH).toA = nilHeap := rfl
    rw [h0] at hc
    have := hc.uniS (by simp) rfl σ
    exact RunV.drop ⟨_, _, ⟨_, rfl, rfl, plus_ext σ _, hQ⟩, this⟩
  · cases h
end
end
end Go.Tc
namespace Go.Tc
open Go.RowKit Go.ChangeShapes Go.WideShapes Go.ChangeAt
theorem rel_nil (W : World) : Rel (fun _ => none) (fun b _ => b < W.heap.size) nilHeap W :=
  ⟨fun _ _ h => (by cases h), fun _ _ _ h => (by cases h), fun _ _ _ _ _ _ _ h => (by cases h), fun _ _ _ ⟨_, _, _, _, _, _, h, _⟩ => (by cases h), fun _ _ h => h⟩
theorem Frame.below {W W' : World} (h : Frame (fun _ => none) nilHeap W W') : Below W.heap.size W W' := by
  refine ⟨h.os, h.tape, h.output, h.size, fun k hk => ?_⟩
  obtain ⟨o, ho⟩ : ∃ o, W.heap[k]? = some o := ⟨W.heap[k], Array.getElem?_eq_getElem hk⟩
  rw [ho]
  cases hc : isCells o with
  | false => exact h.objs k o ho hc (fun ⟨_, _, h, _⟩ => by cases h)
  | true =>
    cases o with
    | cells c e f =>
      obtain ⟨c', h1, h2, h3⟩ := h.cells k c e f ho
      rw [h1]
      have : c' = c := Array.ext_getElem? fun i => h3 i (fun ⟨_, _, _, _, _, _, h, _⟩ => by cases h)
      rw [this]
    | _ => cases hc
section
variable {H : Type} {enc : TypeId × Value → H} {P : Program} {W W' : World}
theorem trodAll_back (hl : laidOutB P = true) (hb : Below W.heap.size W W') {sp : Nat → Bool} : ∀ (ts : List TypeId) (vs : List Value) (ds : List (DataW H)) (ps : List MemPlace), (∀ t ∈ ts, P.readableRec t = true ∧ t < P.types.size) →
    DataW.TrodAll enc P W 0 (fun _ => true) true ts vs ds ps → (∀ x ∈ ps, x.block < W.heap.size) → (∀ x ∈ ps, sp x.block = true) → DataW.TrodAll enc P W' 0 sp true ts vs ds ps
  | [], vs, ds, ps, _, h, _, _ => by
    cases vs <;> cases ds <;> simp [DataW.TrodAll] at h ⊢
    exact h
  | t :: ts, vs, ds, ps, ht, h, hlt, hs => by
    cases vs <;> cases ds <;> simp only [DataW.TrodAll] at h ⊢ <;> try exact h.elim
    obtain ⟨p, q, h1, h2, rfl⟩ := h
    obtain ⟨a, b⟩ := ht t (by simp)
    exact ⟨p, q, WideElems.Trod_stays hl a b h1 (fun x hx => hb.same (hlt x (by simp [hx]))) (fun x hx => hs x (by simp [hx])),
      trodAll_back hl hb ts _ _ _ (fun t ht' => ht t (by simp [ht'])) h2 (fun x hx => hlt x (by simp [hx])) (fun x hx => hs x (by simp [hx])), rfl⟩
end
theorem post_true {H : Type} {enc : TypeId × Value → H} {P : Program} {f : Func} {s : ChangeSpec} {apart fresh handsOn again : Bool} {W W' : World} {args : Array Value} {ds gs : List (DataW H)} {before : List MemPlace}
    (hl : laidOutB P = true) (hv : s.vars = []) {tb : TypeId} (hr : f.resultTypes = #[tb]) (hb : P.underlying tb = some .bool) (ht : ∀ t ∈ f.params.toList, P.readableRec t = true ∧ t < P.types.size)
    (hW : DataW.Whole enc P f.params.toList s.vars apart W args.toList ds gs before) (hfn : (s.fn H (ds ++ gs)).results = [.lit (.bool true)] ∧ (s.fn H (ds ++ gs)).args = ds ∧ (s.fn H (ds ++ gs)).vars = [])
    (hB : Below W.heap.size W W') : s.post enc P f apart fresh handsOn again W args (.bool true) W' := by
  have hlt : ∀ x ∈ before, x.block < W.heap.size := fun x hx => hW.lt x hx
  have hW0 := hW
  obtain ⟨p, q, hA, hV, rfl, hz, hn⟩ := hW0
  rw [hv] at hV
  have hq : q = [] := by
    cases gs <;> simp [DataW.TrodVars] at hV
    exact hV
  subst hq
  simp only [List.append_nil] at hlt hz hn hW
  have hres : ∀ (b : Nat) (sp : Nat → Bool) (hd : Bool), DataW.TrodAll enc P W' b sp hd f.resultTypes.toList ((Value.bool true).resultList f.resultTypes.size) (s.fn H (ds ++ gs)).results [] := by
    intro b sp hd
    rw [hr, hfn.1]
    exact trodAll_cons_mk (shut_bool hb _) trodAll_mk0
  have hargs : ∀ sp : Nat → Bool, (∀ x ∈ p, sp x.block = true) → DataW.TrodAll enc P W' 0 sp true f.params.toList args.toList (s.fn H (ds ++ gs)).args p := by
    intro sp hs
    rw [hfn.2.1]
    exact trodAll_back hl hB _ _ _ _ ht hA hlt hs
  have hvars : ∀ sp : Nat → Bool, DataW.TrodVars enc P W' sp s.vars (s.fn H (ds ++ gs)).vars [] := by
    intro sp
    rw [hv, hfn.2.2]
    rfl
  refine ⟨ds, gs, p, [], p, [], hW, hres _ _ _, hargs _ (fun x hx => by simpa using hlt x hx), hvars _, World.keptBut_mono (fun x hx => ⟨hx, .inr (.inl hx)⟩) (hB.frame _), fun _ => ?_⟩
  refine ⟨?_, _, _, ([] ++ p) ++ [], ⟨[] ++ p, [], trodAll_append (hargs _ (fun _ _ => rfl)) (hres _ _ _), hvars _, rfl, ?_, ?_⟩, ?_⟩
  · exact ok_one hr rfl (okWide_bool_mk hb _)
  · intro b off hp
    have hp' : MemPlace.cell b off ∈ p := by simpa using hp
    rw [hB.frozen (hlt _ hp')]
    exact hz b off hp'
  · intro ha
    simpa using hn ha
  · intro x hx _
    simpa using hx
theorem RunV.calls {P : Program} {f : FuncId} (hen : enters P f = true) {zs : List AVal} {us : Array Value} {W : World}
    (h : RunV P (.func (.func f) [] []) zs nilHeap (fun o s => o = .ret (.bool true))) (hus : VRels (fun _ => none) (fun b _ => b < W.heap.size) W zs us) :
    Calls P f us W fun e W' => e = .returned (.bool true) ∧ Below W.heap.size W W' := by
  obtain ⟨out, s, rfl, hc⟩ := h
  have := hc _ _ W (.func (.func f) #[] #[]) us (rel_nil W) (.func (by simp) rfl rfl (by simp) (by simp)) hus
  simp only [Deferred.ofValue, pure_bind, invoke, enters_run hen, Upon, Array.empty_append, Array.append_empty] at this
  refine callsIn_wide.1 (CallsIn.mono (by simpa using this) fun e W' hm => ?_)
  obtain ⟨ι', ro', L, R, E⟩ := hm
  refine ⟨?_, L.frame.below⟩
  cases E with
  | ret hv => cases hv; rfl
end Go.Tc
namespace Go.Tc
open Go.RowKit Go.ChangeShapes Go.WideShapes Go.ChangeAt
set_option linter.unusedSimpArgs false
inductive Sh {H : Type} (P : Program) : TypeId → DataW H → List AVal → Prop
  | bool {t : TypeId} {b : Bool} (ht : P.underlying t = some .bool) : Sh P t (.lit (.bool b)) [.bool b]
  | int {t : TypeId} {k : IntKind} {n : Int} (ht : P.underlying t = some (.int k)) (hw : (Lit.int k n).wf = true) : Sh P t (.lit (.int k n)) [.int k n]
  | str {t : TypeId} {s : ByteArray} (ht : P.underlying t = some .string) (hs : s.size ≤ maxLen) : Sh P t (.lit (.string s.data.toList)) [.str s]
  | nilS {t e : TypeId} (ht : P.underlying t = some (.slice e)) : Sh P t .nil [.nilS]
  | slice {t e : TypeId} {elems spare : List (DataW H)} {rows : List (List AVal)} (ht : P.underlying t = some (.slice e)) (hl : rows.length = elems.length)
      (hr : ∀ (i : Nat) d r, elems[i]? = some d → rows[i]? = some r → Sh P e d r) : Sh P t (.slice elems spare) [.rs (P.cellsOf e) rows 0 rows.length false]
  | struct {t : TypeId} {fs : Array Field} {parts : List (DataW H)} {cs : List (List AVal)} (ht : P.underlying t = some (.struct fs)) (hl : parts.length = fs.size) (hc : cs.length = fs.size)
      (hp : ∀ (i : Nat) f d c, fs[i]? = some f → parts[i]? = some d → cs[i]? = some c → Sh P f.type d c) : Sh P t (.agg parts) cs.flatten
def contigB (P : Program) : Nat → List Field → Nat → Bool
  | off, [], total => Nat.beq off total
  | off, f :: fs, total => Nat.beq f.offset off && contigB P (off + P.cellsOf f.type) fs total
def plainB (P : Program) : Nat → TypeId → Bool
  | 0, _ => false
  | n + 1, t => match P.underlying t with
    | some .bool | some (.int _) | some .string => true
    | some (.slice e) => Nat.blt 0 (P.cellsOf e) && plainB P n e
    | some (.struct fs) => contigB P 0 fs.toList (P.cellsOf t) && fs.toList.all fun f => plainB P n f.type
    | _ => false
def RelL (W : World) (zs : List AVal) (cs : List Value) : Prop :=
  zs.length = cs.length ∧ (∀ a ∈ zs, a.one = true) ∧ ∀ (i : Nat) a u, zs[i]? = some a → cs[i]? = some u → VRel (fun _ => none) (fun b _ => b < W.heap.size) W a u
theorem RelL.one1 {W : World} {a : AVal} {u : Value} (h1 : a.one = true) (h : VRel (fun _ => none) (fun b _ => b < W.heap.size) W a u) : RelL W [a] [u] :=
  ⟨rfl, by simpa using h1, fun i a' u' h2 h3 => by
    cases i with
    | zero => simp at h2 h3; subst h2; subst h3; exact h
    | succ i => simp at h2⟩
theorem RelL.append {W : World} {zs bs : List AVal} {cs ds : List Value} (h : RelL W zs cs) (k : RelL W bs ds) : RelL W (zs ++ bs) (cs ++ ds) := by
  refine ⟨by simp [h.1, k.1], fun a ha => ?_, fun i a u h1 h2 => ?_⟩
  · rcases List.mem_append.1 ha with ha | ha
    · exact h.2.1 a ha
    · exact k.2.1 a ha
  · by_cases hi : i < zs.length
    · rw [List.getElem?_append_left hi] at h1
      rw [List.getElem?_append_left (by have := h.1; omega)] at h2
      exact h.2.2 i a u h1 h2
    · rw [List.getElem?_append_right (by omega)] at h1
      rw [List.getElem?_append_right (by have := h.1; omega)] at h2
      rw [← h.1] at h2
      exact k.2.2 _ a u h1 h2
theorem cells_rel {W : World} {base : Nat} {a : Addr} {m : Nat} {cs : List Value} (h : W.cells? base a m = some cs) : cs.length = m ∧ ∀ (q : Nat) u, cs[q]? = some u → W.cell? (a.add q) = some u := by
  unfold World.cells? at h
  split at h
  · have hl := mapM_some_length h
    refine ⟨by simpa using hl, fun q u hu => ?_⟩
    have hq : q < m := by have := (List.getElem?_eq_some_iff.1 hu).1; simp at hl; omega
    rw [← hu]
    exact mapM_some_get h q q (by simp [hq])
  · cases h
theorem cell_spot {W : World} {a : Addr} {u : Value} (h : W.cell? a = some u) : a.spot = none ∧ a.block < W.heap.size := by
  unfold World.cell? at h
  split at h
  · rename_i c x y hb
    refine ⟨?_, (Array.getElem?_eq_some_iff.1 hb).1⟩
    split at h
    · cases h
    · rename_i hs; simpa using hs
  · cases h
theorem add_block (a : Addr) (x : Nat) : (a.add x).block = a.block := by unfold Addr.add; split <;> rfl
theorem add_off (a : Addr) (x : Nat) : (a.add x).off = a.off + x := by unfold Addr.add; split <;> simp_all
theorem cell_at {W : World} {a : Addr} {x q : Nat} {u : Value} (h : W.cell? ((a.add x).add q) = some u) : W.cell? ⟨a.block, a.off + x + q, none⟩ = some u ∧ a.block < W.heap.size := by
  obtain ⟨h1, h2⟩ := cell_spot h
  have e : (a.add x).add q = ⟨a.block, a.off + x + q, none⟩ := by
    have e1 : ((a.add x).add q).block = a.block := by rw [add_block, add_block]
    have e2 : ((a.add x).add q).off = a.off + x + q := by rw [add_off, add_off]
    generalize (a.add x).add q = p at h1 e1 e2
    obtain ⟨b, o, s⟩ := p
    simp only at h1 e1 e2
    rw [h1, e1, e2]
  rw [e] at h
  rw [add_block, add_block] at h2
  exact ⟨h, h2⟩
section
variable {H : Type} {enc : TypeId × Value → H} {P : Program} {W : World} {held : Bool}
theorem fields_rel {W : World} {cs : List Value} : ∀ (fs : List Field) (off total : Nat) (xs : List (List AVal)), contigB P off fs total = true → cs.length = total → xs.length = fs.length →
    (∀ (i : Nat) f x, fs[i]? = some f → xs[i]? = some x → RelL W x ((cs.drop f.offset).take (P.cellsOf f.type))) → RelL W xs.flatten (cs.drop off)
  | [], off, total, xs, hc, hl, hx, _ => by
    have : xs = [] := List.length_eq_zero_iff.1 hx
    subst this
    simp only [contigB, Nat.beq_eq] at hc
    subst hc
    rw [← hl, List.drop_length]
    exact ⟨rfl, by simp, by simp⟩
  | f :: fs, off, total, [], hc, hl, hx, _ => by simp at hx
  | f :: fs, off, total, x :: xs, hc, hl, hx, h => by
    simp only [contigB, Bool.and_eq_true, Nat.beq_eq] at hc
    have h0 := h 0 f x rfl rfl
    rw [hc.1] at h0
    have ih := fields_rel fs (off + P.cellsOf f.type) total xs hc.2 hl (by simpa using hx) (fun i f' x' h1 h2 => h (i + 1) f' x' (by simpa using h1) (by simpa using h2))
    have e : cs.drop off = (cs.drop off).take (P.cellsOf f.type) ++ cs.drop (off + P.cellsOf f.type) := by
      rw [← List.drop_drop, List.take_append_drop]
    rw [e, List.flatten_cons]
    exact h0.append ih
theorem trod_sh : ∀ (n : Nat) (t : TypeId) (k : Nat) (cs : List Value) (x : DataW H × List MemPlace), plainB P n t = true → DataW.trod enc P W 0 (fun _ => true) held k t cs = some x → ∃ zs, Sh P t x.1 zs ∧ RelL W zs cs := by
  intro n
  induction n with
  | zero => intro t k cs x hp; cases hp
  | succ n ih =>
    intro t k cs x hp h
    simp only [plainB] at hp
    split at hp
    · rename_i ht
      obtain ⟨b, rfl, rfl⟩ := DataW.trod_bool ht h
      exact ⟨_, .bool ht, .one1 rfl (.bool b)⟩
    · rename_i kd ht
      obtain ⟨m, rfl, rfl, hw⟩ := DataW.trod_int ht h
      exact ⟨_, .int ht hw, .one1 rfl (.int _ _)⟩
    · rename_i ht
      obtain ⟨s, rfl, rfl, hs⟩ := DataW.trod_string ht h
      exact ⟨_, .str ht hs, .one1 rfl (.str s)⟩
    · rename_i e ht
      simp only [Bool.and_eq_true, Nat.blt_eq] at hp
      rcases DataW.trod_slice ht h with ⟨rfl, rfl⟩ | ⟨a, len, cap, elems, rest, m, rfl, rfl, rfl, _, hl, _, hlen, hel, hsp, _⟩
      · exact ⟨_, .nilS ht, .one1 rfl .nilS⟩
      · have hrow : ∀ i, i < len → ∃ zs : List AVal, ∀ y, elems[i]? = some y → Sh P e y.1 zs ∧ ∃ cs', W.cells? 0 (a.add (i * P.cellsOf e)) (P.cellsOf e) = some cs' ∧ RelL W zs cs' := by
          intro i hi
          have h1 := hel i hi
          rw [List.getElem?_eq_getElem (by omega)] at h1
          simp only [Option.bind_eq_some_iff] at h1
          obtain ⟨cs', hc, ht'⟩ := h1
          obtain ⟨zs, hs, hr⟩ := ih _ _ _ _ hp.2 ht'
          refine ⟨zs, fun y hy => ?_⟩
          rw [List.getElem?_eq_getElem (by omega)] at hy
          cases hy
          exact ⟨hs, cs', hc, hr⟩
        obtain ⟨g, hg⟩ := Go.Deep.choose_lt hrow
        have hg' : ∀ i, i < len → ∃ cs', W.cells? 0 (a.add (i * P.cellsOf e)) (P.cellsOf e) = some cs' ∧ RelL W (g i) cs' := fun i hi => (hg i hi _ (List.getElem?_eq_getElem (by omega))).2
        have hcell : ∀ j q v, cellAt ((List.range len).map g) j q = some v → ∃ u, W.cell? ((a.add (j * P.cellsOf e)).add q) = some u ∧ VRel (fun _ => none) (fun b _ => b < W.heap.size) W v u := by
          intro j q v hv
          simp only [cellAt, List.getElem?_map, Option.bind_eq_some_iff, Option.map_eq_some_iff] at hv
          obtain ⟨row, ⟨i, hi, rfl⟩, hq⟩ := hv
          have hj : i = j ∧ j < len := by
            have := (List.getElem?_eq_some_iff.1 hi)
            obtain ⟨h1, h2⟩ := this
            simp at h1 h2
            exact ⟨h2.symm, h1⟩
          obtain ⟨rfl, hj⟩ := hj
          obtain ⟨cs', hc, hr⟩ := hg' i hj
          obtain ⟨c1, c2⟩ := cells_rel hc
          have hql : q < cs'.length := by rw [← hr.1]; exact (List.getElem?_eq_some_iff.1 hq).1
          exact ⟨cs'[q], c2 q _ (List.getElem?_eq_getElem hql), hr.2.2 q v _ hq (List.getElem?_eq_getElem hql)⟩
        have hsh := Sh.slice (P := P) (t := t) (e := e) (elems := elems.map (·.1)) (spare := rest.map (·.1)) (rows := (List.range len).map g) ht (by simp [hlen]) (fun i d r h1 h2 => by
          simp only [List.getElem?_map, Option.map_eq_some_iff] at h1 h2
          obtain ⟨y, hy, rfl⟩ := h1
          obtain ⟨i', hi', rfl⟩ := h2
          obtain ⟨l1, l2⟩ := List.getElem?_eq_some_iff.1 hi'
          simp at l1 l2
          subst l2
          exact (hg _ l1 y hy).1)
        have el : ((List.range len).map g).length = len := by simp
        rw [el] at hsh
        refine ⟨_, hsh, .one1 rfl (.rs (m := P.cellsOf e) a.block a.off (fun j q => (W.cell? ⟨a.block, a.off + j * P.cellsOf e + q, none⟩).getD undef) ?_ ?_ ?_ hl (by simp) ?_)⟩
        · intro row hrow
          simp only [List.mem_map, List.mem_range] at hrow
          obtain ⟨i, hi, rfl⟩ := hrow
          obtain ⟨cs', hc, hr⟩ := hg' i hi
          exact ⟨hr.1.trans (cells_rel hc).1, hr.2.1⟩
        · intro j q v hv
          obtain ⟨u, hu, _⟩ := hcell j q v hv
          obtain ⟨c1, c2⟩ := cell_at hu
          exact ⟨c2, by rw [c1]; rfl⟩
        · intro j q v hv
          obtain ⟨u, hu, hr⟩ := hcell j q v hv
          obtain ⟨c1, c2⟩ := cell_at hu
          rw [c1]; exact hr
        · by_cases hc0 : cap = 0
          · exact .inl hc0
          · right
            have first : ∃ cs', W.cells? 0 (a.add 0) (P.cellsOf e) = some cs' := by
              by_cases h0 : len = 0
              · obtain ⟨r1, r2⟩ := hsp rfl
                have h1 := r2 0 (by omega)
                rw [List.getElem?_eq_getElem (by omega)] at h1
                simp only [Option.bind_eq_some_iff] at h1
                obtain ⟨cs', hc, _⟩ := h1
                rw [h0] at hc
                simp only [Nat.zero_add, Nat.zero_mul] at hc
                exact ⟨cs', hc⟩
              · obtain ⟨cs', hc, _⟩ := hg' 0 (by omega)
                rw [Nat.zero_mul] at hc
                exact ⟨cs', hc⟩
            obtain ⟨cs', hc⟩ := first
            obtain ⟨c1, c2⟩ := cells_rel hc
            have hu := c2 0 _ (List.getElem?_eq_getElem (by omega))
            have hs := (cell_spot hu).1
            have e0 : (a.add 0).add 0 = a := rfl
            rw [e0] at hs
            obtain ⟨b, o, s⟩ := a
            simp only at hs
            simp [hs]
    · rename_i fs ht
      simp only [Bool.and_eq_true, List.all_eq_true] at hp
      obtain ⟨xs, m, rfl, rfl, hcl, hxl, hf⟩ := DataW.trod_struct ht h
      have hrow : ∀ i, i < fs.size → ∃ zs : List AVal, ∀ f y, fs[i]? = some f → xs[i]? = some y → Sh P f.type y.1 zs ∧ RelL W zs ((cs.drop f.offset).take (P.cellsOf f.type)) := by
        intro i hi
        have h1 := hf i _ (Array.getElem?_eq_getElem hi)
        rw [List.getElem?_eq_getElem (by omega)] at h1
        obtain ⟨zs, hs, hr⟩ := ih _ _ _ _ (hp.2 _ (by simp)) h1
        refine ⟨zs, fun f y hf' hy => ?_⟩
        rw [Array.getElem?_eq_getElem hi] at hf'
        rw [List.getElem?_eq_getElem (by omega)] at hy
        cases hf'; cases hy
        exact ⟨hs, hr⟩
      obtain ⟨g, hg⟩ := Go.Deep.choose_lt hrow
      have hi' : ∀ (i : Nat) c, ((List.range fs.size).map g)[i]? = some c → i < fs.size ∧ c = g i := by
        intro i c hc
        obtain ⟨l1, l2⟩ := List.getElem?_eq_some_iff.1 hc
        simp at l1 l2
        exact ⟨l1, l2.symm⟩
      refine ⟨_, .struct (cs := (List.range fs.size).map g) ht (by simp [hxl]) (by simp) (fun i f d c h1 h2 h3 => ?_), ?_⟩
      · simp only [List.getElem?_map, Option.map_eq_some_iff] at h2
        obtain ⟨y, hy, rfl⟩ := h2
        obtain ⟨l1, rfl⟩ := hi' i c h3
        exact (hg i l1 f y h1 hy).1
      · have := fields_rel (P := P) (W := W) (cs := cs) fs.toList 0 (P.cellsOf t) ((List.range fs.size).map g) hp.1 hcl (by simp) (fun i f x h1 h2 => by
          obtain ⟨l1, rfl⟩ := hi' i x h2
          have h1' : fs[i]? = some f := by simpa using h1
          exact (hg i l1 f _ h1' (List.getElem?_eq_getElem (by omega))).2)
        simpa using this
    · cases hp
end
end Go.Tc
namespace Go.Tc
open Go.RowKit
set_option linter.unusedSimpArgs false
theorem Sh.sl {H : Type} {P : Program} {α : Type} {t e : TypeId} {m : Nat} {f : α → List AVal} {d : DataW H} {zs : List AVal} (h : Sh P t d zs) (ht : P.underlying t = some (.slice e)) (hm : P.cellsOf e = m)
    (hf : ∀ (d' : DataW H) r, Sh P e d' r → ∃ x, r = f x) : (d = .nil ∧ zs = [.nilS]) ∨ ∃ (elems spare : List (DataW H)) (l : List α), d = .slice elems spare ∧ zs = [.rs m (l.map f) 0 l.length false] ∧ l.length = elems.length := by
  cases h with
  | nilS _ => exact .inl ⟨rfl, rfl⟩
  | @slice _ e' elems spare rows ht' hl hr =>
    rw [ht] at ht'
    cases ht'
    right
    have : ∀ rows : List (List AVal), (∀ r ∈ rows, ∃ x, r = f x) → ∃ l : List α, rows = l.map f := by
      intro rows
      induction rows with
      | nil => intro _; exact ⟨[], rfl⟩
      | cons r rs ih =>
        intro h
        obtain ⟨x, hx⟩ := h r (by simp)
        obtain ⟨l, hl⟩ := ih fun r' h' => h r' (by simp [h'])
        exact ⟨x :: l, by rw [hx, hl]; rfl⟩
    obtain ⟨l, rfl⟩ := this rows fun r hrm => by
      obtain ⟨i, hi⟩ := List.getElem?_of_mem hrm
      have hlt := (List.getElem?_eq_some_iff.1 hi).1
      exact hf _ _ (hr i _ r (List.getElem?_eq_getElem (by omega)) hi)
    refine ⟨elems, spare, l, rfl, ?_, by simpa using hl⟩
    rw [hm, List.length_map]
  | bool h' => rw [ht] at h'; cases h'
  | int h' => rw [ht] at h'; cases h'
  | str h' => rw [ht] at h'; cases h'
  | struct h' => rw [ht] at h'; cases h'
theorem Sh.int' {H : Type} {P : Program} {t : TypeId} {k : IntKind} {d : DataW H} {zs : List AVal} (h : Sh P t d zs) (ht : P.underlying t = some (.int k)) : ∃ n, d = .lit (.int k n) ∧ zs = [.int k n] := by
  cases h with
  | int h' hw => rw [ht] at h'; cases h'; exact ⟨_, rfl, rfl⟩
  | bool h' => rw [ht] at h'; cases h'
  | nilS h' => rw [ht] at h'; cases h'
  | slice h' => rw [ht] at h'; cases h'
  | str h' => rw [ht] at h'; cases h'
  | struct h' => rw [ht] at h'; cases h'
theorem Sh.struct' {H : Type} {P : Program} {t : TypeId} {fs : Array Field} {d : DataW H} {zs : List AVal} (h : Sh P t d zs) (ht : P.underlying t = some (.struct fs)) :
    ∃ (parts : List (DataW H)) (cs : List (List AVal)), d = .agg parts ∧ zs = cs.flatten ∧ parts.length = fs.size ∧ cs.length = fs.size ∧ ∀ (i : Nat) f d c, fs[i]? = some f → parts[i]? = some d → cs[i]? = some c → Sh P f.type d c := by
  cases h with
  | struct h' hl hc hp => rw [ht] at h'; cases h'; exact ⟨_, _, rfl, rfl, hl, hc, hp⟩
  | int h' => rw [ht] at h'; cases h'
  | bool h' => rw [ht] at h'; cases h'
  | nilS h' => rw [ht] at h'; cases h'
  | slice h' => rw [ht] at h'; cases h'
  | str h' => rw [ht] at h'; cases h'
def ShL {H : Type} (P : Program) : List TypeId → List (DataW H) → List (List AVal) → Prop
  | [], [], [] => True
  | t :: ts, d :: ds, c :: cs => Sh P t d c ∧ ShL P ts ds cs
  | _, _, _ => False
theorem shL_of {H : Type} {P : Program} : ∀ (fs : List Field) (parts : List (DataW H)) (cs : List (List AVal)), parts.length = fs.length → cs.length = fs.length →
    (∀ (i : Nat) f d c, fs[i]? = some f → parts[i]? = some d → cs[i]? = some c → Sh P f.type d c) → ShL P (fs.map (·.type)) parts cs
  | [], [], [], _, _, _ => trivial
  | f :: fs, d :: ds, c :: cs, h1, h2, h => ⟨h 0 f d c rfl rfl rfl, shL_of fs ds cs (by simpa using h1) (by simpa using h2) fun i f' d' c' a b e => h (i + 1) f' d' c' (by simpa using a) (by simpa using b) (by simpa using e)⟩
  | [], _ :: _, _, h1, _, _ => by simp at h1
  | [], [], _ :: _, _, h2, _ => by simp at h2
  | _ :: _, [], _, h1, _, _ => by simp at h1
  | _ :: _, _ :: _, [], _, h2, _ => by simp at h2
theorem Sh.fields {H : Type} {P : Program} {t : TypeId} {fs : Array Field} {ts : List TypeId} {d : DataW H} {zs : List AVal} (h : Sh P t d zs) (ht : P.underlying t = some (.struct fs)) (hts : fs.toList.map (·.type) = ts) :
    ∃ (parts : List (DataW H)) (cs : List (List AVal)), d = .agg parts ∧ zs = cs.flatten ∧ ShL P ts parts cs := by
  obtain ⟨parts, cs, h1, h2, h3, h4, h5⟩ := h.struct' ht
  subst hts
  exact ⟨parts, cs, h1, h2, shL_of _ _ _ (by simpa using h3) (by simpa using h4) fun i f d c a b e => h5 i f d c (by simpa using a) b e⟩
theorem ShL.cons {H : Type} {P : Program} {t : TypeId} {ts : List TypeId} {ds : List (DataW H)} {cs : List (List AVal)} (h : ShL P (t :: ts) ds cs) : ∃ d ds' c cs', ds = d :: ds' ∧ cs = c :: cs' ∧ Sh P t d c ∧ ShL P ts ds' cs' := by
  cases ds <;> cases cs <;> simp only [ShL] at h
  exact ⟨_, _, _, _, rfl, rfl, h⟩
theorem ShL.nil {H : Type} {P : Program} {ds : List (DataW H)} {cs : List (List AVal)} (h : ShL P [] ds cs) : ds = [] ∧ cs = [] := by
  cases ds <;> cases cs <;> simp only [ShL] at h
  exact ⟨rfl, rfl⟩
end Go.Tc
