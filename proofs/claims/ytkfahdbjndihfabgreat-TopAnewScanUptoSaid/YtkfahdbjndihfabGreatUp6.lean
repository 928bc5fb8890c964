/- Proved here: the law TopAnewScan returns true for every argument of bulk at most 1048576 and leaves it as it was; no other condition. (part 6 of 6.) -/
import Derived.Test.YtkfahdbjndihfabGreatUp5
import Derived.Test.YtkfahdbjndihfabGreatRows
import Derived.JoinedCond
import Derived.WalkKit
import Derived.ProofKit
import Derived.OpenShut
set_option linter.unusedSimpArgs false
set_option linter.unusedVariables false
set_option linter.unnecessarySimpa false
namespace Go.Proofs.YtkfahdbjndihfabGreat
open Go.Tc
set_option linter.unusedSimpArgs false
set_option linter.unusedVariables false
set_option maxRecDepth 20000
set_option maxHeartbeats 4000000
theorem wrap_u64 {x : Int} (h0 : 0 ≤ x) (h1 : x ≤ 18446744073709551615) : IntKind.u64.wrap x = x := by
  simp only [IntKind.wrap, IntKind.signed, IntKind.bits]
  first | exact Int.emod_eq_of_lt h0 (by omega) | (simp; omega)
theorem b_mask {e : EqT} {x : Int} (h0 : 0 ≤ x) (h1 : x ≤ 4294967295) : binA .and e (.int .u64 x) (.int .u64 4294967295) = some (.int .u64 x) := by
  obtain ⟨n, rfl⟩ : ∃ n : Nat, x = n := ⟨x.toNat, by omega⟩
  simp only [binA, binI, if_true, Option.some.injEq, AVal.int.injEq, true_and]
  have e1 : (BitVec.ofInt IntKind.u64.bits (n : Int) &&& BitVec.ofInt IntKind.u64.bits 4294967295).toNat = n := by
    rw [BitVec.toNat_and]
    have : (BitVec.ofInt IntKind.u64.bits (n : Int)).toNat = n := by
      show (BitVec.ofInt 64 (n : Int)).toNat = n
      rw [BitVec.ofInt_natCast, BitVec.toNat_ofNat, Nat.mod_eq_of_lt (by omega)]
    rw [this, show (BitVec.ofInt IntKind.u64.bits 4294967295).toNat = 2 ^ 32 - 1 by decide, Nat.and_two_pow_sub_one_eq_mod, Nat.mod_eq_of_lt (by omega)]
  rw [e1, wrap_u64 (by omega) (by omega)]
theorem shr32 {x : Int} (h0 : 0 ≤ x) (h1 : x ≤ 4294967295) : x.fdiv (2 ^ (min (Int.toNat 32) IntKind.u64.bits)) = 0 := by
  have e : (2 : Int) ^ min (Int.toNat 32) IntKind.u64.bits = 4294967296 := by decide
  rw [e, Int.fdiv_eq_ediv_of_nonneg _ (by omega)]
  omega
theorem s123 {σ : AHeap} {c : Int} (hc : 0 ≤ c ∧ c ≤ 1000000) {Q : AOut → AHeap → Prop} (hQ : Q (.ret (.tup [.int .u64 0, .int .u64 c])) σ) : RunV Tryz.prog (.func (.func 123) [] []) [.int .u64 1, .int .u64 c] σ Q := by
  refine RunV.func mixed k123 (by simp) ?_
  simp (disch := omega) only [c123, ↓CTL, ↓DRW, VAL, DRV, b_mask, shr32, wrap_u64, Int.mul_zero, Int.zero_mul, Int.one_mul, Int.add_zero, Int.zero_add, Nat.reduceBEq, Nat.reduceAdd]
  exact hQ
theorem s120 {σ : AHeap} {c : Int} (hc : 0 ≤ c ∧ c ≤ 1000000) {Q : AOut → AHeap → Prop} (hQ : Q (.ret (.tup [.int .u64 0, .int .u64 c])) σ) : RunV Tryz.prog (.func (.func 120) [] []) [.int .u64 1, .int .u64 c] σ Q := by
  refine RunV.func mixed k120 (by simp) ?_
  simp (disch := omega) only [c120, ↓CTL, ↓DRW, VAL, DRV, Nat.reduceBEq, Nat.reduceAdd]
  refine s123 hc ?_
  simp (disch := omega) only [↓CTL, ↓DRW, VAL, DRV, Nat.reduceBEq, Nat.reduceAdd]
  exact hQ
theorem s121 {σ : AHeap} {n : Int} (h0 : 0 ≤ n) (h1 : n ≤ 281474976710656) {Q : AOut → AHeap → Prop} (hQ : Q (.ret (.ms 1 σ.next 0 n.toNat false)) (σ.alloc (.cells 1 []))) : RunV Tryz.prog (.func (.func 121) [] []) [.int .i64 n] σ Q :=
  RunV.mnz (fn := Tryz.prog.funcs.getD 121 default) (ps := #[3]) (t := 22) (e := 5) (by kernel_rfl) (by kernel_rfl) (by kernel_rfl) (by kernel_rfl) (by kernel_rfl) (by kernel_rfl) h0 h1 hQ
theorem cpy_first {s : AHeap} {N n : Nat} {v : AVal} {x : Int} (hN : s.objs N = some (.cells 1 [])) (hv : elems s 1 v = some [rU x]) (hn : 1 ≤ n) : cpyA s 1 (.ms 1 N 0 n true) v = some (.int .i64 1, s.set N (.cells 1 ([x].map rU))) := by
  have hm : Nat.min 1 n = 1 := Nat.min_eq_left hn
  simp [cpyA, hv, hN, hm]
theorem cpy_more {s : AHeap} {N n a k : Nat} {x : Int} {ex ex2 : Bool} (hN : s.objs N = some (.cells 1 ((List.replicate a x).map rU))) (ha : 1 ≤ a) (hn : a < n) (hk : k = min a (n - a)) :
    cpyA s 1 (.ms 1 N a (n - a) ex) (.ms 1 N 0 a ex2) = some (.int .i64 k, s.set N (.cells 1 ((List.replicate (a + k) x).map rU))) := by
  have he : elems s 1 (.ms 1 N 0 a ex2) = some ((List.replicate a x).map rU) := by
    simp only [elems, if_true, hN]
    rw [if_neg (by omega)]
    simp
  have hm : Nat.min a (n - a) = k := hk.symm
  have hk0 : k ≠ 0 := by omega
  simp only [cpyA, he, hN, List.length_map, List.length_replicate, hm, if_neg hk0, true_and, Nat.le_refl, if_true]
  refine congrArg some (Prod.ext rfl (congrArg (fun r => s.set N (.cells 1 r)) ?_))
  simp only [← List.map_take, ← List.map_drop, List.take_replicate, List.drop_replicate, ← List.map_append, List.replicate_append_replicate]
  congr 2
  omega
theorem s116 {σ : AHeap} {v : AVal} {x c : Int} (hv : EV σ 1 rU v [x]) (hc : 1 ≤ c ∧ c ≤ 1000) {Q : AOut → AHeap → Prop} (hQ : ∀ u s, Ext σ s → OwnS s σ.next 1 rU u (List.replicate c.toNat x) → Q (.ret u) s) :
    RunV Tryz.prog (.func (.func 116) [] []) [v, .int .i64 c] σ Q := by
  refine RunV.func mixed k116 (by simp) ?_
  have hlen : lenOfS v = some 1 := hv.len
  simp (disch := omega) only [c116, ↓CTL, ↓DRW, VAL, DRV, Nat.reduceBEq, Nat.reduceAdd, hlen, Int.natCast_one, wrap_u64]
  refine s120 (by omega) ?_
  simp (disch := omega) only [↓CTL, ↓DRW, VAL, DRV, Nat.reduceBEq, Nat.reduceAdd, hlen, Int.natCast_one, wrap_u64]
  repeat' first
    | refine G_false (fun _ => ?_) (fun _ => ?_)
    | refine B_if (fun _ => ?_) (fun _ => ?_)
    | (exfalso; omega)
    | refine s121 (by omega) (by omega) ?_
    | simp (disch := omega) only [↓CTL, ↓DRW, VAL, DRV, Nat.reduceBEq, Nat.reduceAdd, hlen, Int.natCast_one, wrap_u64]
  have hsl : sliceA 1 (.ms 1 σ.next 0 c.toNat false) none (some (.int .i64 c)) (some (.int .i64 c)) = some (.ms 1 σ.next 0 c.toNat true) := by
    simp only [sliceA, if_true, bound_in (show (0 : Int) ≤ c by omega) (show c ≤ (c.toNat : Nat) by omega), Option.bind_some, show ∀ d e : Nat, bound none d e = some d from fun _ _ => rfl, Nat.add_zero, Nat.sub_zero]
  have h1 := cpy_first (s := σ.alloc (.cells 1 [])) (N := σ.next) (n := c.toNat) (objs_new rfl) (hv _ ((Ext.refl _).alloc _)).elems (by omega)
  simp (disch := omega) only [↓CTL, ↓DRW, VAL, DRV, Nat.reduceBEq, Nat.reduceAdd, hsl, h1]
  refine A_loopV (α := Nat) m116_0 (fun a => [(10, .int .i64 a)]) (fun a s => 1 ≤ a ∧ a ≤ c.toNat ∧ s = σ.alloc (.cells 1 ((List.replicate a x).map rU))) (fun a => c.toNat - a) rfl (fun _ => rfl) ⟨1, ?_, Nat.le_refl _, by omega, rfl⟩ ?_
  · simp only [↓CTL, VAL, Nat.reduceBEq]; try rfl
  · rintro a f s ⟨ha, hac, rfl⟩
    simp (disch := omega) only [↓CTL, ↓DRW, VAL, DRV, Nat.reduceBEq, Nat.reduceAdd, m116_0]
    refine B_if (fun hlt => ?_) (fun hge => ?_)
    · simp (disch := omega) only [↓CTL, ↓DRW, VAL, DRV, Nat.reduceBEq, Nat.reduceAdd, m116_0]
      refine dr_go [] [] ?_ ?_; · decide
      have e1 : min (a : Int) c = a := by omega
      have hs1 : sliceA 1 (.ms 1 σ.next 0 c.toNat true) (some (.int .i64 (a : Int))) none none = some (.ms 1 σ.next a (c.toNat - a) (true && c.toNat == c.toNat)) := by
        simp only [sliceA, if_true, bound_in (show (0 : Int) ≤ (a : Int) by omega) (show (a : Int) ≤ (c.toNat : Nat) by omega), Option.bind_some, show ∀ d e : Nat, bound none d e = some d from fun _ _ => rfl, Int.toNat_natCast, Nat.zero_add]
      have hs2 : sliceA 1 (.ms 1 σ.next 0 c.toNat true) none (some (.int .i64 (a : Int))) none = some (.ms 1 σ.next 0 a (true && a == c.toNat)) := by
        simp only [sliceA, if_true, bound_in (show (0 : Int) ≤ (a : Int) by omega) (show (a : Int) ≤ (c.toNat : Nat) by omega), Option.bind_some, show ∀ d e : Nat, bound none d e = some d from fun _ _ => rfl, Int.toNat_natCast, Nat.add_zero, Nat.sub_zero]
      have hcp := cpy_more (s := σ.alloc (.cells 1 ((List.replicate a x).map rU))) (N := σ.next) (n := c.toNat) (ex := c.toNat == c.toNat) (ex2 := a == c.toNat) (objs_new rfl) ha (by omega) rfl
      simp (disch := omega) only [↓CTL, ↓DRW, VAL, DRV, Nat.reduceBEq, Nat.reduceAdd, m116_0, e1, hs1, hs2, hcp]
      refine ⟨a + min a (c.toNat - a), ?_, ⟨by omega, by omega, rfl⟩, by omega⟩
      congr 1
    · have : a = c.toNat := by omega
      subst this
      simp (disch := omega) only [↓CTL, ↓DRW, VAL, DRV, Nat.reduceBEq, Nat.reduceAdd, m116_0]
      exact hQ _ _ ((Ext.refl _).alloc _) (.inr ⟨σ.next, true, by simp, Nat.le_refl _, by simp, objs_new rfl⟩)
end Go.Proofs.YtkfahdbjndihfabGreat
namespace Go.Proofs.YtkfahdbjndihfabGreat
open Go.Tc
set_option linter.unusedSimpArgs false
set_option linter.unusedVariables false
set_option maxRecDepth 20000
set_option maxHeartbeats 4000000
def badForm : AVal := .iface 40 (.int .i64 6)
theorem s96 {σ : AHeap} {b : Bool} {Q : AOut → AHeap → Prop} (h1 : b = true → Q (.ret (.tup [])) σ) (h2 : b = false → Q (.panic (.iface 40 (.int .i64 6))) σ) : RunV Tryz.prog (.func (.func 96) [] []) [.bool b] σ Q := by
  refine RunV.func mixed k96 (by simp) ?_
  cases b with
  | true =>
    simp (disch := omega) only [c96, ↓CTL, ↓DRW, VAL, DRV, Nat.reduceBEq, Nat.reduceAdd, Bool.not_true]
    exact h1 rfl
  | false =>
    simp (disch := omega) only [c96, ↓CTL, ↓DRW, VAL, DRV, Nat.reduceBEq, Nat.reduceAdd, Bool.not_false]
    rw [L_panic rfl]
    simp (disch := omega) only [PAN, VAL]
    exact h2 rfl
theorem s115 {σ : AHeap} {v : AVal} {l : List Int} {n : Int} {N : Nat} (hN : σ.objs N = some (.cells 1 [[v]])) (hv : RV 1 rU v l) (hl : l.length ≤ 1000000) (hn : 0 ≤ n) {Q : AOut → AHeap → Prop}
    (h1 : n ≤ l.length → Q (.ret (slV 1 v 0 n)) (σ.set N (.cells 1 [[slV 1 v n l.length]]))) (h2 : Q (.panic (.iface 40 (.int .i64 6))) σ) :
    RunV Tryz.prog (.func (.func 115) [] []) [.ptr N 0 0, .int .i64 n] σ Q := by
  refine RunV.func mixed k115 (by simp) ?_
  simp (disch := omega) only [c115, ↓CTL, ↓DRW, VAL, DRV, Nat.reduceBEq, Nat.reduceAdd, hN, hv.S]
  refine s96 (fun hb => ?_) (fun hb => ?_)
  · have hle : n ≤ l.length := by simpa using hb
    have ho : (slV 1 v n l.length).one = true := ((hv.sub hn hle (Int.le_refl _)) σ).one
    simp (disch := omega) only [↓CTL, ↓DRW, VAL, DRV, Nat.reduceBEq, Nat.reduceAdd, hN, hv.S, ho]
    exact h1 hle
  · simp (disch := omega) only [↓CTL, PAN, VAL]
    exact h2
def ExX (N : Nat) (σ s : AHeap) : Prop := σ.next ≤ s.next ∧ ∀ M, M < σ.next → M ≠ N → s.objs M = σ.objs M
theorem s97 {σ : AHeap} {v : AVal} {l : List Int} {w : Int} {N : Nat} (hN : σ.objs N = some (.cells 1 [[v]])) (hNn : N < σ.next) (hv : RV 1 rU v l) (hl : l.length ≤ 100000) (hb : ∀ x ∈ l, 0 ≤ x ∧ x ≤ 255) (hw : 1 ≤ w ∧ w ≤ 48) {Q : AOut → AHeap → Prop}
    (h1 : ∀ u L v' l' s, ExX N σ s → s.objs N = some (.cells 1 [[v']]) → RV 1 rU v' l' → l'.length ≤ l.length → (∀ x ∈ l', 0 ≤ x ∧ x ≤ 255) → OwnS s σ.next 1 rU u L → (L.length : Int) = w → Q (.ret u) s) (h2 : ∀ s, ExX N σ s → Q (.panic (.iface 40 (.int .i64 6))) s) :
    RunV Tryz.prog (.func (.func 97) [] []) [.ptr N 0 0, .int .i64 w] σ Q := by
  refine RunV.func mixed k97 (by simp) ?_
  simp (disch := omega) only [c97, ↓CTL, ↓DRW, VAL, DRV, Nat.reduceBEq, Nat.reduceAdd]
  refine A_loopV (α := AVal × AVal × List Int × List Int) m97_0 (fun x => [(4, x.1)]) (fun x s => ExX N σ s ∧ s.objs N = some (.cells 1 [[x.2.1]]) ∧ RV 1 rU x.2.1 x.2.2.1 ∧ x.2.2.1.length ≤ l.length ∧ (∀ y ∈ x.2.2.1, 0 ≤ y ∧ y ≤ 255) ∧ OwnS s σ.next 1 rU x.1 x.2.2.2 ∧ x.2.2.2.length ≤ 1000) (fun x => x.2.2.1.length) rfl (fun _ => rfl)
    ⟨(.nilS, v, l, []), ?_, ⟨Nat.le_refl _, fun _ _ _ => rfl⟩, hN, hv, Nat.le_refl _, hb, .nil, by simp⟩ ?_
  · simp only [↓CTL, VAL, Nat.reduceBEq]; try rfl
  · rintro ⟨u, v, l1, L⟩ f s ⟨hX, hN, hv, hl1, hb1, hO, hL⟩
    dsimp only at hN hv hl1 hb1 hO hL ⊢
    have hlen := hO.len
    simp (disch := omega) only [↓CTL, ↓DRW, VAL, DRV, Nat.reduceBEq, Nat.reduceAdd, m97_0, hlen]
    refine B_if (fun hlt => ?_) (fun hge => ?_)
    · simp (disch := omega) only [↓CTL, ↓DRW, VAL, DRV, Nat.reduceBEq, Nat.reduceAdd, m97_0, hlen]
      refine s115 hN hv (by omega) (by omega) (fun hn1 => ?_) ?_
      rotate_left
      · simp (disch := omega) only [↓CTL, PAN, VAL]
        exact h2 _ hX
      have hl1' : 1 ≤ l1.length := by omega
      have hsub := hv.sub (a := 1) (b := l1.length) (by omega) (by omega) (Int.le_refl _)
      have h01 := hv.sub (a := 0) (b := 1) (by omega) (by omega) (by omega)
      have hX1 : ExX N σ (s.set N (.cells 1 [[slV 1 v 1 l1.length]])) := ⟨hX.1, fun M hM hn => by rw [objs_else hn]; exact hX.2 M hM hn⟩
      have hO1 : OwnS (s.set N (.cells 1 [[slV 1 v 1 l1.length]])) σ.next 1 rU u L := hO.set (hO.off_old hNn) _
      have hlen1 : ((l1.drop (0 : Int).toNat).take ((1 : Int) - 0).toNat).length = 1 := by simp; omega
      have hS1 := h01.S
      rw [hlen1] at hS1
      have hg : ((l1.drop (0 : Int).toNat).take ((1 : Int) - 0).toNat).getD (Int.toNat 0) default = l1.getD 0 default := by
        cases l1 with
        | nil => simp at hl1'
        | cons a l => simp
      have hc := hb1 _ (getD_mem (l := l1) (j := 0) (by omega))
      simp (disch := omega) only [↓CTL, ↓DRW, VAL, DRV, Nat.reduceBEq, Nat.reduceAdd, m97_0, hS1, rU_eq, hg]
      generalize l1.getD 0 default = c at hc
      generalize hv2 : slV 1 v 1 l1.length = v2 at hsub hX1 hO1
      have hb2 : ∀ y ∈ (l1.drop (1 : Int).toNat).take ((l1.length : Int) - 1).toNat, 0 ≤ y ∧ y ≤ 255 := fun y hy => hb1 y (List.mem_of_mem_drop (List.mem_of_mem_take hy))
      have hl2 : ((l1.drop (1 : Int).toNat).take ((l1.length : Int) - 1).toNat).length = l1.length - 1 := by first | (simp; omega) | simp
      generalize (l1.drop (1 : Int).toNat).take ((l1.length : Int) - 1).toNat = l2 at hsub hb2 hl2
      have hN1 : (s.set N (.cells 1 [[v2]])).objs N = some (.cells 1 [[v2]]) := by simp only [VAL]
      have hn1' : (s.set N (.cells 1 [[v2]])).next = s.next := rfl
      have hlenO := hO1.len
      generalize s.set N (.cells 1 [[v2]]) = s1 at hX1 hO1 hN1 hn1' hlenO
      have step : ∀ (v3 W : AVal) (l3 xs : List Int) (s3 : AHeap), ExX N σ s3 → s3.objs N = some (.cells 1 [[v3]]) → OwnS s3 σ.next 1 rU u L → elems s3 1 W = some (xs.map rU) → xs.length ≤ 200 → RV 1 rU v3 l3 → l3.length ≤ l2.length → (∀ y ∈ l3, 0 ≤ y ∧ y ≤ 255) →
          ∃ u' t, appA s3 1 1 u W = some (u', t) ∧ ExX N σ t ∧ t.objs N = some (.cells 1 [[v3]]) ∧ OwnS t σ.next 1 rU u' (L ++ xs) := by
        intro v3 W l3 xs s3 q1 q2 q3 q4 q5 q6 q7 q8
        obtain ⟨u', t, ha, j1, j2, j3, j4⟩ := q3.app (bytes := 1) q4 q1.1 (sumLen_ok (by omega) (by omega))
        have := q1.1
        exact ⟨u', t, ha, ⟨by omega, fun M hM hn => (j3 M (by omega) (q3.off_old (by omega))).trans (q1.2 M hM hn)⟩, (j3 N (by omega) (q3.off_old hNn)).trans q2, j1⟩
      refine B_if (fun hbig => ?_) (fun hsmall => ?_)
      · simp (disch := omega) only [↓CTL, ↓DRW, VAL, DRV, Nat.reduceBEq, Nat.reduceAdd, m97_0]
        refine s115 hN1 hsub (by omega) (by omega) (fun hn2 => ?_) ?_
        rotate_left
        · simp (disch := omega) only [↓CTL, PAN, VAL]
          exact h2 _ hX1
        have h01' := hsub.sub (a := 0) (b := 1) (by omega) (by omega) (by omega)
        have hrest := hsub.sub (a := 1) (b := l2.length) (by omega) (by omega) (Int.le_refl _)
        obtain ⟨x, hx⟩ : ∃ x, (l2.drop (0 : Int).toNat).take ((1 : Int) - 0).toNat = [x] := List.length_eq_one_iff.1 (by simp; omega)
        rw [hx] at h01'
        have hX2 : ExX N σ (s1.set N (.cells 1 [[slV 1 v2 1 l2.length]])) := ⟨hX1.1, fun M hM hn => by rw [objs_else hn]; exact hX1.2 M hM hn⟩
        have hO2 : OwnS (s1.set N (.cells 1 [[slV 1 v2 1 l2.length]])) σ.next 1 rU u L := hO1.set (hO1.off_old hNn) _
        have hN2 : (s1.set N (.cells 1 [[slV 1 v2 1 l2.length]])).objs N = some (.cells 1 [[slV 1 v2 1 l2.length]]) := by simp only [VAL]
        generalize s1.set N (.cells 1 [[slV 1 v2 1 l2.length]]) = s2 at hX2 hO2 hN2
        simp (disch := omega) only [↓CTL, ↓DRW, VAL, DRV, Nat.reduceBEq, Nat.reduceAdd, m97_0]
        refine s116 h01'.ev (by omega) fun w s3 hE3 hw => ?_
        have e3 := hE3.1
        have e2 := hX2.1
        obtain ⟨u', t, ha, k1, k2, k3⟩ := step _ w _ _ s3 ⟨by omega, fun M hM hn => (hE3.2 M (by omega)).trans (hX2.2 M hM hn)⟩ ((hE3.2 N (by omega)).trans hN2) (hO2.ext hE3) hw.elems (by first | (simp; omega) | simp) hrest (by first | (simp; omega) | simp) (fun y hy => hb2 y (List.mem_of_mem_drop (List.mem_of_mem_take hy)))
        simp (disch := omega) only [↓CTL, ↓DRW, VAL, DRV, Nat.reduceBEq, Nat.reduceAdd, m97_0, ha]
        refine ⟨(u', _, _, _), rfl, ⟨k1, k2, hrest, by simp; omega, fun y hy => hb2 y (List.mem_of_mem_drop (List.mem_of_mem_take hy)), k3, by simp; omega⟩, by simp; omega⟩
      · simp (disch := omega) only [↓CTL, ↓DRW, VAL, DRV, Nat.reduceBEq, Nat.reduceAdd, m97_0]
        refine s96 (fun hb => ?_) (fun hb => ?_)
        rotate_left
        · simp (disch := omega) only [↓CTL, PAN, VAL]
          exact h2 _ hX1
        have hcp : 0 < c := by simpa using hb
        simp (disch := omega) only [↓CTL, ↓DRW, VAL, DRV, Nat.reduceBEq, Nat.reduceAdd, m97_0]
        refine s115 hN1 hsub (by omega) (by omega) (fun hn2 => ?_) ?_
        rotate_left
        · simp (disch := omega) only [↓CTL, PAN, VAL]
          exact h2 _ hX1
        have h01' := hsub.sub (a := 0) (b := c) (by omega) (by omega) (by omega)
        have hrest := hsub.sub (a := c) (b := l2.length) (by omega) (by omega) (Int.le_refl _)
        have hX2 : ExX N σ (s1.set N (.cells 1 [[slV 1 v2 c l2.length]])) := ⟨hX1.1, fun M hM hn => by rw [objs_else hn]; exact hX1.2 M hM hn⟩
        have hO2 : OwnS (s1.set N (.cells 1 [[slV 1 v2 c l2.length]])) σ.next 1 rU u L := hO1.set (hO1.off_old hNn) _
        have hN2 : (s1.set N (.cells 1 [[slV 1 v2 c l2.length]])).objs N = some (.cells 1 [[slV 1 v2 c l2.length]]) := by simp only [VAL]
        generalize s1.set N (.cells 1 [[slV 1 v2 c l2.length]]) = s2 at hX2 hO2 hN2
        obtain ⟨u', t, ha, k1, k2, k3⟩ := step _ _ _ _ s2 hX2 hN2 hO2 (h01' s2).elems (by simp; omega) hrest (by simp; omega) (fun y hy => hb2 y (List.mem_of_mem_drop (List.mem_of_mem_take hy)))
        simp (disch := omega) only [↓CTL, ↓DRW, VAL, DRV, Nat.reduceBEq, Nat.reduceAdd, m97_0, ha]
        refine ⟨(u', _, _, _), rfl, ⟨k1, k2, hrest, by simp; omega, fun y hy => hb2 y (List.mem_of_mem_drop (List.mem_of_mem_take hy)), k3, by simp; omega⟩, by simp; omega⟩
    · simp (disch := omega) only [↓CTL, ↓DRW, VAL, DRV, Nat.reduceBEq, Nat.reduceAdd, m97_0, hlen]
      refine s96 (fun hb => ?_) (fun hb => ?_)
      · simp (disch := omega) only [↓CTL, ↓DRW, VAL, DRV, Nat.reduceBEq, Nat.reduceAdd, m97_0, hlen]
        exact h1 _ _ _ _ _ hX hN hv hl1 hb1 hO (by simpa using hb)
      · simp (disch := omega) only [↓CTL, PAN, VAL]
        exact h2 _ hX
end Go.Proofs.YtkfahdbjndihfabGreat
namespace Go.Proofs.YtkfahdbjndihfabGreat
open Go.Tc
set_option linter.unusedSimpArgs false
set_option linter.unusedVariables false
set_option maxRecDepth 20000
set_option maxHeartbeats 4000000
theorem neq_nil : binA .neq .ifn .nilI .nilI = some (.bool false) := by rfl
theorem neq_if {t : TypeId} {v : AVal} : binA .neq .ifn (.iface t v) .nilI = some (.bool true) := by rfl
theorem tas_ok {e : Int} : tasA 40 (.int .i64 0) (.iface 40 (.int .i64 e)) false = some (.int .i64 e) := by rfl
theorem d95n {σ : AHeap} {T2 T3 : Nat} {Q : Bool → AHeap → Prop} (hQ : Q false σ) : RunD Tryz.prog (.func (.func 95) [] [.ptr T2 0 0, .ptr T3 0 0]) [] σ none Q := by
  refine RunD.func mixed k95 (by simp) (by omega) ?_
  simp (disch := omega) only [c95, ↓CTL, ↓DRW, VAL, DRV, Nat.reduceBEq, Nat.reduceAdd, Option.getD_none, neq_nil]
  exact ⟨rfl, ⟨[], rfl⟩, hQ⟩
theorem d95s {σ : AHeap} {T2 T3 : Nat} {u : AVal} {e e0 : Int} (h2 : σ.objs T2 = some (.cells 1 [[u]])) (h3 : σ.objs T3 = some (.cells 1 [[.int .i64 e0]])) (hne : T2 ≠ T3) {Q : Bool → AHeap → Prop} (hQ : Q true ((σ.set T2 (.cells 1 [[.nilS]])).set T3 (.cells 1 [[.int .i64 e]]))) :
    RunD Tryz.prog (.func (.func 95) [] [.ptr T2 0 0, .ptr T3 0 0]) [] σ (some (.iface 40 (.int .i64 e))) Q := by
  refine RunD.func mixed k95 (by simp) (by omega) ?_
  simp (disch := omega) only [c95, ↓CTL, ↓DRW, VAL, DRV, Nat.reduceBEq, Nat.reduceAdd, Option.getD_some, neq_if]
  refine dr_go [] [] ?_ ?_; · decide
  simp (disch := omega) only [↓CTL, ↓DRW, ↓TAS, VAL, DRV, Nat.reduceBEq, Nat.reduceAdd, h2, h3, tas_ok]
  exact ⟨rfl, ⟨[], rfl⟩, hQ⟩
section
variable {env : AEnv} {σ : AHeap} {Q : AOut → AHeap → Prop} {T2 T3 : Nat} {u : AVal} {e : Int}
theorem res51 (h2 : env.t 2 = .ptr T2 0 0) (h3 : env.t 3 = .ptr T3 0 0) (o2 : σ.objs T2 = some (.cells 1 [[u]])) (o3 : σ.objs T3 = some (.cells 1 [[.int .i64 e]])) : resAs env σ [.cell 2 false 1, .cell 3 false 1] = some [u, .int .i64 e] := by
  simp only [resAs, h2, h3, ld1 o2, ld1 o3]
  rfl
theorem fin0 (hd : env.ds = []) (h2 : env.t 2 = .ptr T2 0 0) (h3 : env.t 3 = .ptr T3 0 0) (o2 : σ.objs T2 = some (.cells 1 [[u]])) (o3 : σ.objs T3 = some (.cells 1 [[.int .i64 e]])) (hQ : Q (.ret (.tup [u, .int .i64 e])) σ) : retD Tryz.prog [.cell 2 false 1, .cell 3 false 1] Q .ret env σ :=
  retD_ret0 hd (res51 h2 h3 o2 o3) hQ
theorem fin1 (hd : env.ds = [(.func (.func 95) [] [.ptr T2 0 0, .ptr T3 0 0], [])]) (h2 : env.t 2 = .ptr T2 0 0) (h3 : env.t 3 = .ptr T3 0 0) (o2 : σ.objs T2 = some (.cells 1 [[u]])) (o3 : σ.objs T3 = some (.cells 1 [[.int .i64 e]])) (hQ : Q (.ret (.tup [u, .int .i64 e])) σ) : retD Tryz.prog [.cell 2 false 1, .cell 3 false 1] Q .ret env σ :=
  retD_ret1 hd (d95n ⟨_, res51 h2 h3 o2 o3, hQ⟩)
theorem finP {e0 : Int} (hd : env.ds = [(.func (.func 95) [] [.ptr T2 0 0, .ptr T3 0 0], [])]) (h2 : env.t 2 = .ptr T2 0 0) (h3 : env.t 3 = .ptr T3 0 0) (hne : T2 ≠ T3) (o2 : σ.objs T2 = some (.cells 1 [[u]])) (o3 : σ.objs T3 = some (.cells 1 [[.int .i64 e0]])) (hQ : Q (.ret (.tup [.nilS, .int .i64 e])) ((σ.set T2 (.cells 1 [[.nilS]])).set T3 (.cells 1 [[.int .i64 e]]))) : retD Tryz.prog [.cell 2 false 1, .cell 3 false 1] Q (.panic (.iface 40 (.int .i64 e))) env σ :=
  retD_pan1 hd (d95s o2 o3 hne ⟨rfl, _, res51 h2 h3 (by simp (disch := omega) only [VAL]) (by simp (disch := omega) only [VAL]), hQ⟩)
end
theorem numsOf_rU : ∀ l : List Int, numsOf (l.map rU) = some l
  | [] => rfl
  | x :: l => by simp [numsOf, rU, numsOf_rU l]
theorem b2s_of {s : AHeap} {v : AVal} {l : List Int} (h : TV s 1 rU v l) : ∃ a, b2sA s v = some a := by
  have he := h.elems
  rcases h.sh with rfl | ⟨N, i, len, ex, rfl⟩ | ⟨rows, i, len, ex, rfl⟩
  · exact ⟨_, rfl⟩
  · exact ⟨_, by simp only [b2sA, he, Option.bind_some, numsOf_rU, Option.map_some]; rfl⟩
  · exact ⟨_, by simp only [b2sA, he, Option.bind_some, numsOf_rU, Option.map_some]; rfl⟩
structure RdI (σ : AHeap) (n : Nat) (u v1 : AVal) (l1 : List Int) (L : List Fr) (c d : Nat) (s : AHeap) : Prop where
  ext : Ext σ s
  h2 : s.objs σ.next = some (.cells 1 [[u]])
  h3 : s.objs (σ.next + 1) = some (.cells 1 [[.int .i64 0]])
  h5 : s.objs (σ.next + 1 + 1) = some (.cells 1 [[v1]])
  rv : RV 1 rU v1 l1
  rl : l1.length ≤ n
  rb : ∀ x ∈ l1, 0 ≤ x ∧ x ≤ 255
  c0 : σ.next + 3 ≤ c
  cd : c ≤ d
  ds : d ≤ s.next
  fr : ∀ f ∈ L, OwnS s (σ.next + 3) 1 rU f.px f.l ∧ f.l.length ≤ 2400 ∧ ∀ M, c ≤ M → Off f.px M
  ou : OwnS s c 3 Fr.row u L
  od : ∀ M, d ≤ M → Off u M
theorem RdI.step {σ s t : AHeap} {n : Nat} {u v1 v2 : AVal} {l1 l2 : List Int} {L : List Fr} {c d : Nat} (h : RdI σ n u v1 l1 L c d s) (hn : s.next ≤ t.next) (hk : ∀ M, M < d → M ≠ σ.next + 1 + 1 → t.objs M = s.objs M) (h5 : t.objs (σ.next + 1 + 1) = some (.cells 1 [[v2]]))
    (hv : RV 1 rU v2 l2) (hl : l2.length ≤ n) (hb : ∀ x ∈ l2, 0 ≤ x ∧ x ≤ 255) : RdI σ n u v2 l2 L c d t := by
  have c0 := h.c0
  have cd := h.cd
  refine ⟨⟨Nat.le_trans h.ext.1 hn, fun M hM => (hk M (by omega) (by omega)).trans (h.ext.2 M hM)⟩, (hk _ (by omega) (by omega)).trans h.h2, (hk _ (by omega) (by omega)).trans h.h3, h5, hv, hl, hb, c0, cd, Nat.le_trans h.ds hn, fun f hf => ?_, ?_, h.od⟩
  · obtain ⟨f1, f2, f3⟩ := h.fr f hf
    refine ⟨f1.keep hn fun M h1 h2 h3 => hk M ?_ (by omega), f2, f3⟩
    apply Classical.byContradiction
    intro h4
    exact h3 (f3 M (by omega))
  · refine h.ou.keep hn fun M h1 h2 h3 => hk M ?_ (by omega)
    apply Classical.byContradiction
    intro h4
    exact h3 (h.od M (by omega))
theorem s51 {σ : AHeap} {v : AVal} {l : List Int} (hv : RV 1 rU v l) (hl : l.length ≤ 1048576) (hb : ∀ x ∈ l, 0 ≤ x ∧ x ≤ 255) :
    RunV Tryz.prog (.func (.func 51) [] []) [v] σ (fun o s => ∃ u e L, o = .ret (.tup [u, .int .i64 e]) ∧ Ext σ s ∧ OwnS s σ.next 3 Fr.row u L ∧ L.length ≤ 300 ∧ ∀ f ∈ L, OwnS s σ.next 1 rU f.px f.l ∧ f.l.length ≤ 2400) := by
  have bad : ∀ (e : Int) (s : AHeap), Ext σ s → ∃ u e' L, AOut.ret (.tup [.nilS, .int .i64 e]) = .ret (.tup [u, .int .i64 e']) ∧ Ext σ s ∧ OwnS s σ.next 3 Fr.row u L ∧ L.length ≤ 300 ∧ ∀ f ∈ L, OwnS s σ.next 1 rU f.px f.l ∧ f.l.length ≤ 2400 := fun e s hE => ⟨_, _, [], rfl, hE, .nil, by simp, by simp⟩
  refine RunV.funcD mixed k51 (by simp) ?_
  simp (disch := omega) only [c51, ↓CTL, ↓DRW, VAL, DRV, Nat.reduceBEq, Nat.reduceAdd, hv.S]
  repeat' first
    | refine B_if (fun _ => ?_) (fun _ => ?_)
    | refine G_false (fun _ => ?_) (fun _ => ?_)
    | (refine dr_go [3] [] ?_ ?_; · decide)
    | refine s44 (hv.sub (by omega) (by omega) (by omega) _) (by simp; omega) fun n => ?_
    | (refine fin0 (T2 := σ.next) (T3 := σ.next + 1) (u := .nilS) rfl rfl rfl ?_ objs_here (bad _ _ ?_)
       · simp (disch := omega) only [VAL]
       repeat first | exact Ext.refl _ | refine Ext.alloc ?_ _ | refine Ext.set ?_ (by omega) _)
    | simp (disch := omega) only [↓CTL, ↓DRW, VAL, DRV, Nat.reduceBEq, Nat.reduceAdd, hv.S, rU_eq, BITS]
  refine L_dfr (g := 95) (first := []) (caps := [.ptr σ.next 0 0, .ptr (σ.next + 1) 0 0]) rfl ?_
  have hsub := hv.sub (a := 5) (b := (l.length : Int) - 2) (by omega) (by omega) (by omega)
  have hso := (hsub σ).one
  have t4 : (4 : Int).toNat = 4 := rfl
  simp (disch := omega) only [↓CTL, ↓DRW, VAL, DRV, DFR, Nat.reduceBEq, Nat.reduceAdd, hv.S, rU_eq, hso, t4]
  have hb4 := hb _ (getD_mem (l := l) (j := 4) (by omega))
  have hb2 := hb _ (getD_mem (l := l) (j := 2) (by omega))
  have hb3 := hb _ (getD_mem (l := l) (j := 3) (by omega))
  have hsl : ((l.drop (5 : Int).toNat).take ((l.length : Int) - 2 - 5).toNat).length ≤ l.length := by simp; omega
  have hsb : ∀ x ∈ (l.drop (5 : Int).toNat).take ((l.length : Int) - 2 - 5).toNat, 0 ≤ x ∧ x ≤ 255 := fun x hx => hb x (List.mem_of_mem_drop (List.mem_of_mem_take hx))
  generalize hv50 : slV 1 v 5 ((l.length : Int) - 2) = v5 at hsub hso
  generalize (l.drop (5 : Int).toNat).take ((l.length : Int) - 2 - 5).toNat = l5 at hsub hsl hsb
  have pan : ∀ (s : AHeap) (u v1 : AVal) (l1 : List Int) (L : List Fr) (c d : Nat), RdI σ l.length u v1 l1 L c d s → Ext σ ((s.set σ.next (.cells 1 [[.nilS]])).set (σ.next + 1) (.cells 1 [[.int .i64 6]])) := fun s u v1 l1 L c d h => (h.ext.set (Nat.le_refl _) _).set (by omega) _
  refine A_loopV (α := Nat × AVal × AVal × List Int × List Fr × Nat × Nat) m51_0 (fun x => [(59, .int .u8 x.1)]) (fun x s => (x.1 : Int) ≤ l.getD 4 default ∧ x.2.2.2.2.1.length ≤ x.1 ∧ RdI σ l.length x.2.1 x.2.2.1 x.2.2.2.1 x.2.2.2.2.1 x.2.2.2.2.2.1 x.2.2.2.2.2.2 s) (fun x => (l.getD 4 default).toNat - x.1) rfl (fun _ => rfl)
    ⟨(0, .nilS, v5, l5, [], σ.next + 3, σ.next + 3), ?_, by dsimp only; omega, by simp, ?_⟩ ?_
  · simp only [↓CTL, VAL, DFR, Nat.reduceBEq]; try first | rfl | exact ⟨rfl, rfl⟩
  · refine ⟨?_, ?_, ?_, ?_, hsub, hsl, hsb, Nat.le_refl _, Nat.le_refl _, ?_, by simp, .nil, fun _ _ _ _ _ _ h => by cases h⟩
    · repeat first | exact Ext.refl _ | refine Ext.alloc ?_ _ | refine Ext.set ?_ (by omega) _
    · simp (disch := omega) only [VAL]
    · simp (disch := omega) only [VAL]
    · simp (disch := omega) only [VAL]
    · simp only [VAL]; omega
  · rintro ⟨i, u, v1, l1, L, c, d⟩ f s ⟨hi, hL, hI⟩
    dsimp only at hi hL hI ⊢
    have g2 := hI.h2
    have g3 := hI.h3
    have g5 := hI.h5
    have gc := hI.c0
    have gd := hI.cd
    have gs := hI.ds
    simp (disch := omega) only [↓CTL, ↓DRW, VAL, DRV, DFR, Nat.reduceBEq, Nat.reduceAdd, m51_0]
    refine B_if (fun hlt => ?_) (fun hge => ?_)
    · simp (disch := omega) only [↓CTL, ↓DRW, VAL, DRV, DFR, Nat.reduceBEq, Nat.reduceAdd, m51_0]
      refine dg_go [] [] ?_ ?_; · decide
      dsimp only [ghL, ghH, isGh, bares, AVal.bare, cond]
      have w2 : IntKind.i64.wrap (l.getD 2 default) = l.getD 2 default := wrap_in (by omega) (by omega)
      have w3 : IntKind.i64.wrap (l.getD 3 default) = l.getD 3 default := wrap_in (by omega) (by omega)
      have t2 : (2 : Int).toNat = 2 := rfl
      have t3 : (3 : Int).toNat = 3 := rfl
      simp (disch := omega) only [↓CTL, ↓DRW, VAL, DRV, DFR, Nat.reduceBEq, Nat.reduceAdd, m51_0, hv.S, rU_eq, t2, t3, w2, w3]
      generalize l.getD 2 default = fw at hb2
      generalize l.getD 3 default = fh at hb3
      have hIa : RdI σ l.length u v1 l1 L c d (s.alloc (.cells 3 [[.int .i64 fw, .int .i64 fh, .nilS]])) := hI.step (by simp) (fun M hM hn => objs_old (by omega)) (by simp (disch := omega) only [VAL, g5]) hI.rv hI.rl hI.rb
      have ha2 := hIa.h2
      have ha3 := hIa.h3
      repeat' first
        | refine out_spec mixed k60 _ _ _ _ ?_
        | refine G_true (fun _ => ?_) (fun _ => ?_)
        | refine s96 (fun hok => ?_) (fun hbad => ?_)
        | (exfalso; exact absurd hok (by decide))
        | refine finP (T2 := σ.next) (T3 := σ.next + 1) rfl rfl rfl (by omega) ha2 ha3 (bad _ _ (pan _ _ _ _ _ _ _ hIa))
        | simp (disch := omega) only [↓CTL, ↓DRW, PAN, VAL, DRV, DFR, Nat.reduceBEq, Nat.reduceAdd, m51_0]
      have hfh : 1 ≤ fh ∧ fh ≤ 48 := by
        have := of_decide_eq_true hok
        omega
      have hfw : 1 ≤ fw ∧ fw ≤ 48 := by omega
      generalize hT : s.alloc (.cells 3 [[.int .i64 fw, .int .i64 fh, .nilS]]) = s0 at hIa ha2 ha3
      have n0 : s0.next = s.next + 1 := by rw [← hT]; rfl
      have q0 : s0.objs s.next = some (.cells 3 [[.int .i64 fw, .int .i64 fh, .nilS]]) := by rw [← hT]; exact objs_new rfl
      clear hT
      refine A_loopV (α := Nat × AVal × List Int × AVal × List Int) m51_1 (fun x => [(83, .int .i64 x.1)]) (fun x t => x.1 ≤ fh.toNat ∧ x.2.2.2.2.length ≤ 48 * x.1 ∧ RdI σ l.length u x.2.1 x.2.2.1 L c d t ∧ t.objs s.next = some (.cells 3 [[.int .i64 fw, .int .i64 fh, x.2.2.2.1]]) ∧ OwnS t (s.next + 1) 1 rU x.2.2.2.1 x.2.2.2.2 ∧ s.next + 1 ≤ t.next) (fun x => fh.toNat - x.1) rfl (fun _ => rfl)
        ⟨(0, v1, l1, .nilS, []), ?_, Nat.zero_le _, by simp, hIa, q0, .nil, by omega⟩ ?_
      · simp only [↓CTL, VAL, DFR, Nat.reduceBEq]; try first | rfl | exact ⟨rfl, rfl⟩
      · rintro ⟨j, v2, l2, px, pl⟩ f t ⟨hj, hpl, hIt, qt, hO, hnt⟩
        dsimp only at hj hpl hIt qt hO ⊢
        have gt2 := hIt.h2
        have gt3 := hIt.h3
        have gt5 := hIt.h5
        have hpo := hO.one
        simp (disch := omega) only [↓CTL, ↓DRW, VAL, DRV, DFR, Nat.reduceBEq, Nat.reduceAdd, m51_1]
        refine B_if (fun hlt2 => ?_) (fun hge2 => ?_)
        · simp (disch := omega) only [↓CTL, ↓DRW, VAL, DRV, DFR, Nat.reduceBEq, Nat.reduceAdd, m51_1]
          refine dr_go [] [1] ?_ ?_; · decide
          simp (disch := omega) only [↓CTL, ↓DRW, VAL, DRV, DFR, ROW, Nat.reduceBEq, Nat.reduceAdd, m51_1, qt, hpo]
          refine s97 gt5 (by omega) hIt.rv (by have := hIt.rl; omega) hIt.rb hfw (fun W pL v3 l3 t2 hX h5' hv3 hl3 hb3 hW hWl => ?_) (fun t2 hX => ?_)
          · have hx1 := hX.1
            have hIt2 := hIt.step hX.1 (fun M hM hn => hX.2 M (by omega) hn) h5' hv3 (by have := hIt.rl; omega) hb3
            have qt2 := (hX.2 s.next (by omega) (by omega)).trans qt
            have hO2 := hO.keep hX.1 fun M h1 h2 h3 => hX.2 M h2 (by omega)
            obtain ⟨px', t3, ha, k1, k2, k3, k4⟩ := hO2.app (bytes := 1) hW.elems (by omega) (sumLen_ok (by omega) (by omega))
            have qt3 := (k3 s.next (by omega) (hO2.off_old (by omega))).trans qt2
            have hpo' := k1.one
            have hk3 : ∀ M, M < s.next + 1 → t3.objs M = t2.objs M := fun M hM => k3 M (by omega) (hO2.off_old hM)
            have hIt3 : RdI σ l.length u v3 l3 L c d (t3.set s.next (.cells 3 [[.int .i64 fw, .int .i64 fh, px']])) := hIt2.step k2 (fun M hM hn => by rw [objs_else (by omega)]; exact hk3 M (by omega)) (by rw [objs_else (by omega), hk3 _ (by omega)]; exact h5') hv3 (by have := hIt.rl; omega) hb3
            simp (disch := omega) only [↓CTL, ↓DRW, VAL, DRV, DFR, PAN, Nat.reduceBEq, Nat.reduceAdd, m51_1, qt2, hpo, ha, qt3, hpo']
            refine ⟨fun h => absurd h (by decide), (j + 1, v3, l3, px', pl ++ pL), rfl, ⟨by dsimp only; omega, by simp; omega, hIt3, rfl, k1.set (k1.off_old (by omega)) _, by omega⟩, by dsimp only; omega⟩
          · simp (disch := omega) only [↓CTL, PAN, VAL, DFR]
            have hx1 := hX.1
            refine ⟨by decide, finP (T2 := σ.next) (T3 := σ.next + 1) rfl rfl rfl (by omega) ((hX.2 _ (by omega) (by omega)).trans gt2) ((hX.2 _ (by omega) (by omega)).trans gt3) (bad _ _ ((Ext.set ⟨?_, fun M hM => ?_⟩ (Nat.le_refl _) _).set (by omega) _))⟩
            · have := hIt.ext.1; omega
            · have := hIt.ext.1
              exact (hX.2 M (by omega) (by omega)).trans (hIt.ext.2 M hM)
        · simp (disch := omega) only [↓CTL, ↓DRW, VAL, DRV, DFR, ROW, Nat.reduceBEq, Nat.reduceAdd, m51_1, qt, hpo, gt2, hIt.ou.one]
          obtain ⟨u', t', ha, k1, k2, k3⟩ := hIt.ou.lit_new (x := ⟨fw, fh, px, pl⟩) (row := [.int .i64 fw, .int .i64 fh, px]) (bytes := 40) (ex := true) rfl (sumLen_ok (by omega) (by omega))
          have kt2 := (k3 σ.next (by omega) (hIt.ou.off_old (by omega))).trans gt2
          have hu' := k1.one
          simp (disch := omega) only [↓CTL, ↓DRW, VAL, DRV, DFR, FILL, Nat.reduceBEq, Nat.reduceAdd, m51_1, qt, hpo, gt2, ha, kt2, hu']
          have b4 := hb _ (getD_mem (l := l) (j := 4) (by omega))
          have hw8 : IntKind.u8.wrap ((i : Int) + 1) = ((i + 1 : Nat) : Int) := by
            simp only [IntKind.wrap, IntKind.signed, IntKind.bits]
            first | omega | (simp; omega)
          refine ⟨(i + 1, u', v2, l2, L ++ [⟨fw, fh, px, pl⟩], t.next + 1, t'.next), by rw [hw8], ⟨by dsimp only; omega, by simp; omega, ?_⟩, by dsimp only; omega⟩
          have hk : ∀ M, M < t.next → Off u M → M ≠ σ.next → (t'.set σ.next (.cells 1 [[u']])).objs M = t.objs M := fun M hM ho hn => by rw [objs_else hn]; exact k3 M hM ho
          have hnt' := hIt.ds
          refine ⟨⟨by have := hIt.ext.1; simp only [AHeap.next_set]; omega, fun M hM => (hk M (by omega) (hIt.ou.off_old (by omega)) (by omega)).trans (hIt.ext.2 M hM)⟩, objs_here, (hk _ (by omega) (hIt.ou.off_old (by omega)) (by omega)).trans gt3, (hk _ (by omega) (hIt.ou.off_old (by omega)) (by omega)).trans gt5, hIt.rv, hIt.rl, hIt.rb, by dsimp only; omega, by dsimp only; omega, by simp only [AHeap.next_set]; exact Nat.le_refl _, fun f hf => ?_, k1.set (k1.off_old (by omega)) _, fun M hM => k1.off_new hM⟩
          rcases List.mem_append.1 hf with hf | hf
          · obtain ⟨f1, f2, f3⟩ := hIt.fr f hf
            refine ⟨f1.keep (by simp only [AHeap.next_set]; omega) fun M h1 h2 h3 => ?_, f2, fun M hM => f3 M (by dsimp only at hM; omega)⟩
            have hMc : M < c := by
              apply Classical.byContradiction
              intro h4
              exact h3 (f3 M (by omega))
            exact hk M h2 (hIt.ou.off_old hMc) (by omega)
          · rw [List.mem_singleton] at hf
            subst hf
            refine ⟨(hO.keep (by simp only [AHeap.next_set]; omega) fun M h1 h2 h3 => hk M h2 (hIt.od M (by omega)) (by omega)).weak (by omega), by dsimp only; omega, fun M hM => hO.off_new (by dsimp only at hM; omega)⟩
    · simp (disch := omega) only [↓CTL, ↓DRW, VAL, DRV, DFR, Nat.reduceBEq, Nat.reduceAdd, m51_0, g2]
      refine (s46 hI.ou.ev (fun f hf => (hI.fr f hf).1.ev) (by omega)).mono fun o s3 hs => ?_
      obtain ⟨u2, e2, bl, rfl, hE3, hO3, hbl⟩ := hs
      have q2 := (hE3.2 σ.next (by omega)).trans g2
      have q3 := (hE3.2 (σ.next + 1) (by omega)).trans g3
      simp (disch := omega) only [↓CTL, ↓DRW, VAL, DRV, DFR, Nat.reduceBEq, Nat.reduceAdd, m51_0, q2, q3]
      have e3 := hE3.1
      have hO3' : OwnS (s3.set (σ.next + 1) (.cells 1 [[.int .i64 e2]])) s.next 1 rU u2 bl := hO3.set (hO3.off_old (by omega)) _
      obtain ⟨sa, hsa⟩ := b2s_of hO3'.tv
      obtain ⟨sb, hsb⟩ := b2s_of (hv (s3.set (σ.next + 1) (.cells 1 [[.int .i64 e2]])))
      have hX : Ext σ s3 := hI.ext.trans hE3
      have r2 : (s3.set (σ.next + 1) (.cells 1 [[.int .i64 e2]])).objs σ.next = some (.cells 1 [[u]]) := by rw [objs_else (by omega)]; exact q2
      have huo := hI.ou.one
      repeat' first
        | refine G_true (fun _ => ?_) (fun _ => ?_)
        | refine s61 hsa hsb fun bq => ?_
        | refine s96 (fun hok => ?_) (fun hbad => ?_)
        | (exfalso; exact absurd hok (by decide))
        | refine finP (T2 := σ.next) (T3 := σ.next + 1) rfl rfl rfl (by omega) r2 objs_here (bad _ _ (((hX.set (by omega) _).set (Nat.le_refl _) _).set (by omega) _))
        | simp (disch := omega) only [↓CTL, ↓DRW, PAN, VAL, DRV, DFR, Nat.reduceBEq, Nat.reduceAdd, m51_0, q2, huo]
      have hki : ∀ M, M ≠ σ.next → M ≠ σ.next + 1 → (((s3.set (σ.next + 1) (.cells 1 [[.int .i64 e2]])).set σ.next (.cells 1 [[u]])).set (σ.next + 1) (.cells 1 [[.int .i64 0]])).objs M = s3.objs M := fun M h1 h2 => by
        rw [objs_else h2, objs_else h1, objs_else h2]
      refine fin1 (T2 := σ.next) (T3 := σ.next + 1) (u := u) rfl rfl rfl (by rw [objs_else (by omega)]; exact objs_here) objs_here ⟨u, 0, L, rfl, ((hX.set (by omega) _).set (Nat.le_refl _) _).set (by omega) _, ?_, by omega, fun f hf => ?_⟩
      · refine OwnS.weak (b := c) ((hI.ou.ext hE3).keep ?_ fun M h1 h2 h3 => hki M (by omega) (by omega)) (by omega)
        exact Nat.le_refl _
      · obtain ⟨f1, f2, f3⟩ := hI.fr f hf
        refine ⟨OwnS.weak (b := σ.next + 3) ((f1.ext hE3).keep ?_ fun M h1 h2 h3 => hki M (by omega) (by omega)) (by omega), f2⟩
        exact Nat.le_refl _
end Go.Proofs.YtkfahdbjndihfabGreat
namespace Go.Proofs.YtkfahdbjndihfabGreat
open Go.Tc
set_option linter.unusedSimpArgs false
set_option linter.unusedVariables false
set_option maxRecDepth 20000
theorem szDss_len : ∀ (rows : List (List Dl)), (∀ r ∈ rows, 1 ≤ r.length) → rows.length ≤ szDss rows
  | [], _ => by simp
  | r :: rows, h => by
    have h1 := szDss_len rows fun x hx => h x (by simp [hx])
    have h2 := szDs_len r
    have h3 := h r (by simp)
    simp only [szDss, List.length_cons]; omega
theorem Tr.lens {s : AHeap} {p : Nat → Prop} {ro : Bool} {row : List Lf} {rows : List (List Dl)} {v : AVal} (h : Go.Tc.Tr s p ro (.sl row) (.sl rows) v) : ∀ r ∈ rows, r.length = row.length := by
  cases h with
  | nil => simp
  | ms _ _ _ _ _ _ _ _ hn => exact fun r hr => by obtain ⟨j, hj⟩ := List.getElem?_of_mem hr; exact hn j r hj
  | rs _ _ _ _ hn => exact fun r hr => by obtain ⟨j, hj⟩ := List.getElem?_of_mem hr; exact hn j r hj
theorem u8_of {x : Int} (h : (Lit.int .u8 x).wf = true) : 0 ≤ x ∧ x ≤ 255 := by
  simp [Lit.wf] at h
  exact h
theorem rowU {d : List Dl} {r : List AVal} (h : TrR nilHeap nope true [.int .u8] d r) : ∃ x, r = rU x ∧ (0 ≤ x ∧ x ≤ 255) := by
  have hd := h.dl
  have hc := h.cl
  match d, r, hd, hc with
  | [d0], [r0], _, _ =>
    obtain ⟨n, rfl, hw⟩ := (h.el 0 _ d0 r0 rfl rfl rfl).intW
    exact ⟨n, rfl, u8_of hw⟩
theorem bytes_of {v : AVal} (h : ∃ d, Tr nilHeap nope true (.sl [(.int .u8)]) d v ∧ szD d ≤ 1048576) : ∃ l, RV 1 rU v l ∧ (∀ M, Off v M) ∧ l.length ≤ 1048576 ∧ ∀ x ∈ l, 0 ≤ x ∧ x ≤ 255 := by
  obtain ⟨d, ht, hs⟩ := h
  obtain ⟨l, h1, h2, h3, rows, rfl, h4⟩ := Tr.rs' (f := rU) (R := fun x => 0 ≤ x ∧ x ≤ 255) (fun d r h => rowU h) ht
  refine ⟨l, h1, h2, ?_, h3⟩
  have := szDss_len rows ?_
  · simp only [szD] at hs; omega
  · intro r hr; rw [Tr.lens ht r hr]; simp
theorem rowPair {d : List Dl} {r : List AVal} (h : TrR nilHeap nope true [.int .i64, .int .i64] d r) : ∃ x, r = rP x ∧ True := by
  have hd := h.dl
  have hc := h.cl
  match d, r, hd, hc with
  | [d0, d1], [r0, r1], _, _ =>
    obtain ⟨n, rfl, _⟩ := (h.el 0 _ d0 r0 rfl rfl rfl).intW
    obtain ⟨m, rfl, _⟩ := (h.el 1 _ d1 r1 rfl rfl rfl).intW
    exact ⟨(n, m), rfl, trivial⟩
theorem pairs_of {v : AVal} (h : ∃ d, Tr nilHeap nope true (.sl [(.int .i64), (.int .i64)]) d v ∧ szD d ≤ 1048576) : ∃ l, RV 2 rP v l ∧ (∀ M, Off v M) ∧ l.length ≤ 1048576 := by
  obtain ⟨d, ht, hs⟩ := h
  obtain ⟨l, h1, h2, h3, rows, rfl, h4⟩ := Tr.rs' (f := rP) (R := fun _ => True) (fun d r h => rowPair h) ht
  refine ⟨l, h1, h2, ?_⟩
  have := szDss_len rows ?_
  · simp only [szD] at hs; omega
  · intro r hr; rw [Tr.lens ht r hr]; simp
theorem rowFr {d : List Dl} {r : List AVal} (h : TrR nilHeap nope true [.int .i64, .int .i64, .sl [.int .u8]] d r) : ∃ x : Fr, r = x.row ∧ (RV 1 rU x.px x.l ∧ ∀ y ∈ x.l, 0 ≤ y ∧ y ≤ 255) := by
  have hd := h.dl
  have hc := h.cl
  match d, r, hd, hc with
  | [d0, d1, d2], [r0, r1, r2], _, _ =>
    obtain ⟨n, rfl, _⟩ := (h.el 0 _ d0 r0 rfl rfl rfl).intW
    obtain ⟨m, rfl, _⟩ := (h.el 1 _ d1 r1 rfl rfl rfl).intW
    obtain ⟨l, h1, h2, h3, _⟩ := Tr.rs' (f := rU) (R := fun x => 0 ≤ x ∧ x ≤ 255) (fun d r h => rowU h) (h.el 2 _ d2 r2 rfl rfl rfl)
    exact ⟨⟨n, m, r2, l⟩, rfl, h1, h3⟩
theorem frames_of {v : AVal} (h : ∃ d, Tr nilHeap nope true (.sl [(.int .i64), (.int .i64), (.sl [(.int .u8)])]) d v ∧ szD d ≤ 1048576) : ∃ l : List Fr, RV 3 Fr.row v l ∧ (∀ M, Off v M) ∧ l.length ≤ 1048576 ∧ ∀ f ∈ l, RV 1 rU f.px f.l ∧ ∀ y ∈ f.l, 0 ≤ y ∧ y ≤ 255 := by
  obtain ⟨d, ht, hs⟩ := h
  obtain ⟨l, h1, h2, h3, rows, rfl, h4⟩ := Tr.rs' (f := Fr.row) (R := fun x => RV 1 rU x.px x.l ∧ ∀ y ∈ x.l, 0 ≤ y ∧ y ≤ 255) (fun d r h => rowFr h) ht
  refine ⟨l, h1, h2, ?_, h3⟩
  have := szDss_len rows ?_
  · simp only [szD] at hs; omega
  · intro r hr; rw [Tr.lens ht r hr]; simp
theorem trU {s : AHeap} {b : Nat} {v : AVal} {l : List Int} (h : OwnS s b 1 rU v l) (hl : l.length ≤ 10000000000) : Tr s (fun N => b ≤ N) false (.sl [.int .u8]) (.sl (l.map fun x => [.int x])) v :=
  OwnS.tr (row := [.int .u8]) h (by omega) fun x _ => .cons .i .nil
theorem szU {l : List Int} : szDss (l.map fun x => [Dl.int x]) ≤ l.length := by
  have := szDss_map (g := fun x : Int => [Dl.int x]) (c := 1) l (fun x _ => by simp [szDs, szD])
  omega
theorem b2s_rv {v : AVal} {l : List Int} (h : RV 1 rU v l) : ∃ a, ∀ σ, b2sA σ v = some a := by
  rcases (h ⟨fun _ => none, 0⟩).sh with rfl | ⟨N, i, len, ex, rfl⟩ | ⟨rows, i, len, ex, rfl⟩
  · exact ⟨_, fun _ => rfl⟩
  · exact ⟨_, fun σ => by simp only [b2sA, (h σ).elems, Option.bind_some, numsOf_rU, Option.map_some]; rfl⟩
  · exact ⟨_, fun σ => by simp only [b2sA, (h σ).elems, Option.bind_some, numsOf_rU, Option.map_some]; rfl⟩
theorem e7 (x : XA) : ∀ σ, RunV Tryz.prog (.func (.func 7) [] []) [.agg [.int .i64 x.c0, .int .i64 x.c1, x.v2]] σ (fun o s => ∃ ds vs, o = .ret (tupA vs) ∧ ResT s (fun N => σ.next ≤ N) [(false, [(.int .i64)])] ds vs ∧ SmallD ds ∧ Ext σ s) := by
  intro σ
  obtain ⟨l, hv, ho, hl, hb⟩ := bytes_of x.h2
  exact s7 (hv σ) fun e _ => ⟨[[.int e]], [.int .i64 e], rfl, .int .done, by simp [SmallD, szDs, szD], .refl _⟩
theorem ofFr {σ : AHeap} {o : AOut} {s : AHeap} (h : FrQ σ o s) : ∃ ds vs, o = .ret (tupA vs) ∧ ResT s (fun N => σ.next ≤ N) [(true, [(.int .i64), (.int .i64), (.sl [(.int .u8)])]), (false, [(.int .i64)])] ds vs ∧ SmallD ds ∧ Ext σ s := by
  obtain ⟨w, h, v, e, l, rfl, hE, hO, hl⟩ := h
  refine ⟨[[.int w, .int h, .sl (l.map fun x => [.int x])], [.int e]], [.agg [.int .i64 w, .int .i64 h, v], .int .i64 e], rfl, .agg (.cons .i (.cons .i (.cons (trU hO (by omega)) .nil))) (.int .done), ?_, hE⟩
  have := szU (l := l)
  intro d hd
  simp only [List.mem_cons, List.not_mem_nil, or_false] at hd
  rcases hd with rfl | rfl <;> simp only [szDs, szD] <;> omega
theorem e11 (x : XA) : ∀ σ, RunV Tryz.prog (.func (.func 11) [] []) [.agg [.int .i64 x.c3, .int .i64 x.c4, x.v5], .agg [.int .i64 x.c6, .int .i64 x.c7, x.v8]] σ (fun o s => ∃ ds vs, o = .ret (tupA vs) ∧ ResT s (fun N => σ.next ≤ N) [(false, [.bool])] ds vs ∧ SmallD ds ∧ Ext σ s) := by
  intro σ
  obtain ⟨l, hv, _⟩ := bytes_of x.h5
  obtain ⟨l', hv', _⟩ := bytes_of x.h8
  obtain ⟨a, ha⟩ := b2s_rv hv
  obtain ⟨b, hb⟩ := b2s_rv hv'
  exact s11 (hv σ).one (hv' σ).one ha hb fun c => ⟨[[.bool c]], [.bool c], rfl, .bool .done, by simp [SmallD, szDs, szD], .refl _⟩
theorem e14 (x : XA) : ∀ σ, RunV Tryz.prog (.func (.func 14) [] []) [.agg [.int .i64 x.c0, .int .i64 x.c1, x.v2], .int .i64 x.c9, .int .i64 x.c10, .int .u8 x.c11] σ (fun o s => ∃ ds vs, o = .ret (tupA vs) ∧ ResT s (fun N => σ.next ≤ N) [(true, [(.int .i64), (.int .i64), (.sl [(.int .u8)])]), (false, [(.int .i64)])] ds vs ∧ SmallD ds ∧ Ext σ s) := by
  intro σ
  obtain ⟨l, hv, ho, hl, hb⟩ := bytes_of x.h2
  exact (s14 hv hl).mono fun o s h => ofFr h
theorem e19 (x : XA) : ∀ σ, RunV Tryz.prog (.func (.func 19) [] []) [.agg [.int .i64 x.c12, .int .i64 x.c13, x.v14], .agg [.int .i64 x.c0, .int .i64 x.c1, x.v2], .agg [.int .i64 x.c15, .int .i64 x.c16, .int .i64 x.c17, .int .i64 x.c18], .int .i64 x.c19] σ (fun o s => ∃ ds vs, o = .ret (tupA vs) ∧ ResT s (fun N => σ.next ≤ N) [(true, [(.int .i64), (.int .i64), (.int .i64)]), (false, [(.int .i64)])] ds vs ∧ SmallD ds ∧ Ext σ s) := by
  intro σ
  obtain ⟨l, hv, ho, hl, hb⟩ := bytes_of x.h14
  obtain ⟨l2, hv2, ho2, hl2, hb2⟩ := bytes_of x.h2
  exact s19 hv hv2 hl hl2 fun a b c e => ⟨[[.int a, .int b, .int c], [.int e]], [.agg [.int .i64 a, .int .i64 b, .int .i64 c], .int .i64 e], rfl, .agg (.cons .i (.cons .i (.cons .i .nil))) (.int .done), by simp [SmallD, szDs, szD], .refl _⟩
theorem e22 (x : XA) : ∀ σ, RunV Tryz.prog (.func (.func 22) [] []) [x.v20] σ (fun o s => ∃ ds vs, o = .ret (tupA vs) ∧ ResT s (fun N => σ.next ≤ N) [(true, [(.int .i64), (.int .i64)]), (false, [(.int .i64)]), (false, [(.int .i64)])] ds vs ∧ SmallD ds ∧ Ext σ s) := by
  intro σ
  obtain ⟨l, hv, ho, hl⟩ := pairs_of x.h20
  exact s22 hv hl fun a b i e => ⟨[[.int a, .int b], [.int i], [.int e]], [.agg [.int .i64 a, .int .i64 b], .int .i64 i, .int .i64 e], rfl, .agg (.cons .i (.cons .i .nil)) (.int (.int .done)), by simp [SmallD, szDs, szD], .refl _⟩
theorem e26 (x : XA) : ∀ σ, RunV Tryz.prog (.func (.func 26) [] []) [x.v21, .agg [.int .i64 x.c22, .int .i64 x.c23, .int .i64 x.c24, .int .i64 x.c25]] σ (fun o s => ∃ ds vs, o = .ret (tupA vs) ∧ ResT s (fun N => σ.next ≤ N) [(false, [(.sl [(.int .i64), (.int .i64)])]), (false, [(.sl [(.int .i64)])]), (false, [(.int .i64)])] ds vs ∧ SmallD ds ∧ Ext σ s) := by
  intro σ
  obtain ⟨l, hv, ho, hl, hf⟩ := frames_of x.h21
  refine (s26 hv.ev (fun f h => ⟨(hf f h).1.ev, (hf f h).2⟩) hl).mono fun o s h => ?_
  obtain ⟨u, w, e, L, W, rfl, hE, hu, hw, hL, hW⟩ := h
  refine ⟨[[.sl (L.map fun x => [.int x.1, .int x.2])], [.sl (W.map fun x => [.int x])], [.int e]], [u, w, .int .i64 e], rfl, .sl (OwnS.tr (row := [.int .i64, .int .i64]) hu (by omega) fun x _ => .cons .i (.cons .i .nil)) (.sl (OwnS.tr (row := [.int .i64]) hw (by omega) fun x _ => .cons .i .nil) (.int .done)), ?_, hE⟩
  have h1 := szDss_map (g := fun x : Int × Int => [Dl.int x.1, Dl.int x.2]) (c := 2) L (fun x _ => by simp [szDs, szD])
  have h2 := szDss_map (g := fun x : Int => [Dl.int x]) (c := 1) W (fun x _ => by simp [szDs, szD])
  intro d hd
  simp only [List.mem_cons, List.not_mem_nil, or_false] at hd
  rcases hd with rfl | rfl | rfl <;> simp only [szDs, szD] <;> omega
theorem e33 (x : XA) : ∀ σ, RunV Tryz.prog (.func (.func 33) [] []) [.agg [.int .i64 x.c0, .int .i64 x.c1, x.v2], .int .i64 x.c26] σ (fun o s => ∃ ds vs, o = .ret (tupA vs) ∧ ResT s (fun N => σ.next ≤ N) [(true, [(.int .i64), (.int .i64), (.sl [(.int .u8)])]), (false, [(.int .i64)])] ds vs ∧ SmallD ds ∧ Ext σ s) := by
  intro σ
  obtain ⟨l, hv, ho, hl, hb⟩ := bytes_of x.h2
  exact (s33 hv hl hb).mono fun o s h => ofFr h
theorem e36 (x : XA) : ∀ σ, RunV Tryz.prog (.func (.func 36) [] []) [.agg [.int .i64 x.c0, .int .i64 x.c1, x.v2], .int .i64 x.c27, .int .i64 x.c28] σ (fun o s => ∃ ds vs, o = .ret (tupA vs) ∧ ResT s (fun N => σ.next ≤ N) [(true, [(.int .i64), (.int .i64), (.sl [(.int .u8)])]), (false, [(.int .i64)])] ds vs ∧ SmallD ds ∧ Ext σ s) := by
  intro σ
  obtain ⟨l, hv, ho, hl, hb⟩ := bytes_of x.h2
  exact (s36 hv hl).mono fun o s h => ofFr h
theorem e39 (x : XA) : ∀ σ, RunV Tryz.prog (.func (.func 39) [] []) [.agg [.int .i64 x.c29, .int .i64 x.c30, x.v31]] σ (fun o s => ∃ ds vs, o = .ret (tupA vs) ∧ ResT s (fun N => σ.next ≤ N) [(false, [(.sl [(.int .i64), (.int .i64), (.int .i64), (.int .i64), (.int .i64)])]), (false, [(.int .i64)])] ds vs ∧ SmallD ds ∧ Ext σ s) := by
  intro σ
  obtain ⟨l, hv, ho, hl, hb⟩ := bytes_of x.h31
  refine (s39 hv ho hl).mono fun o s h => ?_
  obtain ⟨u, e, L, rfl, hE, hu, hL⟩ := h
  refine ⟨[[.sl (L.map fun x => [.int x.a, .int x.b, .int x.c, .int x.d, .int x.n])], [.int e]], [u, .int .i64 e], rfl, .sl (OwnS.tr (row := [.int .i64, .int .i64, .int .i64, .int .i64, .int .i64]) hu (by omega) fun x _ => .cons .i (.cons .i (.cons .i (.cons .i (.cons .i .nil))))) (.int .done), ?_, hE⟩
  have h1 := szDss_map (g := fun x : Spot => [Dl.int x.a, Dl.int x.b, Dl.int x.c, Dl.int x.d, Dl.int x.n]) (c := 5) L (fun x _ => by simp [szDs, szD])
  intro d hd
  simp only [List.mem_cons, List.not_mem_nil, or_false] at hd
  rcases hd with rfl | rfl <;> simp only [szDs, szD] <;> omega
theorem e44 (x : XA) : ∀ σ, RunV Tryz.prog (.func (.func 44) [] []) [x.v32] σ (fun o s => ∃ ds vs, o = .ret (tupA vs) ∧ ResT s (fun N => σ.next ≤ N) [(false, [(.int .i64)])] ds vs ∧ SmallD ds ∧ Ext σ s) := by
  intro σ
  obtain ⟨l, hv, ho, hl, hb⟩ := bytes_of x.h32
  exact s44 (hv σ) (by omega) fun e => ⟨[[.int e]], [.int .i64 e], rfl, .int .done, by simp [SmallD, szDs, szD], .refl _⟩
theorem e46 (x : XA) : ∀ σ, RunV Tryz.prog (.func (.func 46) [] []) [x.v21] σ (fun o s => ∃ ds vs, o = .ret (tupA vs) ∧ ResT s (fun N => σ.next ≤ N) [(false, [(.sl [(.int .u8)])]), (false, [(.int .i64)])] ds vs ∧ SmallD ds ∧ Ext σ s) := by
  intro σ
  obtain ⟨l, hv, ho, hl, hf⟩ := frames_of x.h21
  refine (s46 hv.ev (fun f h => (hf f h).1.ev) hl).mono fun o s h => ?_
  obtain ⟨u, e, bl, rfl, hE, hu, hL⟩ := h
  refine ⟨[[.sl (bl.map fun x => [.int x])], [.int e]], [u, .int .i64 e], rfl, .sl (trU hu hL) (.int .done), ?_, hE⟩
  have := szU (l := bl)
  intro d hd
  simp only [List.mem_cons, List.not_mem_nil, or_false] at hd
  rcases hd with rfl | rfl <;> simp only [szDs, szD] <;> omega
theorem e51 (x : XA) : ∀ σ, RunV Tryz.prog (.func (.func 51) [] []) [x.v32] σ (fun o s => ∃ ds vs, o = .ret (tupA vs) ∧ ResT s (fun N => σ.next ≤ N) [(false, [(.sl [(.int .i64), (.int .i64), (.sl [(.int .u8)])])]), (false, [(.int .i64)])] ds vs ∧ SmallD ds ∧ Ext σ s) := by
  intro σ
  obtain ⟨l, hv, ho, hl, hb⟩ := bytes_of x.h32
  refine (s51 hv hl hb).mono fun o s h => ?_
  obtain ⟨u, e, L, rfl, hE, hu, hL, hf⟩ := h
  refine ⟨[[.sl (L.map fun f => [.int f.w, .int f.h, .sl (f.l.map fun x => [.int x])])], [.int e]], [u, .int .i64 e], rfl, .sl (OwnS.tr (row := [.int .i64, .int .i64, .sl [.int .u8]]) hu (by omega) fun f h => .cons .i (.cons .i (.cons (trU (hf f h).1 (by have := (hf f h).2; omega)) .nil))) (.int .done), ?_, hE⟩
  have h1 := szDss_map (g := fun f : Fr => [Dl.int f.w, Dl.int f.h, Dl.sl (f.l.map fun x => [Dl.int x])]) (c := 2403) L (fun f h => by
    have := szU (l := f.l)
    have := (hf f h).2
    simp only [szDs, szD]; omega)
  intro d hd
  simp only [List.mem_cons, List.not_mem_nil, or_false] at hd
  rcases hd with rfl | rfl <;> simp only [szDs, szD] <;> omega
end Go.Proofs.YtkfahdbjndihfabGreat
namespace Go.Proofs.YtkfahdbjndihfabGreat
open Go.Tc
set_option linter.unusedSimpArgs false
set_option linter.unusedVariables false
set_option maxRecDepth 20000
theorem q6 (x : XA) (X : Nat) : ∃ A B, A.length ≤ 1099511627776 ∧ B.length ≤ 1099511627776 ∧ CallSpec Tryz.prog (.func (.func 6) [] [.ptr X 0 0]) X (.cells 33 [x.row]) A B := by
  obtain ⟨ds, hz, hc⟩ := RunV.uniT (P := Tryz.prog) (f := 7) (show ∀ a ∈ [.agg [.int .i64 x.c0, .int .i64 x.c1, x.v2]], Clo a from (c_cons (Clo.part (agg := true) (n := 3) (off := 0) x.clo rfl) c_nil)) [(false, [(.int .i64)])] SmallD (e7 x)
  obtain ⟨_, _, ⟨_, _, hr0, _⟩, _⟩ := hc nilHeap
  obtain ⟨d0, ds0, _, _, rfl, _, ⟨_, _, _, l0⟩, hr1⟩ := hr0.dcons
  have l0 := l0.dl
  obtain ⟨rfl, _⟩ := hr1.dnil
  have z0 := hz d0 (by simp)
  obtain ⟨A0, B0, a0, b0, q0⟩ := p8.2 d0 l0 (by omega)
  refine ⟨([] ++ A0), ([] ++ B0), by simp only [List.length_append, List.length_nil]; omega, by simp only [List.length_append, List.length_nil]; omega, fun s H hX hxo hH hne hobj => ?_⟩
  refine RunV.func mixed k6 (by simp) ?_
  rw [XA.row_eq] at hxo
  simp (disch := omega) only [c6, ↓CTL, VAL, Nat.reduceBEq, Nat.reduceAdd, hxo, x.o2, x.o5, x.o8, x.o14, x.o20, x.o21, x.o31, x.o32]
  refine (hc s).mono fun o s1 ⟨vs, ho, hR0, hE⟩ => ?_
  obtain ⟨_, _, u0, vs0, hd, rfl, ⟨cs0, hv0, _, t0⟩, hR1⟩ := hR0.dcons
  cases hd
  obtain ⟨_, _, y0x0, cs0, rfl, rfl, g0x0, t0k1⟩ := t0.uncons
  obtain ⟨n0x0, rfl⟩ := g0x0.int'
  obtain ⟨rfl, rfl⟩ := t0k1.unnil
  rw [valOf_f] at hv0
  subst hv0
  obtain ⟨_, rfl⟩ := hR1.dnil
  subst ho
  have e1 := hE.1
  simp (disch := omega) only [↓CTL, VAL, Nat.reduceBEq, Nat.reduceAdd, tupA_one, tupA_two]
  refine putOne (W := WC (fun N => s.next ≤ N) s1) (q0 s1 _ _ _ t0) ?w (Hp.new ?h1 ?h2) ?l1 ?l2 fun _ s2 nv1 sv1 hp1 hst1 => ?_
  case h1 => (try simp only [VAL]); omega
  case h2 => (try simp (disch := omega) only [VAL]); rw [hE.2 H hH]; exact hobj
  case w => exact ⟨by (try simp only [VAL]); omega, fun N h1 h2 => ⟨by omega, off_nil, off_nil, by first | rfl | (simp (disch := omega) only [VAL])⟩⟩
  case l1 => simp only [List.length_append, List.length_nil]; omega
  case l2 => simp only [List.length_append, List.length_nil]; omega
  have hw1 : WC (fun N => s.next ≤ N) s1 _ _ _ _ := WC.stays _ _ _ _ _ _ _ (show WC (fun N => s.next ≤ N) s1 H _ .nilS .nilS from ⟨by (try simp only [VAL]); omega, fun N h1 h2 => ⟨by omega, off_nil, off_nil, by first | rfl | (simp (disch := omega) only [VAL])⟩⟩) hst1
  have hst := hst1
  have hsame := fun M hM hM2 => (hst.2 M hM hM2 off_nil off_nil).1
  have hn := hst.1
  try simp only [VAL] at hsame hn
  have bx : True := trivial
  simp (disch := omega) only [↓CTL, VAL, Nat.reduceBEq, Nat.reduceAdd]
  have hM : ∀ M, s.next ≤ M → M < s1.next → s2.objs M = s1.objs M := fun M h1 h2 => by rw [hsame M (by omega) (by omega)]; try simp (disch := omega) only [VAL]
  refine ⟨_, s1.next + 0, nv1, sv1, rfl, by omega, by simpa using hp1, fun M hM hM2 => ?_, ?_⟩
  · rw [hsame M (by omega) hM2]
    try simp (disch := omega) only [VAL]
    exact hE.2 M hM
  · exact (nothing_spec mixed (f := 9) (by kernel_rfl) _).mono fun o s' ⟨h1, h2⟩ => by subst h2; exact ⟨h1, Nat.le_refl _, fun _ _ _ => rfl⟩
theorem q10 (x : XA) (X : Nat) : ∃ A B, A.length ≤ 1099511627776 ∧ B.length ≤ 1099511627776 ∧ CallSpec Tryz.prog (.func (.func 10) [] [.ptr X 0 0]) X (.cells 33 [x.row]) A B := by
  obtain ⟨ds, hz, hc⟩ := RunV.uniT (P := Tryz.prog) (f := 11) (show ∀ a ∈ [.agg [.int .i64 x.c3, .int .i64 x.c4, x.v5], .agg [.int .i64 x.c6, .int .i64 x.c7, x.v8]], Clo a from (c_cons (Clo.part (agg := true) (n := 3) (off := 3) x.clo rfl) (c_cons (Clo.part (agg := true) (n := 3) (off := 6) x.clo rfl) c_nil))) [(false, [.bool])] SmallD (e11 x)
  obtain ⟨_, _, ⟨_, _, hr0, _⟩, _⟩ := hc nilHeap
  obtain ⟨d0, ds0, _, _, rfl, _, ⟨_, _, _, l0⟩, hr1⟩ := hr0.dcons
  have l0 := l0.dl
  obtain ⟨rfl, _⟩ := hr1.dnil
  have z0 := hz d0 (by simp)
  obtain ⟨A0, B0, a0, b0, q0⟩ := p12.2 d0 l0 (by omega)
  refine ⟨([] ++ A0), ([] ++ B0), by simp only [List.length_append, List.length_nil]; omega, by simp only [List.length_append, List.length_nil]; omega, fun s H hX hxo hH hne hobj => ?_⟩
  refine RunV.func mixed k10 (by simp) ?_
  rw [XA.row_eq] at hxo
  simp (disch := omega) only [c10, ↓CTL, VAL, Nat.reduceBEq, Nat.reduceAdd, hxo, x.o2, x.o5, x.o8, x.o14, x.o20, x.o21, x.o31, x.o32]
  refine (hc s).mono fun o s1 ⟨vs, ho, hR0, hE⟩ => ?_
  obtain ⟨_, _, u0, vs0, hd, rfl, ⟨cs0, hv0, _, t0⟩, hR1⟩ := hR0.dcons
  cases hd
  obtain ⟨_, _, y0x0, cs0, rfl, rfl, g0x0, t0k1⟩ := t0.uncons
  obtain ⟨n0x0, rfl⟩ := g0x0.bool'
  obtain ⟨rfl, rfl⟩ := t0k1.unnil
  rw [valOf_f] at hv0
  subst hv0
  obtain ⟨_, rfl⟩ := hR1.dnil
  subst ho
  have e1 := hE.1
  simp (disch := omega) only [↓CTL, VAL, Nat.reduceBEq, Nat.reduceAdd, tupA_one, tupA_two]
  refine putOne (W := WC (fun N => s.next ≤ N) s1) (q0 s1 _ _ _ t0) ?w (Hp.new ?h1 ?h2) ?l1 ?l2 fun _ s2 nv1 sv1 hp1 hst1 => ?_
  case h1 => (try simp only [VAL]); omega
  case h2 => (try simp (disch := omega) only [VAL]); rw [hE.2 H hH]; exact hobj
  case w => exact ⟨by (try simp only [VAL]); omega, fun N h1 h2 => ⟨by omega, off_nil, off_nil, by first | rfl | (simp (disch := omega) only [VAL])⟩⟩
  case l1 => simp only [List.length_append, List.length_nil]; omega
  case l2 => simp only [List.length_append, List.length_nil]; omega
  have hw1 : WC (fun N => s.next ≤ N) s1 _ _ _ _ := WC.stays _ _ _ _ _ _ _ (show WC (fun N => s.next ≤ N) s1 H _ .nilS .nilS from ⟨by (try simp only [VAL]); omega, fun N h1 h2 => ⟨by omega, off_nil, off_nil, by first | rfl | (simp (disch := omega) only [VAL])⟩⟩) hst1
  have hst := hst1
  have hsame := fun M hM hM2 => (hst.2 M hM hM2 off_nil off_nil).1
  have hn := hst.1
  try simp only [VAL] at hsame hn
  have bx : True := trivial
  simp (disch := omega) only [↓CTL, VAL, Nat.reduceBEq, Nat.reduceAdd]
  have hM : ∀ M, s.next ≤ M → M < s1.next → s2.objs M = s1.objs M := fun M h1 h2 => by rw [hsame M (by omega) (by omega)]; try simp (disch := omega) only [VAL]
  refine ⟨_, s1.next + 0, nv1, sv1, rfl, by omega, by simpa using hp1, fun M hM hM2 => ?_, ?_⟩
  · rw [hsame M (by omega) hM2]
    try simp (disch := omega) only [VAL]
    exact hE.2 M hM
  · exact (nothing_spec mixed (f := 9) (by kernel_rfl) _).mono fun o s' ⟨h1, h2⟩ => by subst h2; exact ⟨h1, Nat.le_refl _, fun _ _ _ => rfl⟩
theorem q13 (x : XA) (X : Nat) : ∃ A B, A.length ≤ 1099511627776 ∧ B.length ≤ 1099511627776 ∧ CallSpec Tryz.prog (.func (.func 13) [] [.ptr X 0 0]) X (.cells 33 [x.row]) A B := by
  obtain ⟨ds, hz, hc⟩ := RunV.uniT (P := Tryz.prog) (f := 14) (show ∀ a ∈ [.agg [.int .i64 x.c0, .int .i64 x.c1, x.v2], .int .i64 x.c9, .int .i64 x.c10, .int .u8 x.c11], Clo a from (c_cons (Clo.part (agg := true) (n := 3) (off := 0) x.clo rfl) (c_cons (Clo.part (agg := false) (n := 1) (off := 9) x.clo rfl) (c_cons (Clo.part (agg := false) (n := 1) (off := 10) x.clo rfl) (c_cons (Clo.part (agg := false) (n := 1) (off := 11) x.clo rfl) c_nil))))) [(true, [(.int .i64), (.int .i64), (.sl [(.int .u8)])]), (false, [(.int .i64)])] SmallD (e14 x)
  obtain ⟨_, _, ⟨_, _, hr0, _⟩, _⟩ := hc nilHeap
  obtain ⟨d0, ds0, _, _, rfl, _, ⟨_, _, _, l0⟩, hr1⟩ := hr0.dcons
  have l0 := l0.dl
  obtain ⟨d1, ds1, _, _, rfl, _, ⟨_, _, _, l1⟩, hr2⟩ := hr1.dcons
  have l1 := l1.dl
  obtain ⟨rfl, _⟩ := hr2.dnil
  have z0 := hz d0 (by simp)
  obtain ⟨A0, B0, a0, b0, q0⟩ := p15.2 d0 l0 (by omega)
  have z1 := hz d1 (by simp)
  obtain ⟨A1, B1, a1, b1, q1⟩ := p8.2 d1 l1 (by omega)
  refine ⟨(([] ++ A0) ++ A1), (([] ++ B0) ++ B1), by simp only [List.length_append, List.length_nil]; omega, by simp only [List.length_append, List.length_nil]; omega, fun s H hX hxo hH hne hobj => ?_⟩
  refine RunV.func mixed k13 (by simp) ?_
  rw [XA.row_eq] at hxo
  simp (disch := omega) only [c13, ↓CTL, VAL, Nat.reduceBEq, Nat.reduceAdd, hxo, x.o2, x.o5, x.o8, x.o14, x.o20, x.o21, x.o31, x.o32]
  refine (hc s).mono fun o s1 ⟨vs, ho, hR0, hE⟩ => ?_
  obtain ⟨_, _, u0, vs0, hd, rfl, ⟨cs0, hv0, _, t0⟩, hR1⟩ := hR0.dcons
  cases hd
  obtain ⟨_, _, y0x0, cs0, rfl, rfl, g0x0, t0k1⟩ := t0.uncons
  obtain ⟨n0x0, rfl⟩ := g0x0.int'
  obtain ⟨_, _, y0x1, cs0, rfl, rfl, g0x1, t0k2⟩ := t0k1.uncons
  obtain ⟨n0x1, rfl⟩ := g0x1.int'
  obtain ⟨_, _, y0x2, cs0, rfl, rfl, g0x2, t0k3⟩ := t0k2.uncons
  have o0x2 := g0x2.one
  obtain ⟨rfl, rfl⟩ := t0k3.unnil
  rw [valOf_t] at hv0
  subst hv0
  obtain ⟨_, _, u1, vs1, hd, rfl, ⟨cs1, hv1, _, t1⟩, hR2⟩ := hR1.dcons
  cases hd
  obtain ⟨_, _, y1x0, cs1, rfl, rfl, g1x0, t1k1⟩ := t1.uncons
  obtain ⟨n1x0, rfl⟩ := g1x0.int'
  obtain ⟨rfl, rfl⟩ := t1k1.unnil
  rw [valOf_f] at hv1
  subst hv1
  obtain ⟨_, rfl⟩ := hR2.dnil
  subst ho
  have e1 := hE.1
  simp (disch := omega) only [↓CTL, VAL, Nat.reduceBEq, Nat.reduceAdd, tupA_one, tupA_two, o0x2]
  refine putOne (W := WC (fun N => s.next ≤ N) s1) (q0 s1 _ _ _ t0) ?w (Hp.new ?h1 ?h2) ?l1 ?l2 fun _ s2 nv1 sv1 hp1 hst1 => ?_
  case h1 => (try simp only [VAL]); omega
  case h2 => (try simp (disch := omega) only [VAL]); rw [hE.2 H hH]; exact hobj
  case w => exact ⟨by (try simp only [VAL]); omega, fun N h1 h2 => ⟨by omega, off_nil, off_nil, by first | rfl | (simp (disch := omega) only [VAL])⟩⟩
  case l1 => simp only [List.length_append, List.length_nil]; omega
  case l2 => simp only [List.length_append, List.length_nil]; omega
  have hw1 : WC (fun N => s.next ≤ N) s1 _ _ _ _ := WC.stays _ _ _ _ _ _ _ (show WC (fun N => s.next ≤ N) s1 H _ .nilS .nilS from ⟨by (try simp only [VAL]); omega, fun N h1 h2 => ⟨by omega, off_nil, off_nil, by first | rfl | (simp (disch := omega) only [VAL])⟩⟩) hst1
  have hst := hst1
  have bx : True := trivial
  have hb0 := ((hst.2 (s1.next + 0) (by simp only [VAL]; omega) (by omega) off_nil off_nil).1)
  simp (disch := omega) only [VAL] at hb0
  simp (disch := omega) only [↓CTL, VAL, Nat.reduceBEq, Nat.reduceAdd, hb0, o0x2]
  refine putOne (W := WC (fun N => s.next ≤ N) s1) (q1 s1 _ _ _ t1) hw1 hp1 ?l1 ?l2 fun _ s3 nv2 sv2 hp2 hst2 => ?_
  case l1 => simp only [List.length_append, List.length_nil]; omega
  case l2 => simp only [List.length_append, List.length_nil]; omega
  have hw2 : WC (fun N => s.next ≤ N) s1 _ _ _ _ := WC.stays _ _ _ _ _ _ _ hw1 hst2
  replace hst := hst.trans hst2
  have hsame := fun M hM hM2 => (hst.2 M hM hM2 off_nil off_nil).1
  have hn := hst.1
  try simp only [VAL] at hsame hn
  have bx : True := trivial
  have hb0 := ((hst.2 (s1.next + 0) (by simp only [VAL]; omega) (by omega) off_nil off_nil).1)
  simp (disch := omega) only [VAL] at hb0
  simp (disch := omega) only [↓CTL, VAL, Nat.reduceBEq, Nat.reduceAdd, hb0, o0x2]
  have hM : ∀ M, s.next ≤ M → M < s1.next → s3.objs M = s1.objs M := fun M h1 h2 => by rw [hsame M (by omega) (by omega)]; try simp (disch := omega) only [VAL]
  refine ⟨_, s1.next + 1, nv2, sv2, rfl, by omega, by simpa using hp2, fun M hM hM2 => ?_, ?_⟩
  · rw [hsame M (by omega) hM2]
    try simp (disch := omega) only [VAL]
    exact hE.2 M hM
  · refine RunV.func mixed k16 (by simp) ?_
    simp (disch := omega) only [c16, ↓CTL, VAL, Nat.reduceBEq, Nat.reduceAdd]
    have x0 : BoxOk s3 (btw s.next (s1.next + 1)) (s1.next + 0) [(.int .i64), (.int .i64), (.sl [(.int .u8)])] := .mk1 ⟨by omega, by omega⟩ (by omega) hb0 rfl (t0.box (by omega) (by omega) hM)
    refine (w17.box x0).mono fun o r0 ⟨⟨v, hv⟩, h0⟩ => ?_
    subst hv
    simp (disch := omega) only [↓CTL, VAL, Nat.reduceBEq, Nat.reduceAdd]
    exact ⟨⟨_, rfl⟩, h0.done⟩
theorem q18 (x : XA) (X : Nat) : ∃ A B, A.length ≤ 1099511627776 ∧ B.length ≤ 1099511627776 ∧ CallSpec Tryz.prog (.func (.func 18) [] [.ptr X 0 0]) X (.cells 33 [x.row]) A B := by
  obtain ⟨ds, hz, hc⟩ := RunV.uniT (P := Tryz.prog) (f := 19) (show ∀ a ∈ [.agg [.int .i64 x.c12, .int .i64 x.c13, x.v14], .agg [.int .i64 x.c0, .int .i64 x.c1, x.v2], .agg [.int .i64 x.c15, .int .i64 x.c16, .int .i64 x.c17, .int .i64 x.c18], .int .i64 x.c19], Clo a from (c_cons (Clo.part (agg := true) (n := 3) (off := 12) x.clo rfl) (c_cons (Clo.part (agg := true) (n := 3) (off := 0) x.clo rfl) (c_cons (Clo.part (agg := true) (n := 4) (off := 15) x.clo rfl) (c_cons (Clo.part (agg := false) (n := 1) (off := 19) x.clo rfl) c_nil))))) [(true, [(.int .i64), (.int .i64), (.int .i64)]), (false, [(.int .i64)])] SmallD (e19 x)
  obtain ⟨_, _, ⟨_, _, hr0, _⟩, _⟩ := hc nilHeap
  obtain ⟨d0, ds0, _, _, rfl, _, ⟨_, _, _, l0⟩, hr1⟩ := hr0.dcons
  have l0 := l0.dl
  obtain ⟨d1, ds1, _, _, rfl, _, ⟨_, _, _, l1⟩, hr2⟩ := hr1.dcons
  have l1 := l1.dl
  obtain ⟨rfl, _⟩ := hr2.dnil
  have z0 := hz d0 (by simp)
  obtain ⟨A0, B0, a0, b0, q0⟩ := p20.2 d0 l0 (by omega)
  have z1 := hz d1 (by simp)
  obtain ⟨A1, B1, a1, b1, q1⟩ := p8.2 d1 l1 (by omega)
  refine ⟨(([] ++ A0) ++ A1), (([] ++ B0) ++ B1), by simp only [List.length_append, List.length_nil]; omega, by simp only [List.length_append, List.length_nil]; omega, fun s H hX hxo hH hne hobj => ?_⟩
  refine RunV.func mixed k18 (by simp) ?_
  rw [XA.row_eq] at hxo
  simp (disch := omega) only [c18, ↓CTL, VAL, Nat.reduceBEq, Nat.reduceAdd, hxo, x.o2, x.o5, x.o8, x.o14, x.o20, x.o21, x.o31, x.o32]
  refine (hc s).mono fun o s1 ⟨vs, ho, hR0, hE⟩ => ?_
  obtain ⟨_, _, u0, vs0, hd, rfl, ⟨cs0, hv0, _, t0⟩, hR1⟩ := hR0.dcons
  cases hd
  obtain ⟨_, _, y0x0, cs0, rfl, rfl, g0x0, t0k1⟩ := t0.uncons
  obtain ⟨n0x0, rfl⟩ := g0x0.int'
  obtain ⟨_, _, y0x1, cs0, rfl, rfl, g0x1, t0k2⟩ := t0k1.uncons
  obtain ⟨n0x1, rfl⟩ := g0x1.int'
  obtain ⟨_, _, y0x2, cs0, rfl, rfl, g0x2, t0k3⟩ := t0k2.uncons
  obtain ⟨n0x2, rfl⟩ := g0x2.int'
  obtain ⟨rfl, rfl⟩ := t0k3.unnil
  rw [valOf_t] at hv0
  subst hv0
  obtain ⟨_, _, u1, vs1, hd, rfl, ⟨cs1, hv1, _, t1⟩, hR2⟩ := hR1.dcons
  cases hd
  obtain ⟨_, _, y1x0, cs1, rfl, rfl, g1x0, t1k1⟩ := t1.uncons
  obtain ⟨n1x0, rfl⟩ := g1x0.int'
  obtain ⟨rfl, rfl⟩ := t1k1.unnil
  rw [valOf_f] at hv1
  subst hv1
  obtain ⟨_, rfl⟩ := hR2.dnil
  subst ho
  have e1 := hE.1
  simp (disch := omega) only [↓CTL, VAL, Nat.reduceBEq, Nat.reduceAdd, tupA_one, tupA_two]
  refine putOne (W := WC (fun N => s.next ≤ N) s1) (q0 s1 _ _ _ t0) ?w (Hp.new ?h1 ?h2) ?l1 ?l2 fun _ s2 nv1 sv1 hp1 hst1 => ?_
  case h1 => (try simp only [VAL]); omega
  case h2 => (try simp (disch := omega) only [VAL]); rw [hE.2 H hH]; exact hobj
  case w => exact ⟨by (try simp only [VAL]); omega, fun N h1 h2 => ⟨by omega, off_nil, off_nil, by first | rfl | (simp (disch := omega) only [VAL])⟩⟩
  case l1 => simp only [List.length_append, List.length_nil]; omega
  case l2 => simp only [List.length_append, List.length_nil]; omega
  have hw1 : WC (fun N => s.next ≤ N) s1 _ _ _ _ := WC.stays _ _ _ _ _ _ _ (show WC (fun N => s.next ≤ N) s1 H _ .nilS .nilS from ⟨by (try simp only [VAL]); omega, fun N h1 h2 => ⟨by omega, off_nil, off_nil, by first | rfl | (simp (disch := omega) only [VAL])⟩⟩) hst1
  have hst := hst1
  have bx : True := trivial
  have hb0 := ((hst.2 (s1.next + 0) (by simp only [VAL]; omega) (by omega) off_nil off_nil).1)
  simp (disch := omega) only [VAL] at hb0
  simp (disch := omega) only [↓CTL, VAL, Nat.reduceBEq, Nat.reduceAdd, hb0]
  refine putOne (W := WC (fun N => s.next ≤ N) s1) (q1 s1 _ _ _ t1) hw1 hp1 ?l1 ?l2 fun _ s3 nv2 sv2 hp2 hst2 => ?_
  case l1 => simp only [List.length_append, List.length_nil]; omega
  case l2 => simp only [List.length_append, List.length_nil]; omega
  have hw2 : WC (fun N => s.next ≤ N) s1 _ _ _ _ := WC.stays _ _ _ _ _ _ _ hw1 hst2
  replace hst := hst.trans hst2
  have hsame := fun M hM hM2 => (hst.2 M hM hM2 off_nil off_nil).1
  have hn := hst.1
  try simp only [VAL] at hsame hn
  have bx : True := trivial
  have hb0 := ((hst.2 (s1.next + 0) (by simp only [VAL]; omega) (by omega) off_nil off_nil).1)
  simp (disch := omega) only [VAL] at hb0
  simp (disch := omega) only [↓CTL, VAL, Nat.reduceBEq, Nat.reduceAdd, hb0]
  have hM : ∀ M, s.next ≤ M → M < s1.next → s3.objs M = s1.objs M := fun M h1 h2 => by rw [hsame M (by omega) (by omega)]; try simp (disch := omega) only [VAL]
  refine ⟨_, s1.next + 1, nv2, sv2, rfl, by omega, by simpa using hp2, fun M hM hM2 => ?_, ?_⟩
  · rw [hsame M (by omega) hM2]
    try simp (disch := omega) only [VAL]
    exact hE.2 M hM
  · exact (nothing_spec mixed (f := 9) (by kernel_rfl) _).mono fun o s' ⟨h1, h2⟩ => by subst h2; exact ⟨h1, Nat.le_refl _, fun _ _ _ => rfl⟩
theorem q21 (x : XA) (X : Nat) : ∃ A B, A.length ≤ 1099511627776 ∧ B.length ≤ 1099511627776 ∧ CallSpec Tryz.prog (.func (.func 21) [] [.ptr X 0 0]) X (.cells 33 [x.row]) A B := by
  obtain ⟨ds, hz, hc⟩ := RunV.uniT (P := Tryz.prog) (f := 22) (show ∀ a ∈ [x.v20], Clo a from (c_cons (Clo.part (agg := false) (n := 1) (off := 20) x.clo rfl) c_nil)) [(true, [(.int .i64), (.int .i64)]), (false, [(.int .i64)]), (false, [(.int .i64)])] SmallD (e22 x)
  obtain ⟨_, _, ⟨_, _, hr0, _⟩, _⟩ := hc nilHeap
  obtain ⟨d0, ds0, _, _, rfl, _, ⟨_, _, _, l0⟩, hr1⟩ := hr0.dcons
  have l0 := l0.dl
  obtain ⟨d1, ds1, _, _, rfl, _, ⟨_, _, _, l1⟩, hr2⟩ := hr1.dcons
  have l1 := l1.dl
  obtain ⟨d2, ds2, _, _, rfl, _, ⟨_, _, _, l2⟩, hr3⟩ := hr2.dcons
  have l2 := l2.dl
  obtain ⟨rfl, _⟩ := hr3.dnil
  have z0 := hz d0 (by simp)
  obtain ⟨A0, B0, a0, b0, q0⟩ := p23.2 d0 l0 (by omega)
  have z1 := hz d1 (by simp)
  obtain ⟨A1, B1, a1, b1, q1⟩ := p24.2 d1 l1 (by omega)
  have z2 := hz d2 (by simp)
  obtain ⟨A2, B2, a2, b2, q2⟩ := p8.2 d2 l2 (by omega)
  refine ⟨((([] ++ A0) ++ A1) ++ A2), ((([] ++ B0) ++ B1) ++ B2), by simp only [List.length_append, List.length_nil]; omega, by simp only [List.length_append, List.length_nil]; omega, fun s H hX hxo hH hne hobj => ?_⟩
  refine RunV.func mixed k21 (by simp) ?_
  rw [XA.row_eq] at hxo
  simp (disch := omega) only [c21, ↓CTL, VAL, Nat.reduceBEq, Nat.reduceAdd, hxo, x.o2, x.o5, x.o8, x.o14, x.o20, x.o21, x.o31, x.o32]
  refine (hc s).mono fun o s1 ⟨vs, ho, hR0, hE⟩ => ?_
  obtain ⟨_, _, u0, vs0, hd, rfl, ⟨cs0, hv0, _, t0⟩, hR1⟩ := hR0.dcons
  cases hd
  obtain ⟨_, _, y0x0, cs0, rfl, rfl, g0x0, t0k1⟩ := t0.uncons
  obtain ⟨n0x0, rfl⟩ := g0x0.int'
  obtain ⟨_, _, y0x1, cs0, rfl, rfl, g0x1, t0k2⟩ := t0k1.uncons
  obtain ⟨n0x1, rfl⟩ := g0x1.int'
  obtain ⟨rfl, rfl⟩ := t0k2.unnil
  rw [valOf_t] at hv0
  subst hv0
  obtain ⟨_, _, u1, vs1, hd, rfl, ⟨cs1, hv1, _, t1⟩, hR2⟩ := hR1.dcons
  cases hd
  obtain ⟨_, _, y1x0, cs1, rfl, rfl, g1x0, t1k1⟩ := t1.uncons
  obtain ⟨n1x0, rfl⟩ := g1x0.int'
  obtain ⟨rfl, rfl⟩ := t1k1.unnil
  rw [valOf_f] at hv1
  subst hv1
  obtain ⟨_, _, u2, vs2, hd, rfl, ⟨cs2, hv2, _, t2⟩, hR3⟩ := hR2.dcons
  cases hd
  obtain ⟨_, _, y2x0, cs2, rfl, rfl, g2x0, t2k1⟩ := t2.uncons
  obtain ⟨n2x0, rfl⟩ := g2x0.int'
  obtain ⟨rfl, rfl⟩ := t2k1.unnil
  rw [valOf_f] at hv2
  subst hv2
  obtain ⟨_, rfl⟩ := hR3.dnil
  subst ho
  have e1 := hE.1
  simp (disch := omega) only [↓CTL, VAL, Nat.reduceBEq, Nat.reduceAdd, tupA_one, tupA_two]
  refine putOne (W := WC (fun N => s.next ≤ N) s1) (q0 s1 _ _ _ t0) ?w (Hp.new ?h1 ?h2) ?l1 ?l2 fun _ s2 nv1 sv1 hp1 hst1 => ?_
  case h1 => (try simp only [VAL]); omega
  case h2 => (try simp (disch := omega) only [VAL]); rw [hE.2 H hH]; exact hobj
  case w => exact ⟨by (try simp only [VAL]); omega, fun N h1 h2 => ⟨by omega, off_nil, off_nil, by first | rfl | (simp (disch := omega) only [VAL])⟩⟩
  case l1 => simp only [List.length_append, List.length_nil]; omega
  case l2 => simp only [List.length_append, List.length_nil]; omega
  have hw1 : WC (fun N => s.next ≤ N) s1 _ _ _ _ := WC.stays _ _ _ _ _ _ _ (show WC (fun N => s.next ≤ N) s1 H _ .nilS .nilS from ⟨by (try simp only [VAL]); omega, fun N h1 h2 => ⟨by omega, off_nil, off_nil, by first | rfl | (simp (disch := omega) only [VAL])⟩⟩) hst1
  have hst := hst1
  have bx : True := trivial
  have hb0 := ((hst.2 (s1.next + 0) (by simp only [VAL]; omega) (by omega) off_nil off_nil).1)
  simp (disch := omega) only [VAL] at hb0
  simp (disch := omega) only [↓CTL, VAL, Nat.reduceBEq, Nat.reduceAdd, hb0]
  refine putOne (W := WC (fun N => s.next ≤ N) s1) (q1 s1 _ _ _ t1) hw1 hp1 ?l1 ?l2 fun _ s3 nv2 sv2 hp2 hst2 => ?_
  case l1 => simp only [List.length_append, List.length_nil]; omega
  case l2 => simp only [List.length_append, List.length_nil]; omega
  have hw2 : WC (fun N => s.next ≤ N) s1 _ _ _ _ := WC.stays _ _ _ _ _ _ _ hw1 hst2
  replace hst := hst.trans hst2
  have bx : True := trivial
  have hb0 := ((hst.2 (s1.next + 0) (by simp only [VAL]; omega) (by omega) off_nil off_nil).1)
  simp (disch := omega) only [VAL] at hb0
  simp (disch := omega) only [↓CTL, VAL, Nat.reduceBEq, Nat.reduceAdd, hb0]
  refine putOne (W := WC (fun N => s.next ≤ N) s1) (q2 s1 _ _ _ t2) hw2 hp2 ?l1 ?l2 fun _ s4 nv3 sv3 hp3 hst3 => ?_
  case l1 => simp only [List.length_append, List.length_nil]; omega
  case l2 => simp only [List.length_append, List.length_nil]; omega
  have hw3 : WC (fun N => s.next ≤ N) s1 _ _ _ _ := WC.stays _ _ _ _ _ _ _ hw2 hst3
  replace hst := hst.trans hst3
  have hsame := fun M hM hM2 => (hst.2 M hM hM2 off_nil off_nil).1
  have hn := hst.1
  try simp only [VAL] at hsame hn
  have bx : True := trivial
  have hb0 := ((hst.2 (s1.next + 0) (by simp only [VAL]; omega) (by omega) off_nil off_nil).1)
  simp (disch := omega) only [VAL] at hb0
  simp (disch := omega) only [↓CTL, VAL, Nat.reduceBEq, Nat.reduceAdd, hb0]
  have hM : ∀ M, s.next ≤ M → M < s1.next → s4.objs M = s1.objs M := fun M h1 h2 => by rw [hsame M (by omega) (by omega)]; try simp (disch := omega) only [VAL]
  refine ⟨_, s1.next + 1, nv3, sv3, rfl, by omega, by simpa using hp3, fun M hM hM2 => ?_, ?_⟩
  · rw [hsame M (by omega) hM2]
    try simp (disch := omega) only [VAL]
    exact hE.2 M hM
  · exact (nothing_spec mixed (f := 9) (by kernel_rfl) _).mono fun o s' ⟨h1, h2⟩ => by subst h2; exact ⟨h1, Nat.le_refl _, fun _ _ _ => rfl⟩
theorem q25 (x : XA) (X : Nat) : ∃ A B, A.length ≤ 1099511627776 ∧ B.length ≤ 1099511627776 ∧ CallSpec Tryz.prog (.func (.func 25) [] [.ptr X 0 0]) X (.cells 33 [x.row]) A B := by
  obtain ⟨ds, hz, hc⟩ := RunV.uniT (P := Tryz.prog) (f := 26) (show ∀ a ∈ [x.v21, .agg [.int .i64 x.c22, .int .i64 x.c23, .int .i64 x.c24, .int .i64 x.c25]], Clo a from (c_cons (Clo.part (agg := false) (n := 1) (off := 21) x.clo rfl) (c_cons (Clo.part (agg := true) (n := 4) (off := 22) x.clo rfl) c_nil))) [(false, [(.sl [(.int .i64), (.int .i64)])]), (false, [(.sl [(.int .i64)])]), (false, [(.int .i64)])] SmallD (e26 x)
  obtain ⟨_, _, ⟨_, _, hr0, _⟩, _⟩ := hc nilHeap
  obtain ⟨d0, ds0, _, _, rfl, _, ⟨_, _, _, l0⟩, hr1⟩ := hr0.dcons
  have l0 := l0.dl
  obtain ⟨d1, ds1, _, _, rfl, _, ⟨_, _, _, l1⟩, hr2⟩ := hr1.dcons
  have l1 := l1.dl
  obtain ⟨d2, ds2, _, _, rfl, _, ⟨_, _, _, l2⟩, hr3⟩ := hr2.dcons
  have l2 := l2.dl
  obtain ⟨rfl, _⟩ := hr3.dnil
  have z0 := hz d0 (by simp)
  obtain ⟨A0, B0, a0, b0, q0⟩ := p27.2 d0 l0 (by omega)
  have z1 := hz d1 (by simp)
  obtain ⟨A1, B1, a1, b1, q1⟩ := p28.2 d1 l1 (by omega)
  have z2 := hz d2 (by simp)
  obtain ⟨A2, B2, a2, b2, q2⟩ := p8.2 d2 l2 (by omega)
  refine ⟨((([] ++ A0) ++ A1) ++ A2), ((([] ++ B0) ++ B1) ++ B2), by simp only [List.length_append, List.length_nil]; omega, by simp only [List.length_append, List.length_nil]; omega, fun s H hX hxo hH hne hobj => ?_⟩
  refine RunV.func mixed k25 (by simp) ?_
  rw [XA.row_eq] at hxo
  simp (disch := omega) only [c25, ↓CTL, VAL, Nat.reduceBEq, Nat.reduceAdd, hxo, x.o2, x.o5, x.o8, x.o14, x.o20, x.o21, x.o31, x.o32]
  refine (hc s).mono fun o s1 ⟨vs, ho, hR0, hE⟩ => ?_
  obtain ⟨_, _, u0, vs0, hd, rfl, ⟨cs0, hv0, _, t0⟩, hR1⟩ := hR0.dcons
  cases hd
  obtain ⟨_, _, y0x0, cs0, rfl, rfl, g0x0, t0k1⟩ := t0.uncons
  have o0x0 := g0x0.one
  obtain ⟨rfl, rfl⟩ := t0k1.unnil
  rw [valOf_f] at hv0
  subst hv0
  obtain ⟨_, _, u1, vs1, hd, rfl, ⟨cs1, hv1, _, t1⟩, hR2⟩ := hR1.dcons
  cases hd
  obtain ⟨_, _, y1x0, cs1, rfl, rfl, g1x0, t1k1⟩ := t1.uncons
  have o1x0 := g1x0.one
  obtain ⟨rfl, rfl⟩ := t1k1.unnil
  rw [valOf_f] at hv1
  subst hv1
  obtain ⟨_, _, u2, vs2, hd, rfl, ⟨cs2, hv2, _, t2⟩, hR3⟩ := hR2.dcons
  cases hd
  obtain ⟨_, _, y2x0, cs2, rfl, rfl, g2x0, t2k1⟩ := t2.uncons
  obtain ⟨n2x0, rfl⟩ := g2x0.int'
  obtain ⟨rfl, rfl⟩ := t2k1.unnil
  rw [valOf_f] at hv2
  subst hv2
  obtain ⟨_, rfl⟩ := hR3.dnil
  subst ho
  have e1 := hE.1
  simp (disch := omega) only [↓CTL, VAL, Nat.reduceBEq, Nat.reduceAdd, tupA_one, tupA_two, o0x0, o1x0]
  refine putOne (W := WC (fun N => s.next ≤ N) s1) (q0 s1 _ _ _ t0) ?w (Hp.new ?h1 ?h2) ?l1 ?l2 fun _ s2 nv1 sv1 hp1 hst1 => ?_
  case h1 => (try simp only [VAL]); omega
  case h2 => (try simp (disch := omega) only [VAL]); rw [hE.2 H hH]; exact hobj
  case w => exact ⟨by (try simp only [VAL]); omega, fun N h1 h2 => ⟨by omega, off_nil, off_nil, by first | rfl | (simp (disch := omega) only [VAL])⟩⟩
  case l1 => simp only [List.length_append, List.length_nil]; omega
  case l2 => simp only [List.length_append, List.length_nil]; omega
  have hw1 : WC (fun N => s.next ≤ N) s1 _ _ _ _ := WC.stays _ _ _ _ _ _ _ (show WC (fun N => s.next ≤ N) s1 H _ .nilS .nilS from ⟨by (try simp only [VAL]); omega, fun N h1 h2 => ⟨by omega, off_nil, off_nil, by first | rfl | (simp (disch := omega) only [VAL])⟩⟩) hst1
  have hst := hst1
  have bx : True := trivial
  have hb0 := ((hst.2 (s1.next + 0) (by simp only [VAL]; omega) (by omega) off_nil off_nil).1)
  simp (disch := omega) only [VAL] at hb0
  have hb1 := ((hst.2 (s1.next + 1) (by simp only [VAL]; omega) (by omega) off_nil off_nil).1)
  simp (disch := omega) only [VAL] at hb1
  simp (disch := omega) only [↓CTL, VAL, Nat.reduceBEq, Nat.reduceAdd, hb0, hb1, o0x0, o1x0]
  refine putOne (W := WC (fun N => s.next ≤ N) s1) (q1 s1 _ _ _ t1) hw1 hp1 ?l1 ?l2 fun _ s3 nv2 sv2 hp2 hst2 => ?_
  case l1 => simp only [List.length_append, List.length_nil]; omega
  case l2 => simp only [List.length_append, List.length_nil]; omega
  have hw2 : WC (fun N => s.next ≤ N) s1 _ _ _ _ := WC.stays _ _ _ _ _ _ _ hw1 hst2
  replace hst := hst.trans hst2
  have bx : True := trivial
  have hb0 := ((hst.2 (s1.next + 0) (by simp only [VAL]; omega) (by omega) off_nil off_nil).1)
  simp (disch := omega) only [VAL] at hb0
  have hb1 := ((hst.2 (s1.next + 1) (by simp only [VAL]; omega) (by omega) off_nil off_nil).1)
  simp (disch := omega) only [VAL] at hb1
  simp (disch := omega) only [↓CTL, VAL, Nat.reduceBEq, Nat.reduceAdd, hb0, hb1, o0x0, o1x0]
  refine putOne (W := WC (fun N => s.next ≤ N) s1) (q2 s1 _ _ _ t2) hw2 hp2 ?l1 ?l2 fun _ s4 nv3 sv3 hp3 hst3 => ?_
  case l1 => simp only [List.length_append, List.length_nil]; omega
  case l2 => simp only [List.length_append, List.length_nil]; omega
  have hw3 : WC (fun N => s.next ≤ N) s1 _ _ _ _ := WC.stays _ _ _ _ _ _ _ hw2 hst3
  replace hst := hst.trans hst3
  have hsame := fun M hM hM2 => (hst.2 M hM hM2 off_nil off_nil).1
  have hn := hst.1
  try simp only [VAL] at hsame hn
  have bx : True := trivial
  have hb0 := ((hst.2 (s1.next + 0) (by simp only [VAL]; omega) (by omega) off_nil off_nil).1)
  simp (disch := omega) only [VAL] at hb0
  have hb1 := ((hst.2 (s1.next + 1) (by simp only [VAL]; omega) (by omega) off_nil off_nil).1)
  simp (disch := omega) only [VAL] at hb1
  simp (disch := omega) only [↓CTL, VAL, Nat.reduceBEq, Nat.reduceAdd, hb0, hb1, o0x0, o1x0]
  have hM : ∀ M, s.next ≤ M → M < s1.next → s4.objs M = s1.objs M := fun M h1 h2 => by rw [hsame M (by omega) (by omega)]; try simp (disch := omega) only [VAL]
  refine ⟨_, s1.next + 2, nv3, sv3, rfl, by omega, by simpa using hp3, fun M hM hM2 => ?_, ?_⟩
  · rw [hsame M (by omega) hM2]
    try simp (disch := omega) only [VAL]
    exact hE.2 M hM
  · refine RunV.func mixed k29 (by simp) ?_
    simp (disch := omega) only [c29, ↓CTL, VAL, Nat.reduceBEq, Nat.reduceAdd]
    have x0 : BoxOk s4 (btw s.next (s1.next + 2)) (s1.next + 0) [(.sl [(.int .i64), (.int .i64)])] := .mk1 ⟨by omega, by omega⟩ (by omega) hb0 rfl (t0.box (by omega) (by omega) hM)
    have x1 : BoxOk s4 (btw s.next (s1.next + 2)) (s1.next + 1) [(.sl [(.int .i64)])] := .mk1 ⟨by omega, by omega⟩ (by omega) hb1 rfl (t1.box (by omega) (by omega) hM)
    refine (w30.box x0).mono fun o r0 ⟨⟨v, hv⟩, h0⟩ => ?_
    subst hv
    simp (disch := omega) only [↓CTL, VAL, Nat.reduceBEq, Nat.reduceAdd]
    refine (w31.box (x1.kin h0)).mono fun o r1 ⟨⟨v, hv⟩, h1⟩ => ?_
    subst hv
    simp (disch := omega) only [↓CTL, VAL, Nat.reduceBEq, Nat.reduceAdd]
    exact ⟨⟨_, rfl⟩, (h0.trans h1).done⟩
theorem q32 (x : XA) (X : Nat) : ∃ A B, A.length ≤ 1099511627776 ∧ B.length ≤ 1099511627776 ∧ CallSpec Tryz.prog (.func (.func 32) [] [.ptr X 0 0]) X (.cells 33 [x.row]) A B := by
  obtain ⟨ds, hz, hc⟩ := RunV.uniT (P := Tryz.prog) (f := 33) (show ∀ a ∈ [.agg [.int .i64 x.c0, .int .i64 x.c1, x.v2], .int .i64 x.c26], Clo a from (c_cons (Clo.part (agg := true) (n := 3) (off := 0) x.clo rfl) (c_cons (Clo.part (agg := false) (n := 1) (off := 26) x.clo rfl) c_nil))) [(true, [(.int .i64), (.int .i64), (.sl [(.int .u8)])]), (false, [(.int .i64)])] SmallD (e33 x)
  obtain ⟨_, _, ⟨_, _, hr0, _⟩, _⟩ := hc nilHeap
  obtain ⟨d0, ds0, _, _, rfl, _, ⟨_, _, _, l0⟩, hr1⟩ := hr0.dcons
  have l0 := l0.dl
  obtain ⟨d1, ds1, _, _, rfl, _, ⟨_, _, _, l1⟩, hr2⟩ := hr1.dcons
  have l1 := l1.dl
  obtain ⟨rfl, _⟩ := hr2.dnil
  have z0 := hz d0 (by simp)
  obtain ⟨A0, B0, a0, b0, q0⟩ := p15.2 d0 l0 (by omega)
  have z1 := hz d1 (by simp)
  obtain ⟨A1, B1, a1, b1, q1⟩ := p8.2 d1 l1 (by omega)
  refine ⟨(([] ++ A0) ++ A1), (([] ++ B0) ++ B1), by simp only [List.length_append, List.length_nil]; omega, by simp only [List.length_append, List.length_nil]; omega, fun s H hX hxo hH hne hobj => ?_⟩
  refine RunV.func mixed k32 (by simp) ?_
  rw [XA.row_eq] at hxo
  simp (disch := omega) only [c32, ↓CTL, VAL, Nat.reduceBEq, Nat.reduceAdd, hxo, x.o2, x.o5, x.o8, x.o14, x.o20, x.o21, x.o31, x.o32]
  refine (hc s).mono fun o s1 ⟨vs, ho, hR0, hE⟩ => ?_
  obtain ⟨_, _, u0, vs0, hd, rfl, ⟨cs0, hv0, _, t0⟩, hR1⟩ := hR0.dcons
  cases hd
  obtain ⟨_, _, y0x0, cs0, rfl, rfl, g0x0, t0k1⟩ := t0.uncons
  obtain ⟨n0x0, rfl⟩ := g0x0.int'
  obtain ⟨_, _, y0x1, cs0, rfl, rfl, g0x1, t0k2⟩ := t0k1.uncons
  obtain ⟨n0x1, rfl⟩ := g0x1.int'
  obtain ⟨_, _, y0x2, cs0, rfl, rfl, g0x2, t0k3⟩ := t0k2.uncons
  have o0x2 := g0x2.one
  obtain ⟨rfl, rfl⟩ := t0k3.unnil
  rw [valOf_t] at hv0
  subst hv0
  obtain ⟨_, _, u1, vs1, hd, rfl, ⟨cs1, hv1, _, t1⟩, hR2⟩ := hR1.dcons
  cases hd
  obtain ⟨_, _, y1x0, cs1, rfl, rfl, g1x0, t1k1⟩ := t1.uncons
  obtain ⟨n1x0, rfl⟩ := g1x0.int'
  obtain ⟨rfl, rfl⟩ := t1k1.unnil
  rw [valOf_f] at hv1
  subst hv1
  obtain ⟨_, rfl⟩ := hR2.dnil
  subst ho
  have e1 := hE.1
  simp (disch := omega) only [↓CTL, VAL, Nat.reduceBEq, Nat.reduceAdd, tupA_one, tupA_two, o0x2]
  refine putOne (W := WC (fun N => s.next ≤ N) s1) (q0 s1 _ _ _ t0) ?w (Hp.new ?h1 ?h2) ?l1 ?l2 fun _ s2 nv1 sv1 hp1 hst1 => ?_
  case h1 => (try simp only [VAL]); omega
  case h2 => (try simp (disch := omega) only [VAL]); rw [hE.2 H hH]; exact hobj
  case w => exact ⟨by (try simp only [VAL]); omega, fun N h1 h2 => ⟨by omega, off_nil, off_nil, by first | rfl | (simp (disch := omega) only [VAL])⟩⟩
  case l1 => simp only [List.length_append, List.length_nil]; omega
  case l2 => simp only [List.length_append, List.length_nil]; omega
  have hw1 : WC (fun N => s.next ≤ N) s1 _ _ _ _ := WC.stays _ _ _ _ _ _ _ (show WC (fun N => s.next ≤ N) s1 H _ .nilS .nilS from ⟨by (try simp only [VAL]); omega, fun N h1 h2 => ⟨by omega, off_nil, off_nil, by first | rfl | (simp (disch := omega) only [VAL])⟩⟩) hst1
  have hst := hst1
  have bx : True := trivial
  have hb0 := ((hst.2 (s1.next + 0) (by simp only [VAL]; omega) (by omega) off_nil off_nil).1)
  simp (disch := omega) only [VAL] at hb0
  simp (disch := omega) only [↓CTL, VAL, Nat.reduceBEq, Nat.reduceAdd, hb0, o0x2]
  refine putOne (W := WC (fun N => s.next ≤ N) s1) (q1 s1 _ _ _ t1) hw1 hp1 ?l1 ?l2 fun _ s3 nv2 sv2 hp2 hst2 => ?_
  case l1 => simp only [List.length_append, List.length_nil]; omega
  case l2 => simp only [List.length_append, List.length_nil]; omega
  have hw2 : WC (fun N => s.next ≤ N) s1 _ _ _ _ := WC.stays _ _ _ _ _ _ _ hw1 hst2
  replace hst := hst.trans hst2
  have hsame := fun M hM hM2 => (hst.2 M hM hM2 off_nil off_nil).1
  have hn := hst.1
  try simp only [VAL] at hsame hn
  have bx : True := trivial
  have hb0 := ((hst.2 (s1.next + 0) (by simp only [VAL]; omega) (by omega) off_nil off_nil).1)
  simp (disch := omega) only [VAL] at hb0
  simp (disch := omega) only [↓CTL, VAL, Nat.reduceBEq, Nat.reduceAdd, hb0, o0x2]
  have hM : ∀ M, s.next ≤ M → M < s1.next → s3.objs M = s1.objs M := fun M h1 h2 => by rw [hsame M (by omega) (by omega)]; try simp (disch := omega) only [VAL]
  refine ⟨_, s1.next + 1, nv2, sv2, rfl, by omega, by simpa using hp2, fun M hM hM2 => ?_, ?_⟩
  · rw [hsame M (by omega) hM2]
    try simp (disch := omega) only [VAL]
    exact hE.2 M hM
  · refine RunV.func mixed k34 (by simp) ?_
    simp (disch := omega) only [c34, ↓CTL, VAL, Nat.reduceBEq, Nat.reduceAdd]
    have x0 : BoxOk s3 (btw s.next (s1.next + 1)) (s1.next + 0) [(.int .i64), (.int .i64), (.sl [(.int .u8)])] := .mk1 ⟨by omega, by omega⟩ (by omega) hb0 rfl (t0.box (by omega) (by omega) hM)
    refine (w17.box x0).mono fun o r0 ⟨⟨v, hv⟩, h0⟩ => ?_
    subst hv
    simp (disch := omega) only [↓CTL, VAL, Nat.reduceBEq, Nat.reduceAdd]
    exact ⟨⟨_, rfl⟩, h0.done⟩
theorem q35 (x : XA) (X : Nat) : ∃ A B, A.length ≤ 1099511627776 ∧ B.length ≤ 1099511627776 ∧ CallSpec Tryz.prog (.func (.func 35) [] [.ptr X 0 0]) X (.cells 33 [x.row]) A B := by
  obtain ⟨ds, hz, hc⟩ := RunV.uniT (P := Tryz.prog) (f := 36) (show ∀ a ∈ [.agg [.int .i64 x.c0, .int .i64 x.c1, x.v2], .int .i64 x.c27, .int .i64 x.c28], Clo a from (c_cons (Clo.part (agg := true) (n := 3) (off := 0) x.clo rfl) (c_cons (Clo.part (agg := false) (n := 1) (off := 27) x.clo rfl) (c_cons (Clo.part (agg := false) (n := 1) (off := 28) x.clo rfl) c_nil)))) [(true, [(.int .i64), (.int .i64), (.sl [(.int .u8)])]), (false, [(.int .i64)])] SmallD (e36 x)
  obtain ⟨_, _, ⟨_, _, hr0, _⟩, _⟩ := hc nilHeap
  obtain ⟨d0, ds0, _, _, rfl, _, ⟨_, _, _, l0⟩, hr1⟩ := hr0.dcons
  have l0 := l0.dl
  obtain ⟨d1, ds1, _, _, rfl, _, ⟨_, _, _, l1⟩, hr2⟩ := hr1.dcons
  have l1 := l1.dl
  obtain ⟨rfl, _⟩ := hr2.dnil
  have z0 := hz d0 (by simp)
  obtain ⟨A0, B0, a0, b0, q0⟩ := p15.2 d0 l0 (by omega)
  have z1 := hz d1 (by simp)
  obtain ⟨A1, B1, a1, b1, q1⟩ := p8.2 d1 l1 (by omega)
  refine ⟨(([] ++ A0) ++ A1), (([] ++ B0) ++ B1), by simp only [List.length_append, List.length_nil]; omega, by simp only [List.length_append, List.length_nil]; omega, fun s H hX hxo hH hne hobj => ?_⟩
  refine RunV.func mixed k35 (by simp) ?_
  rw [XA.row_eq] at hxo
  simp (disch := omega) only [c35, ↓CTL, VAL, Nat.reduceBEq, Nat.reduceAdd, hxo, x.o2, x.o5, x.o8, x.o14, x.o20, x.o21, x.o31, x.o32]
  refine (hc s).mono fun o s1 ⟨vs, ho, hR0, hE⟩ => ?_
  obtain ⟨_, _, u0, vs0, hd, rfl, ⟨cs0, hv0, _, t0⟩, hR1⟩ := hR0.dcons
  cases hd
  obtain ⟨_, _, y0x0, cs0, rfl, rfl, g0x0, t0k1⟩ := t0.uncons
  obtain ⟨n0x0, rfl⟩ := g0x0.int'
  obtain ⟨_, _, y0x1, cs0, rfl, rfl, g0x1, t0k2⟩ := t0k1.uncons
  obtain ⟨n0x1, rfl⟩ := g0x1.int'
  obtain ⟨_, _, y0x2, cs0, rfl, rfl, g0x2, t0k3⟩ := t0k2.uncons
  have o0x2 := g0x2.one
  obtain ⟨rfl, rfl⟩ := t0k3.unnil
  rw [valOf_t] at hv0
  subst hv0
  obtain ⟨_, _, u1, vs1, hd, rfl, ⟨cs1, hv1, _, t1⟩, hR2⟩ := hR1.dcons
  cases hd
  obtain ⟨_, _, y1x0, cs1, rfl, rfl, g1x0, t1k1⟩ := t1.uncons
  obtain ⟨n1x0, rfl⟩ := g1x0.int'
  obtain ⟨rfl, rfl⟩ := t1k1.unnil
  rw [valOf_f] at hv1
  subst hv1
  obtain ⟨_, rfl⟩ := hR2.dnil
  subst ho
  have e1 := hE.1
  simp (disch := omega) only [↓CTL, VAL, Nat.reduceBEq, Nat.reduceAdd, tupA_one, tupA_two, o0x2]
  refine putOne (W := WC (fun N => s.next ≤ N) s1) (q0 s1 _ _ _ t0) ?w (Hp.new ?h1 ?h2) ?l1 ?l2 fun _ s2 nv1 sv1 hp1 hst1 => ?_
  case h1 => (try simp only [VAL]); omega
  case h2 => (try simp (disch := omega) only [VAL]); rw [hE.2 H hH]; exact hobj
  case w => exact ⟨by (try simp only [VAL]); omega, fun N h1 h2 => ⟨by omega, off_nil, off_nil, by first | rfl | (simp (disch := omega) only [VAL])⟩⟩
  case l1 => simp only [List.length_append, List.length_nil]; omega
  case l2 => simp only [List.length_append, List.length_nil]; omega
  have hw1 : WC (fun N => s.next ≤ N) s1 _ _ _ _ := WC.stays _ _ _ _ _ _ _ (show WC (fun N => s.next ≤ N) s1 H _ .nilS .nilS from ⟨by (try simp only [VAL]); omega, fun N h1 h2 => ⟨by omega, off_nil, off_nil, by first | rfl | (simp (disch := omega) only [VAL])⟩⟩) hst1
  have hst := hst1
  have bx : True := trivial
  have hb0 := ((hst.2 (s1.next + 0) (by simp only [VAL]; omega) (by omega) off_nil off_nil).1)
  simp (disch := omega) only [VAL] at hb0
  simp (disch := omega) only [↓CTL, VAL, Nat.reduceBEq, Nat.reduceAdd, hb0, o0x2]
  refine putOne (W := WC (fun N => s.next ≤ N) s1) (q1 s1 _ _ _ t1) hw1 hp1 ?l1 ?l2 fun _ s3 nv2 sv2 hp2 hst2 => ?_
  case l1 => simp only [List.length_append, List.length_nil]; omega
  case l2 => simp only [List.length_append, List.length_nil]; omega
  have hw2 : WC (fun N => s.next ≤ N) s1 _ _ _ _ := WC.stays _ _ _ _ _ _ _ hw1 hst2
  replace hst := hst.trans hst2
  have hsame := fun M hM hM2 => (hst.2 M hM hM2 off_nil off_nil).1
  have hn := hst.1
  try simp only [VAL] at hsame hn
  have bx : True := trivial
  have hb0 := ((hst.2 (s1.next + 0) (by simp only [VAL]; omega) (by omega) off_nil off_nil).1)
  simp (disch := omega) only [VAL] at hb0
  simp (disch := omega) only [↓CTL, VAL, Nat.reduceBEq, Nat.reduceAdd, hb0, o0x2]
  have hM : ∀ M, s.next ≤ M → M < s1.next → s3.objs M = s1.objs M := fun M h1 h2 => by rw [hsame M (by omega) (by omega)]; try simp (disch := omega) only [VAL]
  refine ⟨_, s1.next + 1, nv2, sv2, rfl, by omega, by simpa using hp2, fun M hM hM2 => ?_, ?_⟩
  · rw [hsame M (by omega) hM2]
    try simp (disch := omega) only [VAL]
    exact hE.2 M hM
  · refine RunV.func mixed k37 (by simp) ?_
    simp (disch := omega) only [c37, ↓CTL, VAL, Nat.reduceBEq, Nat.reduceAdd]
    have x0 : BoxOk s3 (btw s.next (s1.next + 1)) (s1.next + 0) [(.int .i64), (.int .i64), (.sl [(.int .u8)])] := .mk1 ⟨by omega, by omega⟩ (by omega) hb0 rfl (t0.box (by omega) (by omega) hM)
    refine (w17.box x0).mono fun o r0 ⟨⟨v, hv⟩, h0⟩ => ?_
    subst hv
    simp (disch := omega) only [↓CTL, VAL, Nat.reduceBEq, Nat.reduceAdd]
    exact ⟨⟨_, rfl⟩, h0.done⟩
theorem q38 (x : XA) (X : Nat) : ∃ A B, A.length ≤ 1099511627776 ∧ B.length ≤ 1099511627776 ∧ CallSpec Tryz.prog (.func (.func 38) [] [.ptr X 0 0]) X (.cells 33 [x.row]) A B := by
  obtain ⟨ds, hz, hc⟩ := RunV.uniT (P := Tryz.prog) (f := 39) (show ∀ a ∈ [.agg [.int .i64 x.c29, .int .i64 x.c30, x.v31]], Clo a from (c_cons (Clo.part (agg := true) (n := 3) (off := 29) x.clo rfl) c_nil)) [(false, [(.sl [(.int .i64), (.int .i64), (.int .i64), (.int .i64), (.int .i64)])]), (false, [(.int .i64)])] SmallD (e39 x)
  obtain ⟨_, _, ⟨_, _, hr0, _⟩, _⟩ := hc nilHeap
  obtain ⟨d0, ds0, _, _, rfl, _, ⟨_, _, _, l0⟩, hr1⟩ := hr0.dcons
  have l0 := l0.dl
  obtain ⟨d1, ds1, _, _, rfl, _, ⟨_, _, _, l1⟩, hr2⟩ := hr1.dcons
  have l1 := l1.dl
  obtain ⟨rfl, _⟩ := hr2.dnil
  have z0 := hz d0 (by simp)
  obtain ⟨A0, B0, a0, b0, q0⟩ := p40.2 d0 l0 (by omega)
  have z1 := hz d1 (by simp)
  obtain ⟨A1, B1, a1, b1, q1⟩ := p8.2 d1 l1 (by omega)
  refine ⟨(([] ++ A0) ++ A1), (([] ++ B0) ++ B1), by simp only [List.length_append, List.length_nil]; omega, by simp only [List.length_append, List.length_nil]; omega, fun s H hX hxo hH hne hobj => ?_⟩
  refine RunV.func mixed k38 (by simp) ?_
  rw [XA.row_eq] at hxo
  simp (disch := omega) only [c38, ↓CTL, VAL, Nat.reduceBEq, Nat.reduceAdd, hxo, x.o2, x.o5, x.o8, x.o14, x.o20, x.o21, x.o31, x.o32]
  refine (hc s).mono fun o s1 ⟨vs, ho, hR0, hE⟩ => ?_
  obtain ⟨_, _, u0, vs0, hd, rfl, ⟨cs0, hv0, _, t0⟩, hR1⟩ := hR0.dcons
  cases hd
  obtain ⟨_, _, y0x0, cs0, rfl, rfl, g0x0, t0k1⟩ := t0.uncons
  have o0x0 := g0x0.one
  obtain ⟨rfl, rfl⟩ := t0k1.unnil
  rw [valOf_f] at hv0
  subst hv0
  obtain ⟨_, _, u1, vs1, hd, rfl, ⟨cs1, hv1, _, t1⟩, hR2⟩ := hR1.dcons
  cases hd
  obtain ⟨_, _, y1x0, cs1, rfl, rfl, g1x0, t1k1⟩ := t1.uncons
  obtain ⟨n1x0, rfl⟩ := g1x0.int'
  obtain ⟨rfl, rfl⟩ := t1k1.unnil
  rw [valOf_f] at hv1
  subst hv1
  obtain ⟨_, rfl⟩ := hR2.dnil
  subst ho
  have e1 := hE.1
  simp (disch := omega) only [↓CTL, VAL, Nat.reduceBEq, Nat.reduceAdd, tupA_one, tupA_two, o0x0]
  refine putOne (W := WC (fun N => s.next ≤ N) s1) (q0 s1 _ _ _ t0) ?w (Hp.new ?h1 ?h2) ?l1 ?l2 fun _ s2 nv1 sv1 hp1 hst1 => ?_
  case h1 => (try simp only [VAL]); omega
  case h2 => (try simp (disch := omega) only [VAL]); rw [hE.2 H hH]; exact hobj
  case w => exact ⟨by (try simp only [VAL]); omega, fun N h1 h2 => ⟨by omega, off_nil, off_nil, by first | rfl | (simp (disch := omega) only [VAL])⟩⟩
  case l1 => simp only [List.length_append, List.length_nil]; omega
  case l2 => simp only [List.length_append, List.length_nil]; omega
  have hw1 : WC (fun N => s.next ≤ N) s1 _ _ _ _ := WC.stays _ _ _ _ _ _ _ (show WC (fun N => s.next ≤ N) s1 H _ .nilS .nilS from ⟨by (try simp only [VAL]); omega, fun N h1 h2 => ⟨by omega, off_nil, off_nil, by first | rfl | (simp (disch := omega) only [VAL])⟩⟩) hst1
  have hst := hst1
  have bx : True := trivial
  have hb0 := ((hst.2 (s1.next + 0) (by simp only [VAL]; omega) (by omega) off_nil off_nil).1)
  simp (disch := omega) only [VAL] at hb0
  simp (disch := omega) only [↓CTL, VAL, Nat.reduceBEq, Nat.reduceAdd, hb0, o0x0]
  refine putOne (W := WC (fun N => s.next ≤ N) s1) (q1 s1 _ _ _ t1) hw1 hp1 ?l1 ?l2 fun _ s3 nv2 sv2 hp2 hst2 => ?_
  case l1 => simp only [List.length_append, List.length_nil]; omega
  case l2 => simp only [List.length_append, List.length_nil]; omega
  have hw2 : WC (fun N => s.next ≤ N) s1 _ _ _ _ := WC.stays _ _ _ _ _ _ _ hw1 hst2
  replace hst := hst.trans hst2
  have hsame := fun M hM hM2 => (hst.2 M hM hM2 off_nil off_nil).1
  have hn := hst.1
  try simp only [VAL] at hsame hn
  have bx : True := trivial
  have hb0 := ((hst.2 (s1.next + 0) (by simp only [VAL]; omega) (by omega) off_nil off_nil).1)
  simp (disch := omega) only [VAL] at hb0
  simp (disch := omega) only [↓CTL, VAL, Nat.reduceBEq, Nat.reduceAdd, hb0, o0x0]
  have hM : ∀ M, s.next ≤ M → M < s1.next → s3.objs M = s1.objs M := fun M h1 h2 => by rw [hsame M (by omega) (by omega)]; try simp (disch := omega) only [VAL]
  refine ⟨_, s1.next + 1, nv2, sv2, rfl, by omega, by simpa using hp2, fun M hM hM2 => ?_, ?_⟩
  · rw [hsame M (by omega) hM2]
    try simp (disch := omega) only [VAL]
    exact hE.2 M hM
  · refine RunV.func mixed k41 (by simp) ?_
    simp (disch := omega) only [c41, ↓CTL, VAL, Nat.reduceBEq, Nat.reduceAdd]
    have x0 : BoxOk s3 (btw s.next (s1.next + 1)) (s1.next + 0) [(.sl [(.int .i64), (.int .i64), (.int .i64), (.int .i64), (.int .i64)])] := .mk1 ⟨by omega, by omega⟩ (by omega) hb0 rfl (t0.box (by omega) (by omega) hM)
    refine (w42.box x0).mono fun o r0 ⟨⟨v, hv⟩, h0⟩ => ?_
    subst hv
    simp (disch := omega) only [↓CTL, VAL, Nat.reduceBEq, Nat.reduceAdd]
    exact ⟨⟨_, rfl⟩, h0.done⟩
theorem q43 (x : XA) (X : Nat) : ∃ A B, A.length ≤ 1099511627776 ∧ B.length ≤ 1099511627776 ∧ CallSpec Tryz.prog (.func (.func 43) [] [.ptr X 0 0]) X (.cells 33 [x.row]) A B := by
  obtain ⟨ds, hz, hc⟩ := RunV.uniT (P := Tryz.prog) (f := 44) (show ∀ a ∈ [x.v32], Clo a from (c_cons (Clo.part (agg := false) (n := 1) (off := 32) x.clo rfl) c_nil)) [(false, [(.int .i64)])] SmallD (e44 x)
  obtain ⟨_, _, ⟨_, _, hr0, _⟩, _⟩ := hc nilHeap
  obtain ⟨d0, ds0, _, _, rfl, _, ⟨_, _, _, l0⟩, hr1⟩ := hr0.dcons
  have l0 := l0.dl
  obtain ⟨rfl, _⟩ := hr1.dnil
  have z0 := hz d0 (by simp)
  obtain ⟨A0, B0, a0, b0, q0⟩ := p24.2 d0 l0 (by omega)
  refine ⟨([] ++ A0), ([] ++ B0), by simp only [List.length_append, List.length_nil]; omega, by simp only [List.length_append, List.length_nil]; omega, fun s H hX hxo hH hne hobj => ?_⟩
  refine RunV.func mixed k43 (by simp) ?_
  rw [XA.row_eq] at hxo
  simp (disch := omega) only [c43, ↓CTL, VAL, Nat.reduceBEq, Nat.reduceAdd, hxo, x.o2, x.o5, x.o8, x.o14, x.o20, x.o21, x.o31, x.o32]
  refine (hc s).mono fun o s1 ⟨vs, ho, hR0, hE⟩ => ?_
  obtain ⟨_, _, u0, vs0, hd, rfl, ⟨cs0, hv0, _, t0⟩, hR1⟩ := hR0.dcons
  cases hd
  obtain ⟨_, _, y0x0, cs0, rfl, rfl, g0x0, t0k1⟩ := t0.uncons
  obtain ⟨n0x0, rfl⟩ := g0x0.int'
  obtain ⟨rfl, rfl⟩ := t0k1.unnil
  rw [valOf_f] at hv0
  subst hv0
  obtain ⟨_, rfl⟩ := hR1.dnil
  subst ho
  have e1 := hE.1
  simp (disch := omega) only [↓CTL, VAL, Nat.reduceBEq, Nat.reduceAdd, tupA_one, tupA_two]
  refine putOne (W := WC (fun N => s.next ≤ N) s1) (q0 s1 _ _ _ t0) ?w (Hp.new ?h1 ?h2) ?l1 ?l2 fun _ s2 nv1 sv1 hp1 hst1 => ?_
  case h1 => (try simp only [VAL]); omega
  case h2 => (try simp (disch := omega) only [VAL]); rw [hE.2 H hH]; exact hobj
  case w => exact ⟨by (try simp only [VAL]); omega, fun N h1 h2 => ⟨by omega, off_nil, off_nil, by first | rfl | (simp (disch := omega) only [VAL])⟩⟩
  case l1 => simp only [List.length_append, List.length_nil]; omega
  case l2 => simp only [List.length_append, List.length_nil]; omega
  have hw1 : WC (fun N => s.next ≤ N) s1 _ _ _ _ := WC.stays _ _ _ _ _ _ _ (show WC (fun N => s.next ≤ N) s1 H _ .nilS .nilS from ⟨by (try simp only [VAL]); omega, fun N h1 h2 => ⟨by omega, off_nil, off_nil, by first | rfl | (simp (disch := omega) only [VAL])⟩⟩) hst1
  have hst := hst1
  have hsame := fun M hM hM2 => (hst.2 M hM hM2 off_nil off_nil).1
  have hn := hst.1
  try simp only [VAL] at hsame hn
  have bx : True := trivial
  simp (disch := omega) only [↓CTL, VAL, Nat.reduceBEq, Nat.reduceAdd]
  have hM : ∀ M, s.next ≤ M → M < s1.next → s2.objs M = s1.objs M := fun M h1 h2 => by rw [hsame M (by omega) (by omega)]; try simp (disch := omega) only [VAL]
  refine ⟨_, s1.next + 0, nv1, sv1, rfl, by omega, by simpa using hp1, fun M hM hM2 => ?_, ?_⟩
  · rw [hsame M (by omega) hM2]
    try simp (disch := omega) only [VAL]
    exact hE.2 M hM
  · exact (nothing_spec mixed (f := 9) (by kernel_rfl) _).mono fun o s' ⟨h1, h2⟩ => by subst h2; exact ⟨h1, Nat.le_refl _, fun _ _ _ => rfl⟩
theorem q45 (x : XA) (X : Nat) : ∃ A B, A.length ≤ 1099511627776 ∧ B.length ≤ 1099511627776 ∧ CallSpec Tryz.prog (.func (.func 45) [] [.ptr X 0 0]) X (.cells 33 [x.row]) A B := by
  obtain ⟨ds, hz, hc⟩ := RunV.uniT (P := Tryz.prog) (f := 46) (show ∀ a ∈ [x.v21], Clo a from (c_cons (Clo.part (agg := false) (n := 1) (off := 21) x.clo rfl) c_nil)) [(false, [(.sl [(.int .u8)])]), (false, [(.int .i64)])] SmallD (e46 x)
  obtain ⟨_, _, ⟨_, _, hr0, _⟩, _⟩ := hc nilHeap
  obtain ⟨d0, ds0, _, _, rfl, _, ⟨_, _, _, l0⟩, hr1⟩ := hr0.dcons
  have l0 := l0.dl
  obtain ⟨d1, ds1, _, _, rfl, _, ⟨_, _, _, l1⟩, hr2⟩ := hr1.dcons
  have l1 := l1.dl
  obtain ⟨rfl, _⟩ := hr2.dnil
  have z0 := hz d0 (by simp)
  obtain ⟨A0, B0, a0, b0, q0⟩ := p47.2 d0 l0 (by omega)
  have z1 := hz d1 (by simp)
  obtain ⟨A1, B1, a1, b1, q1⟩ := p8.2 d1 l1 (by omega)
  refine ⟨(([] ++ A0) ++ A1), (([] ++ B0) ++ B1), by simp only [List.length_append, List.length_nil]; omega, by simp only [List.length_append, List.length_nil]; omega, fun s H hX hxo hH hne hobj => ?_⟩
  refine RunV.func mixed k45 (by simp) ?_
  rw [XA.row_eq] at hxo
  simp (disch := omega) only [c45, ↓CTL, VAL, Nat.reduceBEq, Nat.reduceAdd, hxo, x.o2, x.o5, x.o8, x.o14, x.o20, x.o21, x.o31, x.o32]
  refine (hc s).mono fun o s1 ⟨vs, ho, hR0, hE⟩ => ?_
  obtain ⟨_, _, u0, vs0, hd, rfl, ⟨cs0, hv0, _, t0⟩, hR1⟩ := hR0.dcons
  cases hd
  obtain ⟨_, _, y0x0, cs0, rfl, rfl, g0x0, t0k1⟩ := t0.uncons
  have o0x0 := g0x0.one
  obtain ⟨rfl, rfl⟩ := t0k1.unnil
  rw [valOf_f] at hv0
  subst hv0
  obtain ⟨_, _, u1, vs1, hd, rfl, ⟨cs1, hv1, _, t1⟩, hR2⟩ := hR1.dcons
  cases hd
  obtain ⟨_, _, y1x0, cs1, rfl, rfl, g1x0, t1k1⟩ := t1.uncons
  obtain ⟨n1x0, rfl⟩ := g1x0.int'
  obtain ⟨rfl, rfl⟩ := t1k1.unnil
  rw [valOf_f] at hv1
  subst hv1
  obtain ⟨_, rfl⟩ := hR2.dnil
  subst ho
  have e1 := hE.1
  simp (disch := omega) only [↓CTL, VAL, Nat.reduceBEq, Nat.reduceAdd, tupA_one, tupA_two, o0x0]
  refine putOne (W := WC (fun N => s.next ≤ N) s1) (q0 s1 _ _ _ t0) ?w (Hp.new ?h1 ?h2) ?l1 ?l2 fun _ s2 nv1 sv1 hp1 hst1 => ?_
  case h1 => (try simp only [VAL]); omega
  case h2 => (try simp (disch := omega) only [VAL]); rw [hE.2 H hH]; exact hobj
  case w => exact ⟨by (try simp only [VAL]); omega, fun N h1 h2 => ⟨by omega, off_nil, off_nil, by first | rfl | (simp (disch := omega) only [VAL])⟩⟩
  case l1 => simp only [List.length_append, List.length_nil]; omega
  case l2 => simp only [List.length_append, List.length_nil]; omega
  have hw1 : WC (fun N => s.next ≤ N) s1 _ _ _ _ := WC.stays _ _ _ _ _ _ _ (show WC (fun N => s.next ≤ N) s1 H _ .nilS .nilS from ⟨by (try simp only [VAL]); omega, fun N h1 h2 => ⟨by omega, off_nil, off_nil, by first | rfl | (simp (disch := omega) only [VAL])⟩⟩) hst1
  have hst := hst1
  have bx : True := trivial
  have hb0 := ((hst.2 (s1.next + 0) (by simp only [VAL]; omega) (by omega) off_nil off_nil).1)
  simp (disch := omega) only [VAL] at hb0
  simp (disch := omega) only [↓CTL, VAL, Nat.reduceBEq, Nat.reduceAdd, hb0, o0x0]
  refine putOne (W := WC (fun N => s.next ≤ N) s1) (q1 s1 _ _ _ t1) hw1 hp1 ?l1 ?l2 fun _ s3 nv2 sv2 hp2 hst2 => ?_
  case l1 => simp only [List.length_append, List.length_nil]; omega
  case l2 => simp only [List.length_append, List.length_nil]; omega
  have hw2 : WC (fun N => s.next ≤ N) s1 _ _ _ _ := WC.stays _ _ _ _ _ _ _ hw1 hst2
  replace hst := hst.trans hst2
  have hsame := fun M hM hM2 => (hst.2 M hM hM2 off_nil off_nil).1
  have hn := hst.1
  try simp only [VAL] at hsame hn
  have bx : True := trivial
  have hb0 := ((hst.2 (s1.next + 0) (by simp only [VAL]; omega) (by omega) off_nil off_nil).1)
  simp (disch := omega) only [VAL] at hb0
  simp (disch := omega) only [↓CTL, VAL, Nat.reduceBEq, Nat.reduceAdd, hb0, o0x0]
  have hM : ∀ M, s.next ≤ M → M < s1.next → s3.objs M = s1.objs M := fun M h1 h2 => by rw [hsame M (by omega) (by omega)]; try simp (disch := omega) only [VAL]
  refine ⟨_, s1.next + 1, nv2, sv2, rfl, by omega, by simpa using hp2, fun M hM hM2 => ?_, ?_⟩
  · rw [hsame M (by omega) hM2]
    try simp (disch := omega) only [VAL]
    exact hE.2 M hM
  · refine RunV.func mixed k48 (by simp) ?_
    simp (disch := omega) only [c48, ↓CTL, VAL, Nat.reduceBEq, Nat.reduceAdd]
    have x0 : BoxOk s3 (btw s.next (s1.next + 1)) (s1.next + 0) [(.sl [(.int .u8)])] := .mk1 ⟨by omega, by omega⟩ (by omega) hb0 rfl (t0.box (by omega) (by omega) hM)
    refine (w49.box x0).mono fun o r0 ⟨⟨v, hv⟩, h0⟩ => ?_
    subst hv
    simp (disch := omega) only [↓CTL, VAL, Nat.reduceBEq, Nat.reduceAdd]
    exact ⟨⟨_, rfl⟩, h0.done⟩
theorem q50 (x : XA) (X : Nat) : ∃ A B, A.length ≤ 1099511627776 ∧ B.length ≤ 1099511627776 ∧ CallSpec Tryz.prog (.func (.func 50) [] [.ptr X 0 0]) X (.cells 33 [x.row]) A B := by
  obtain ⟨ds, hz, hc⟩ := RunV.uniT (P := Tryz.prog) (f := 51) (show ∀ a ∈ [x.v32], Clo a from (c_cons (Clo.part (agg := false) (n := 1) (off := 32) x.clo rfl) c_nil)) [(false, [(.sl [(.int .i64), (.int .i64), (.sl [(.int .u8)])])]), (false, [(.int .i64)])] SmallD (e51 x)
  obtain ⟨_, _, ⟨_, _, hr0, _⟩, _⟩ := hc nilHeap
  obtain ⟨d0, ds0, _, _, rfl, _, ⟨_, _, _, l0⟩, hr1⟩ := hr0.dcons
  have l0 := l0.dl
  obtain ⟨d1, ds1, _, _, rfl, _, ⟨_, _, _, l1⟩, hr2⟩ := hr1.dcons
  have l1 := l1.dl
  obtain ⟨rfl, _⟩ := hr2.dnil
  have z0 := hz d0 (by simp)
  obtain ⟨A0, B0, a0, b0, q0⟩ := p52.2 d0 l0 (by omega)
  have z1 := hz d1 (by simp)
  obtain ⟨A1, B1, a1, b1, q1⟩ := p8.2 d1 l1 (by omega)
  refine ⟨(([] ++ A0) ++ A1), (([] ++ B0) ++ B1), by simp only [List.length_append, List.length_nil]; omega, by simp only [List.length_append, List.length_nil]; omega, fun s H hX hxo hH hne hobj => ?_⟩
  refine RunV.func mixed k50 (by simp) ?_
  rw [XA.row_eq] at hxo
  simp (disch := omega) only [c50, ↓CTL, VAL, Nat.reduceBEq, Nat.reduceAdd, hxo, x.o2, x.o5, x.o8, x.o14, x.o20, x.o21, x.o31, x.o32]
  refine (hc s).mono fun o s1 ⟨vs, ho, hR0, hE⟩ => ?_
  obtain ⟨_, _, u0, vs0, hd, rfl, ⟨cs0, hv0, _, t0⟩, hR1⟩ := hR0.dcons
  cases hd
  obtain ⟨_, _, y0x0, cs0, rfl, rfl, g0x0, t0k1⟩ := t0.uncons
  have o0x0 := g0x0.one
  obtain ⟨rfl, rfl⟩ := t0k1.unnil
  rw [valOf_f] at hv0
  subst hv0
  obtain ⟨_, _, u1, vs1, hd, rfl, ⟨cs1, hv1, _, t1⟩, hR2⟩ := hR1.dcons
  cases hd
  obtain ⟨_, _, y1x0, cs1, rfl, rfl, g1x0, t1k1⟩ := t1.uncons
  obtain ⟨n1x0, rfl⟩ := g1x0.int'
  obtain ⟨rfl, rfl⟩ := t1k1.unnil
  rw [valOf_f] at hv1
  subst hv1
  obtain ⟨_, rfl⟩ := hR2.dnil
  subst ho
  have e1 := hE.1
  simp (disch := omega) only [↓CTL, VAL, Nat.reduceBEq, Nat.reduceAdd, tupA_one, tupA_two, o0x0]
  refine putOne (W := WC (fun N => s.next ≤ N) s1) (q0 s1 _ _ _ t0) ?w (Hp.new ?h1 ?h2) ?l1 ?l2 fun _ s2 nv1 sv1 hp1 hst1 => ?_
  case h1 => (try simp only [VAL]); omega
  case h2 => (try simp (disch := omega) only [VAL]); rw [hE.2 H hH]; exact hobj
  case w => exact ⟨by (try simp only [VAL]); omega, fun N h1 h2 => ⟨by omega, off_nil, off_nil, by first | rfl | (simp (disch := omega) only [VAL])⟩⟩
  case l1 => simp only [List.length_append, List.length_nil]; omega
  case l2 => simp only [List.length_append, List.length_nil]; omega
  have hw1 : WC (fun N => s.next ≤ N) s1 _ _ _ _ := WC.stays _ _ _ _ _ _ _ (show WC (fun N => s.next ≤ N) s1 H _ .nilS .nilS from ⟨by (try simp only [VAL]); omega, fun N h1 h2 => ⟨by omega, off_nil, off_nil, by first | rfl | (simp (disch := omega) only [VAL])⟩⟩) hst1
  have hst := hst1
  have bx : True := trivial
  have hb0 := ((hst.2 (s1.next + 0) (by simp only [VAL]; omega) (by omega) off_nil off_nil).1)
  simp (disch := omega) only [VAL] at hb0
  simp (disch := omega) only [↓CTL, VAL, Nat.reduceBEq, Nat.reduceAdd, hb0, o0x0]
  refine putOne (W := WC (fun N => s.next ≤ N) s1) (q1 s1 _ _ _ t1) hw1 hp1 ?l1 ?l2 fun _ s3 nv2 sv2 hp2 hst2 => ?_
  case l1 => simp only [List.length_append, List.length_nil]; omega
  case l2 => simp only [List.length_append, List.length_nil]; omega
  have hw2 : WC (fun N => s.next ≤ N) s1 _ _ _ _ := WC.stays _ _ _ _ _ _ _ hw1 hst2
  replace hst := hst.trans hst2
  have hsame := fun M hM hM2 => (hst.2 M hM hM2 off_nil off_nil).1
  have hn := hst.1
  try simp only [VAL] at hsame hn
  have bx : True := trivial
  have hb0 := ((hst.2 (s1.next + 0) (by simp only [VAL]; omega) (by omega) off_nil off_nil).1)
  simp (disch := omega) only [VAL] at hb0
  simp (disch := omega) only [↓CTL, VAL, Nat.reduceBEq, Nat.reduceAdd, hb0, o0x0]
  have hM : ∀ M, s.next ≤ M → M < s1.next → s3.objs M = s1.objs M := fun M h1 h2 => by rw [hsame M (by omega) (by omega)]; try simp (disch := omega) only [VAL]
  refine ⟨_, s1.next + 1, nv2, sv2, rfl, by omega, by simpa using hp2, fun M hM hM2 => ?_, ?_⟩
  · rw [hsame M (by omega) hM2]
    try simp (disch := omega) only [VAL]
    exact hE.2 M hM
  · refine RunV.func mixed k53 (by simp) ?_
    simp (disch := omega) only [c53, ↓CTL, VAL, Nat.reduceBEq, Nat.reduceAdd]
    have x0 : BoxOk s3 (btw s.next (s1.next + 1)) (s1.next + 0) [(.sl [(.int .i64), (.int .i64), (.sl [(.int .u8)])])] := .mk1 ⟨by omega, by omega⟩ (by omega) hb0 rfl (t0.box (by omega) (by omega) hM)
    refine (w54.box x0).mono fun o r0 ⟨⟨v, hv⟩, h0⟩ => ?_
    subst hv
    simp (disch := omega) only [↓CTL, VAL, Nat.reduceBEq, Nat.reduceAdd]
    exact ⟨⟨_, rfl⟩, h0.done⟩
end Go.Proofs.YtkfahdbjndihfabGreat
namespace Go.Proofs.YtkfahdbjndihfabGreat
open Go.Tc
set_option linter.unusedSimpArgs false
set_option linter.unusedVariables false
set_option maxRecDepth 20000
theorem s3 (hA : ∀ {σ : AHeap} {Q : AOut → AHeap → Prop}, Q (.ret (.bool true)) σ → RunV Tryz.prog (.func (.func 56) [] []) [] σ Q) (x : XA) {σ : AHeap} {Q : AOut → AHeap → Prop} (hQ : Q (.ret (.bool true)) σ) : RunV Tryz.prog (.func (.func 3) [] []) [.agg x.row] σ Q := by
  obtain ⟨ds, htr, hz⟩ := x.tr
  obtain ⟨A, B, lA, lB, hall⟩ := all_puts.args htr hz
  have h1 := x.one
  have hr := XA.row_eq (x := x)
  rw [← hr] at hall
  clear htr
  generalize hg : x.row = row at *
  refine RunV.drop (RunV.func mixed k3 (by simp) ?_)
  have hlen : row.length = 33 := by rw [hr]; rfl
  have ht : row.take 33 = row := List.take_of_length_le (by omega)
  simp (disch := omega) only [c3, ↓CTL, VAL, Nat.reduceBEq, Nat.reduceAdd, h1, hlen, ht, AHeap.next_alloc]
  refine putAll_spec mixed all_code (by omega) h1 hall (by simp [allR]) (Hp.new (H := σ.next + 1) ?a ?b) (by simp; omega) (by simp; omega) fun v s1 nv1 sv1 hp1 hst1 => ?_
  case a => simp only [AHeap.next_alloc]; omega
  case b => simp (disch := omega) only [VAL]
  have n1 := hst1.1
  simp only [AHeap.next_alloc] at n1
  have hs1 : ∀ M, M < σ.next + 3 → M ≠ σ.next + 1 → s1.objs M = _ := fun M hM hM2 => (hst1.2 M (by simp only [AHeap.next_alloc]; omega) hM2 (fun _ _ _ _ h => by cases h) (fun _ _ _ _ h => by cases h)).1
  have hX := hs1 σ.next (by omega) (by omega)
  have hB := hs1 (σ.next + 1 + 1) (by omega) (by omega)
  have hS : ∀ M, M < σ.next → s1.objs M = σ.objs M := fun M hM => by rw [hs1 M (by omega) (by omega), objs_old (by simp only [AHeap.next_alloc]; omega), objs_old (by simp only [AHeap.next_alloc]; omega), objs_old (by omega)]
  simp (disch := omega) only [VAL] at hX hB
  simp (disch := omega) only [↓CTL, VAL, Nat.reduceBEq, Nat.reduceAdd]
  have ag : ∀ {C : AVal}, (∃ A B, A.length ≤ 1099511627776 ∧ B.length ≤ 1099511627776 ∧ CallSpec Tryz.prog C σ.next (.cells 33 [row]) A B) → ∀ {Q : AOut → AHeap → Prop}, Q (.ret (.bool true)) s1 → RunV Tryz.prog (.func (.func 5) [] []) [C] s1 Q := fun ⟨_, _, l1, l2, h⟩ _ hQ => again_spec mixed (f := 5) (sm := 55) (by kernel_rfl) (by kernel_rfl) h l1 l2 (by omega) hX hQ
  refine ag (hg ▸ q6 x _) ?_
  simp (disch := omega) only [↓CTL, VAL, Nat.reduceBEq, Nat.reduceAdd, hX, ht, hlen]
  refine ag (hg ▸ q10 x _) ?_
  simp (disch := omega) only [↓CTL, VAL, Nat.reduceBEq, Nat.reduceAdd, hX, ht, hlen]
  refine ag (hg ▸ q13 x _) ?_
  simp (disch := omega) only [↓CTL, VAL, Nat.reduceBEq, Nat.reduceAdd, hX, ht, hlen]
  refine ag (hg ▸ q18 x _) ?_
  simp (disch := omega) only [↓CTL, VAL, Nat.reduceBEq, Nat.reduceAdd, hX, ht, hlen]
  refine ag (hg ▸ q21 x _) ?_
  simp (disch := omega) only [↓CTL, VAL, Nat.reduceBEq, Nat.reduceAdd, hX, ht, hlen]
  refine ag (hg ▸ q25 x _) ?_
  simp (disch := omega) only [↓CTL, VAL, Nat.reduceBEq, Nat.reduceAdd, hX, ht, hlen]
  refine ag (hg ▸ q32 x _) ?_
  simp (disch := omega) only [↓CTL, VAL, Nat.reduceBEq, Nat.reduceAdd, hX, ht, hlen]
  refine ag (hg ▸ q35 x _) ?_
  simp (disch := omega) only [↓CTL, VAL, Nat.reduceBEq, Nat.reduceAdd, hX, ht, hlen]
  refine ag (hg ▸ q38 x _) ?_
  simp (disch := omega) only [↓CTL, VAL, Nat.reduceBEq, Nat.reduceAdd, hX, ht, hlen]
  refine ag (hg ▸ q43 x _) ?_
  simp (disch := omega) only [↓CTL, VAL, Nat.reduceBEq, Nat.reduceAdd, hX, ht, hlen]
  refine ag (hg ▸ q45 x _) ?_
  simp (disch := omega) only [↓CTL, VAL, Nat.reduceBEq, Nat.reduceAdd, hX, ht, hlen]
  refine ag (hg ▸ q50 x _) ?_
  simp (disch := omega) only [↓CTL, VAL, Nat.reduceBEq, Nat.reduceAdd, hX, ht, hlen]
  refine putAll_spec mixed all_code (by omega) h1 hall (by simp [allR]) (Hp.new (H := σ.next + 1 + 1) ?a ?b) (by simp; omega) (by simp; omega) fun v s2 nv2 sv2 hp2 hst2 => ?_
  case a => omega
  case b => exact hB
  have n2 := hst2.1
  have hs2 : ∀ M, M < s1.next → M ≠ σ.next + 1 + 1 → s2.objs M = s1.objs M := fun M hM hM2 => (hst2.2 M hM hM2 (fun _ _ _ _ h => by cases h) (fun _ _ _ _ h => by cases h)).1
  have o1 := (hs2 (σ.next + 1) (by omega) (by omega)).trans hp1.obj
  have o2 := hp2.obj
  have b2 := hp2.bn
  have on : OwnS s2 _ 1 rI nv1 _ := hp1.n.keep (by omega) fun M h1 h2 _ => hs2 M (by omega) (by simp only [AHeap.next_alloc] at h1; omega)
  have os : OwnS s2 _ 1 rS sv1 _ := hp1.s.keep (by omega) fun M h1 h2 _ => hs2 M (by omega) (by simp only [AHeap.next_alloc] at h1; omega)
  simp (disch := omega) only [↓CTL, VAL, Nat.reduceBEq, Nat.reduceAdd, o1, o2]
  refine same_spec mixed (f := 55) (by kernel_rfl) (fun s' h => (on.ext h).tv) (fun s' h => (hp2.n.ext h).tv) (fun s' h => (os.ext h).tv) (fun s' h => (hp2.s.ext h).tv) (by simp; omega) (by simp; omega) ?_
  simp (disch := omega) only [↓CTL, VAL, Nat.reduceBEq, Nat.reduceAdd]
  refine hA ?_
  simp (disch := omega) only [↓CTL, VAL, Nat.reduceBEq, Nat.reduceAdd]
  exact ⟨_, rfl, rfl, ⟨by omega, fun M hM => (hs2 M (by omega) (by omega)).trans (hS M hM)⟩, hQ⟩
end Go.Proofs.YtkfahdbjndihfabGreat
namespace Go.Proofs.YtkfahdbjndihfabGreat
open Go.Tc
theorem e56 : exTest Tryz.prog noOrc 500 30 56 = true := by kernel_rfl
theorem s56 {σ : AHeap} {Q : AOut → AHeap → Prop} (hQ : Q (.ret (.bool true)) σ) : RunV Tryz.prog (.func (.func 56) [] []) [] σ Q := exTest_spec mixed noOrc_sound e56 hQ
theorem top (x : XA) {σ : AHeap} {Q : AOut → AHeap → Prop} (hQ : Q (.ret (.bool true)) σ) : RunV Tryz.prog (.func (.func 3) [] []) [.agg x.row] σ Q := s3 s56 x hQ
end Go.Proofs.YtkfahdbjndihfabGreat
namespace Go.Proofs.YtkfahdbjndihfabGreat
open Go.Tc Go.ChangeShapes Go.WideShapes Go.ChangeAt Go.RowKit
theorem bulkS {H : Type} : Bulk (H := H) Rows.uptoBulk Rows.uptoBulkAll where
  pos d := by
    cases d with
    | lit l => cases l <;> simp [Rows.uptoBulk]
    | _ => simp [Rows.uptoBulk]
  sl es sp := by simp only [Rows.uptoBulk]; omega
  ag ps := by simp only [Rows.uptoBulk]; omega
  nil := by simp [Rows.uptoBulkAll]
  cons d l := by simp [Rows.uptoBulkAll]
theorem xaOf {H : Type} {d : DataW H} {xs : List AVal} (h : Sh Tryz.prog 32 d xs) (hb : Rows.uptoBulk d ≤ 1048576) : ∃ x : XA, xs = x.row := by
  obtain ⟨ds, h1, h2, h3⟩ := h.tr bulkS 30 argRow (by kernel_rfl)
  exact XA.of h1 (by omega) h3
set_option maxRecDepth 100000 in
theorem contract (H : Type) (enc : TypeId × Value → H) (W : World) (base : Nat) (args : Array Value) (ds gs : List (DataW H)) (before : List MemPlace)
    (hval : ∀ (j : Nat) t v, Tryz.f3.params[j]? = some t → args[j]? = some v → Value.okWide Tryz.prog W .any base t v)
    (hW : DataW.Whole enc Tryz.prog Tryz.f3.params.toList Rows.topAnewScanSpec.vars false W args.toList ds gs before) (hk : Rows.uptoSmall H (ds ++ gs) = true) :
    Calls Tryz.prog 3 args W fun e W' => ∃ v, e = .returned v ∧ Rows.topAnewScanSpec.post enc Tryz.prog Tryz.f3 false true false false W args v W' := by
  have hW' := hW
  obtain ⟨p, q, hA0, hV, rfl, hfz, hnd⟩ := hW
  have hA : DataW.TrodAll enc Tryz.prog W 0 (fun _ => true) true Tryz.f3.params.toList args.toList ds p := hA0
  rw [Tryz.params3] at hA hval
  obtain ⟨v0, vs0, d0, ds0, p0, q0, hargs, rfl, rfl, h0, r0⟩ := trodAll_cons hA
  obtain ⟨rfl, rfl, rfl⟩ := trodAll_nil r0
  obtain rfl : args = #[v0] := by cases args; simp_all
  obtain ⟨rfl, rfl⟩ := trodVars_none hV
  obtain ⟨fuel, hf⟩ := h0
  obtain ⟨cs, rfl, hcs⟩ := okWide_struct Tryz.underlying32 (hval 0 32 v0 rfl rfl)
  obtain ⟨xs, hs, hr⟩ := trod_sh 30 32 fuel _ _ (by kernel_rfl) hf
  have hb : Rows.uptoBulkAll [d0] ≤ 1048576 := of_decide_eq_true hk
  simp only [Rows.uptoBulkAll] at hb
  obtain ⟨x, rfl⟩ := xaOf hs (by simpa using hb)
  have hVR : VRels (fun _ => none) (fun b _ => b < W.heap.size) W [.agg x.row] #[.agg cs] := by
    refine ⟨rfl, fun i v u h1 h2 => ?_⟩
    cases i with
    | zero =>
      simp at h1 h2; subst h1; subst h2
      refine .agg (by have := hr.1; simpa [Value.cells] using this.symm) fun i v u h1 h2 => hr.2.2 i v u h1 (by simpa [Value.cells] using h2)
    | succ i => simp at h1
  have hcall := RunV.calls (P := Tryz.prog) (f := 3) (by kernel_rfl) (top x rfl) hVR
  refine hcall.mono fun e W' ⟨he, hB⟩ => ⟨_, he, ?_⟩
  have ht : ∀ t ∈ Tryz.f3.params.toList, Tryz.prog.readableRec t = true ∧ t < Tryz.prog.types.size := by
    rw [Tryz.params3]
    intro t ht
    obtain rfl : t = 32 := by simpa using ht
    exact ⟨by kernel_rfl, of_decide_eq_true (by kernel_rfl)⟩
  exact post_true (f := Tryz.f3) (tb := 4) (by kernel_rfl) rfl rfl Tryz.underlying4 ht hW' ⟨rfl, rfl, rfl⟩ hB
theorem own : ownKnob Tryz.prog.godebug = none := by kernel_rfl
set_option maxRecDepth 100000 in
theorem lifted (os : Os) (started : os.Started) (H : Type) (enc : TypeId × Value → H) (F : Stop.Interp) :
    ReturnsInHanded {} Tryz.checked os 3 .any ((Rows.OpenSpec.upto Rows.topAnewScanSpec).pre6 enc Tryz.prog Tryz.f3 Rows.topAnewScanUptoRow.domain false) (((Rows.OpenSpec.upto Rows.topAnewScanSpec).at F).post enc Tryz.prog Tryz.f3 false true false false) := by
  refine returnsInHanded_of_cond (C := Tryz.checked) (s := Rows.OpenSpec.upto Rows.topAnewScanSpec) (k := Rows.uptoSmall) rfl own started (by kernel_rfl) Tryz.func3
    (OpenSpec.witness (enc := enc) (C := Tryz.checked) (s := Rows.OpenSpec.upto Rows.topAnewScanSpec) (k := Rows.uptoSmall) rfl false ⟨#[], #[((Tryz.prog.info? 32).bind (·.zero)).getD default], []⟩ 8 (by kernel_rfl) (by kernel_rfl) (by kernel_rfl)
      (x := ((DataW.whole enc Tryz.prog (World.plainHolding Tryz.prog os ⟨#[], #[((Tryz.prog.info? 32).bind (·.zero)).getD default], []⟩).memory Tryz.f3.params.toList [] false [((Tryz.prog.info? 32).bind (·.zero)).getD default] 8).getD default)) (by kernel_rfl) rfl (by kernel_rfl)) ?_
  intro W base args ds gs before hval hW _ hk _
  exact contract H enc W base args ds gs before hval hW hk
theorem proved : Rows.TopAnewScanUptoSaid :=
  OpenClaim.holds_of_cond 3 Tryz.f3 rfl rfl rfl rfl rfl rfl rfl ⟨rfl, rfl, rfl, rfl, rfl⟩ rfl rfl rfl rfl rfl (by kernel_rfl) Tryz.func3 (by kernel_rfl)
    (of_decide_eq_true (by kernel_rfl)) (by unfold Func.isWrapper; first | (rw [if_pos (by decide +kernel)]; kernel_rfl) | (rw [if_neg (by decide +kernel)]; exact ⟨rfl, rfl⟩))
    (fun os started H enc _ F => lifted os started H enc F)
end Go.Proofs.YtkfahdbjndihfabGreat
