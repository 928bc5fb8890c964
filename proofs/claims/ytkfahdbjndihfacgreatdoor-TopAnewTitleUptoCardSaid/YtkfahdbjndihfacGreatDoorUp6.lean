/- Proved here: for every argument of bulk at most 1048576 TopAnewTitle answers true and leaves its argument as it was. (part 6 of 6.) -/
import Derived.Test.YtkfahdbjndihfacGreatDoorUp5
import Derived.Test.YtkfahdbjndihfacGreatDoorCards
import Derived.Test.YtkfahdbjndihfacGreatDoorTie
import Derived.JoinedCond
import Derived.WalkKit
import Derived.ProofKit
import Derived.OpenShut
import Derived.Deep.DeepHandedRow
import Derived.Deep.DeepLaidRun
import Derived.SevenTiedAt
set_option linter.unusedSimpArgs false
set_option linter.unusedVariables false
set_option linter.unnecessarySimpa false
namespace Go.Proofs.YtkfahdbjndihfacGreatDoor
open Go.Tc
set_option linter.unusedSimpArgs false
set_option linter.unusedVariables false
set_option maxRecDepth 20000
set_option maxHeartbeats 1000000
def rU (x : Int) : List AVal := [.int .u8 x]
theorem rU_eq {x : Int} : rU x = [.int .u8 x] := id rfl
theorem st_rU {l : List Int} {i : Nat} {x : Int} (h : i < l.length) : storeO (some (.cells 1 (l.map rU))) 1 i 0 (.int .u8 x) = some (.cells 1 ((l.set i x).map rU)) := storeO_map x h rfl rfl (fun _ => rfl) rfl
theorem rep_rU {n : Nat} : List.replicate n [AVal.int .u8 0] = (List.replicate n (0 : Int)).map rU := by rw [List.map_replicate]; rfl
def FR.rows (x : FR) : Int := x.ln * (x.high + x.ld) - x.ld
structure Pg where
  N : Nat
  l : List Int
  deriving Inhabited
def Pg.row (x : FR) (p : Pg) : List AVal := [.int .i64 x.ms, .int .i64 x.rows, .ms 1 p.N 0 p.l.length true]
theorem Pg.row_eq {x : FR} {p : Pg} : p.row x = [.int .i64 x.ms, .int .i64 x.rows, .ms 1 p.N 0 p.l.length true] := id rfl
structure PgM (x : FR) (c : Nat) (u : AVal) (ps : List Pg) (X : Nat → Prop) (t : AHeap) : Prop where
  own : OwnS t c 3 (Pg.row x) u ps
  pg : ∀ p ∈ ps, c ≤ p.N ∧ p.N < t.next ∧ t.objs p.N = some (.cells 1 (p.l.map rU)) ∧ (p.l.length : Int) = x.ms * x.rows ∧ Off u p.N
  dis : ∀ i j, i < j → j < ps.length → (ps.getD i default).N ≠ (ps.getD j default).N
  off : ∀ M, X M → Off u M ∧ ∀ p ∈ ps, p.N ≠ M
theorem PgM.upd {x : FR} {c : Nat} {u : AVal} {ps : List Pg} {X X' : Nat → Prop} {t t' : AHeap} (h : PgM x c u ps X t) (hn : t.next ≤ t'.next) (hk : ∀ M, c ≤ M → M < t.next → ¬ X M → t'.objs M = t.objs M) (hX : ∀ M, X' M → X M ∨ t.next ≤ M) : PgM x c u ps X' t' := by
  obtain ⟨h1, h2, h3, h4⟩ := h
  refine ⟨h1.keep hn fun K k1 k2 k3 => hk K k1 k2 fun hx => k3 (h4 K hx).1, fun p hp => ?_, h3, fun M hM => ?_⟩
  · obtain ⟨k1, k2, k3, k4, k5⟩ := h2 p hp
    exact ⟨k1, by omega, (hk _ k1 k2 fun hx => (h4 _ hx).2 p hp rfl).trans k3, k4, k5⟩
  · rcases hX M hM with h | h
    · exact h4 M h
    · exact ⟨h1.off_new h, fun p hp => by have := (h2 p hp).2.1; omega⟩
theorem PgM.put {x : FR} {c : Nat} {u : AVal} {ps : List Pg} {X : Nat → Prop} {t : AHeap} (h : PgM x c u ps X t) {i : Nat} (hi : i < ps.length) {l' : List Int} (hl : l'.length = (ps.getD i default).l.length) :
    PgM x c u (ps.set i ⟨(ps.getD i default).N, l'⟩) X (t.set (ps.getD i default).N (.cells 1 (l'.map rU))) := by
  obtain ⟨h1, h2, h3, h4⟩ := h
  have hm := getD_mem (l := ps) hi
  obtain ⟨k1, k2, k3, k4, k5⟩ := h2 _ hm
  have hrow : (ps.set i ⟨(ps.getD i default).N, l'⟩).map (Pg.row x) = ps.map (Pg.row x) := by
    rw [List.map_set]
    apply List.ext_getElem?
    intro j
    rw [List.getElem?_set]
    split
    · rename_i he
      subst he
      rw [if_pos (by simp; exact hi), List.getElem?_map, List.getElem?_eq_getElem hi]
      simp only [Pg.row, hl, Option.map_some]
      simp [hi]
    · rfl
  have hN : ∀ j, j < ps.length → ((ps.set i ⟨(ps.getD i default).N, l'⟩).getD j default).N = (ps.getD j default).N := fun j hj => by
    by_cases hij : i = j
    · subst hij; rw [set_at hi]
    · rw [set_off hij]
  have hmem : ∀ p ∈ ps.set i ⟨(ps.getD i default).N, l'⟩, (∃ q ∈ ps, p = q ∧ q.N ≠ (ps.getD i default).N) ∨ p = ⟨(ps.getD i default).N, l'⟩ := fun p hp => by
    obtain ⟨j, hj, rfl⟩ := List.getElem_of_mem hp
    rw [List.length_set] at hj
    by_cases hij : i = j
    · subst hij; right; simp
    · left
      refine ⟨ps[j], List.getElem_mem _, by simp [List.getElem_set, hij], ?_⟩
      have e : ps[j] = ps.getD j default := by simp [hj]
      rw [e]
      rcases Nat.lt_or_gt_of_ne hij with h | h
      · exact (h3 i j h hj).symm
      · exact h3 j i h hi
  refine ⟨?_, fun p hp => ?_, fun a b hab hb => ?_, fun M hM => ⟨(h4 M hM).1, fun p hp => ?_⟩⟩
  · rcases h1 with ⟨rfl, rfl⟩ | ⟨N, ex, rfl, q1, q2, q3⟩
    · simp at hi
    · refine .inr ⟨N, ex, by rw [List.length_set], q1, q2, ?_⟩
      rw [objs_else (fun e => k5 _ _ _ _ (by rw [e])), q3, hrow]
  · rcases hmem p hp with ⟨q, hq, rfl, hne⟩ | rfl
    · obtain ⟨r1, r2, r3, r4, r5⟩ := h2 _ hq
      exact ⟨r1, r2, by rw [objs_else hne]; exact r3, r4, r5⟩
    · exact ⟨k1, k2, objs_here, by dsimp only; rw [hl]; exact k4, k5⟩
  · rw [List.length_set] at hb
    rw [hN a (by omega), hN b hb]
    exact h3 a b hab hb
  · rcases hmem p hp with ⟨q, hq, rfl, hne⟩ | rfl
    · exact (h4 M hM).2 _ hq
    · show (ps.getD i default).N ≠ M
      exact (h4 M hM).2 (ps.getD i default) hm
theorem PgM.app {x : FR} {c : Nat} {u : AVal} {ps : List Pg} {X : Nat → Prop} {t : AHeap} (h : PgM x c u ps X t) (hc : c ≤ t.next) (hl : ps.length ≤ 1000) (hX : ∀ M, X M → M < t.next) {n : Nat} (hn : (n : Int) = x.ms * x.rows) :
    ∃ u' t', appA ((t.alloc (.cells 1 ((List.replicate n (0 : Int)).map rU))).alloc (.cells 3 [[.int .i64 x.ms, .int .i64 x.rows, .ms 1 t.next 0 n true]])) 3 40 u (.ms 3 (t.next + 1) 0 1 true) = some (u', t') ∧ PgM x c u' (ps ++ [⟨t.next, List.replicate n 0⟩]) X t' ∧ t.next + 2 ≤ t'.next ∧ ∀ M, M < t.next → Off u M → t'.objs M = t.objs M := by
  obtain ⟨h1, h2, h3, h4⟩ := h
  obtain ⟨u', t', ha, r1, r2, r3, r4⟩ := (h1.alloc (.cells 1 ((List.replicate n (0 : Int)).map rU))).lit (x := ⟨t.next, List.replicate n 0⟩) (bytes := 40) (ex := true) (row := [.int .i64 x.ms, .int .i64 x.rows, .ms 1 t.next 0 n true]) (by simp [Pg.row]) (by simp only [VAL]; omega) (sumLen_ok (by omega) (by omega))
  rw [AHeap.next_alloc] at ha r2
  have k3 : ∀ M, M < t.next → Off u M → t'.objs M = t.objs M := fun M hM ho => by rw [r3 M (by simp only [VAL]; omega) ho, objs_old (by omega)]
  have k3' : t'.objs t.next = some (.cells 1 ((List.replicate n (0 : Int)).map rU)) := by rw [r3 t.next (by simp only [VAL]; omega) (h1.off_new (Nat.le_refl _)), objs_new rfl]
  refine ⟨u', t', ha, ⟨r1, fun p hp => ?_, fun i j hij hj => ?_, fun M hM => ⟨?_, fun p hp => ?_⟩⟩, by omega, k3⟩
  · rcases List.mem_append.1 hp with hp | hp
    · obtain ⟨q1, q2, q3, q4, q5⟩ := h2 p hp
      exact ⟨q1, by omega, (k3 _ q2 q5).trans q3, q4, r4 _ (by simp only [VAL]; omega) q5⟩
    · rw [List.mem_singleton] at hp
      subst hp
      exact ⟨hc, by dsimp only; omega, k3', by simp; exact hn, r4 _ (by simp only [VAL]; omega) (h1.off_new (Nat.le_refl _))⟩
  · simp only [List.length_append, List.length_singleton] at hj
    have e1 : (ps ++ [(⟨t.next, List.replicate n 0⟩ : Pg)]).getD i default = ps.getD i default := by
      rw [List.getD_eq_getElem?_getD, List.getElem?_append_left (by omega), ← List.getD_eq_getElem?_getD]
    rw [e1]
    by_cases hjl : j < ps.length
    · rw [show (ps ++ [(⟨t.next, List.replicate n 0⟩ : Pg)]).getD j default = ps.getD j default by rw [List.getD_eq_getElem?_getD, List.getElem?_append_left hjl, ← List.getD_eq_getElem?_getD]]
      exact h3 i j hij hjl
    · have : j = ps.length := by omega
      subst this
      rw [show (ps ++ [(⟨t.next, List.replicate n 0⟩ : Pg)]).getD ps.length default = ⟨t.next, List.replicate n 0⟩ by simp]
      have := (h2 _ (getD_mem (l := ps) (j := i) hij)).2.1
      dsimp only
      omega
  · exact r4 M (by have := hX M hM; simp only [VAL]; omega) (h4 M hM).1
  · rcases List.mem_append.1 hp with hp | hp
    · exact (h4 M hM).2 p hp
    · rw [List.mem_singleton] at hp
      subst hp
      have := hX M hM
      dsimp only
      omega
structure Bd (x : FR) (c T6 : Nat) (X : Nat → Prop) (t1 : AHeap) (ps : List Pg) (u : AVal) (t : AHeap) : Prop where
  keep : ∀ M, (M < c ∧ M ≠ T6) ∨ X M → t.objs M = t1.objs M
  nx : t1.next ≤ t.next
  h6 : t.objs T6 = some (.cells 1 [[u]])
  pm : PgM x c u ps X t
  lt : c ≤ t1.next ∧ T6 < c ∧ ∀ M, X M → c ≤ M ∧ M < t1.next
theorem Bd.more {x : FR} {c T6 : Nat} {X : Nat → Prop} {t1 : AHeap} {ps : List Pg} {u : AVal} {t t' : AHeap} (h : Bd x c T6 X t1 ps u t) (hE : Ext t t') : Bd x c T6 (GrowX X t t') t' ps u t' := by
  obtain ⟨h1, h2, h3, h4, h5, h6, h7⟩ := h
  have := hE.1
  refine ⟨fun _ _ => rfl, Nat.le_refl _, (hE.2 _ (by omega)).trans h3, h4.upd hE.1 (fun M _ hM _ => hE.2 M hM) (fun M hM => ?_), by omega, h6, fun M hM => ?_⟩
  · rcases hM with h | h
    · exact .inl h
    · exact .inr h.1
  · rcases hM with h | h
    · have := h7 M h; omega
    · omega
theorem Bd.less {x : FR} {c T6 : Nat} {X : Nat → Prop} {t1 : AHeap} {ps ps' : List Pg} {u u' : AVal} {t t' v : AHeap} (h : Bd x c T6 X t1 ps u t) (hE : Ext t t') (k : Bd x c T6 (GrowX X t t') t' ps' u' v) : Bd x c T6 X t1 ps' u' v := by
  obtain ⟨h1, h2, h3, h4, h5, h6, h7⟩ := h
  obtain ⟨k1, k2, k3, k4, k5, k6, k7⟩ := k
  have := hE.1
  refine ⟨fun M hM => ?_, by omega, k3, k4.upd (Nat.le_refl _) (fun _ _ _ _ => rfl) (fun M hM => .inl (.inl hM)), h5, h6, h7⟩
  rw [k1 M (by rcases hM with h | h; exact .inl h; exact .inr (.inl h)), hE.2 M (by rcases hM with h | h; omega; (have := h7 M h; omega)), h1 M hM]
theorem Bd.put {x : FR} {c T6 : Nat} {X : Nat → Prop} {t1 : AHeap} {ps : List Pg} {u : AVal} {t : AHeap} (h : Bd x c T6 X t1 ps u t) {i : Nat} (hi : i < ps.length) {l' : List Int} (hl : l'.length = (ps.getD i default).l.length) :
    Bd x c T6 X t1 (ps.set i ⟨(ps.getD i default).N, l'⟩) u (t.set (ps.getD i default).N (.cells 1 (l'.map rU))) := by
  obtain ⟨h1, h2, h3, h4, h5, h6, h7⟩ := h
  have hm := getD_mem (l := ps) hi
  have hp := h4.pg _ hm
  refine ⟨fun M hM => ?_, h2, by rw [objs_else (by omega)]; exact h3, h4.put hi hl, h5, h6, h7⟩
  rw [objs_else]
  · exact h1 M hM
  · rcases hM with h | h
    · omega
    · exact fun e => (h4.off M h).2 _ hm e.symm
end Go.Proofs.YtkfahdbjndihfacGreatDoor
namespace Go.Proofs.YtkfahdbjndihfacGreatDoor
open Go.Tc
set_option linter.unusedSimpArgs false
set_option linter.unusedVariables false
set_option maxRecDepth 20000
set_option maxHeartbeats 4000000
def PC (x : FR) (rl : List Rs) (k len : Nat) : Prop := (k = 0 ∧ len = 0) ∨ ∃ n : Nat, 1 ≤ k ∧ ix rl n ≤ k - 1 ∧ k - 1 < ix rl (n + 1) ∧ n ≤ 40 ∧ (len : Int) = (n : Int).tdiv x.ln + 1
structure PgI (x : FR) (wv : AVal) (ws : List Wd) (rl : List Rs) (σ : AHeap) (a b NS T6 T8 : Nat) (k : Nat) (X : Nat → Prop) (t : AHeap) : Prop where
  ext : Ext σ t
  pm : ∃ u ps, t.objs T6 = some (.cells 1 [[u]]) ∧ PgM x (T8 + 3) u ps X t ∧ PC x rl k ps.length
  h7 : t.objs (T6 + 1) = some (.cells 1 [[.int .i64 0]])
  h8 : t.objs T8 = some (.cells 1 [[.ptr NS 0 0]])
  hC : t.objs (T8 + 1) = some (.cells 1 [[.ptr NS 0 0]])
  sht : Sht x wv ws rl a b NS t
  ord : σ.next ≤ T6 ∧ T6 + 2 ≤ a ∧ a ≤ b ∧ b ≤ T8 ∧ T8 + 3 ≤ t.next
  xs : ∀ M, X M → T8 + 3 ≤ M ∧ M < t.next
theorem PgI.upd {x : FR} {wv : AVal} {ws : List Wd} {rl : List Rs} {σ : AHeap} {a b NS T6 T8 k : Nat} {X X' : Nat → Prop} {t t' : AHeap} (h : PgI x wv ws rl σ a b NS T6 T8 k X t) (hn : t.next ≤ t'.next) (hk : ∀ M, M < t.next → M ≠ T8 + 2 → ¬ X M → t'.objs M = t.objs M)
    (hX : ∀ M, X' M → (X M ∨ t.next ≤ M) ∧ M < t'.next) : PgI x wv ws rl σ a b NS T6 T8 k X' t' := by
  obtain ⟨h1, ⟨u, ps, h2, h3, h4⟩, h5, h6, h7, h8, h9, h10⟩ := h
  have := h1.1
  have kk : ∀ M, M < T8 + 2 → t'.objs M = t.objs M := fun M hM => hk M (by omega) (by omega) fun hx => by have := h10 M hx; omega
  refine ⟨⟨by omega, fun M hM => (kk M (by omega)).trans (h1.2 M hM)⟩, ⟨u, ps, (kk _ (by omega)).trans h2, h3.upd hn (fun M k1 k2 k3 => hk M k2 (by omega) k3) (fun M hM => (hX M hM).1), h4⟩, (kk _ (by omega)).trans h5, (kk _ (by omega)).trans h6, (kk _ (by omega)).trans h7, h8.keep hn fun M k1 k2 => kk M (by omega), by omega, fun M hM => ?_⟩
  obtain ⟨k1, k2⟩ := hX M hM
  rcases k1 with k1 | k1
  · have := h10 M k1; omega
  · omega
theorem PgI.loose {x : FR} {wv : AVal} {ws : List Wd} {rl : List Rs} {σ : AHeap} {a b NS T6 T8 : Nat} (k : Nat) : Loose (PgI x wv ws rl σ a b NS T6 T8 k) := by
  refine ⟨fun X s s' h hE => h.upd hE.1 (fun M hM _ _ => hE.2 M hM) (fun M hM => ?_), fun X s M o hM h => h.upd (Nat.le_refl _) (fun N hN _ hx => objs_else (fun e => hx (e ▸ hM))) (fun N hN => ⟨.inl hN, (h.xs N hN).2⟩), fun X s M hM h => h.upd (Nat.le_refl _) (fun N hN _ hx => by rw [AHeap.objs_kill, if_neg (by rintro rfl; exact hx hM)]) (fun N hN => ⟨.inl hN, (h.xs N hN).2⟩)⟩
  have := hE.1
  rcases hM with h' | h'
  · exact ⟨.inl h', by have := h.xs M h'; omega⟩
  · exact ⟨.inr h'.1, h'.2⟩
theorem PgI.step {x : FR} {wv : AVal} {ws : List Wd} {rl : List Rs} {σ : AHeap} {a b NS T6 T8 k : Nat} {X X' : Nat → Prop} {t t1 v : AHeap} {ps : List Pg} {u : AVal} (h : PgI x wv ws rl σ a b NS T6 T8 k X t) (h1 : ∀ M, M < t.next → M ≠ T8 + 2 → t1.objs M = t.objs M) (h2 : t.next ≤ t1.next) (hb : Bd x (T8 + 3) T6 X' t1 ps u v) (hX : ∀ M, X M → X' M)
    (hp : PC x rl (k + 1) ps.length) (lo : ALoop) : KeepX X t (v.set (T8 + 2) (.loop lo)) ∧ PgI x wv ws rl σ a b NS T6 T8 (k + 1) X (v.set (T8 + 2) (.loop lo)) := by
  obtain ⟨g1, -, g5, g6, g7, g8, g9, g10⟩ := h
  have := g1.1
  have hn := hb.nx
  have kk : ∀ M, M < T8 + 2 → M ≠ T6 → (v.set (T8 + 2) (.loop lo)).objs M = t.objs M := fun M hM hne => by
    rw [objs_else (by omega), hb.keep M (.inl ⟨by omega, hne⟩), h1 M (by omega) (by omega)]
  refine ⟨⟨fun M hM => ?_, by simp only [AHeap.next_set]; omega⟩, ⟨⟨by simp only [AHeap.next_set]; omega, fun M hM => (kk M (by omega) (by omega)).trans (g1.2 M hM)⟩, ⟨u, ps, by rw [objs_else (by omega)]; exact hb.h6, hb.pm.upd (Nat.le_refl _) (fun M k1 _ _ => objs_else (by omega)) (fun M hM => .inl (hX M hM)), hp⟩, (kk _ (by omega) (by omega)).trans g5, (kk _ (by omega) (by omega)).trans g6, (kk _ (by omega) (by omega)).trans g7, g8.keep (by simp only [AHeap.next_set]; omega) fun M k1 k2 => kk M (by omega) (by omega), by simp only [AHeap.next_set]; omega, fun M hM => ?_⟩⟩
  · have := g10 M hM
    rw [objs_else (by omega), hb.keep M (.inr (hX M hM)), h1 M (by omega) (by omega)]
  · have := g10 M hM
    simp only [AHeap.next_set]; omega
theorem PC.next {x : FR} {wv : AVal} {ws : List Wd} {rl : List Rs} (hL : Lns x wv ws rl) {k len n : Nat} (h : PC x rl k len) (h1 : ix rl n ≤ k) (h2 : k < ix rl (n + 1)) (h3 : k < ws.length) (h4 : n ≤ 40) : 0 ≤ (n : Int).tdiv x.ln ∧ ((n : Int).tdiv x.ln = len ∨ (len : Int) = (n : Int).tdiv x.ln + 1) := by
  have hln := hL.rok.ln
  have k0 : ∀ m : Nat, (m : Int).tdiv x.ln = (m : Int) / x.ln := fun m => Int.tdiv_eq_ediv_of_nonneg (by omega)
  have hpos : 0 ≤ (n : Int).tdiv x.ln := Int.tdiv_nonneg (by omega) (by omega)
  refine ⟨hpos, ?_⟩
  rcases h with ⟨rfl, rfl⟩ | ⟨n', g1, g2, g3, g4, g5⟩
  · left
    have : n = 0 := by
      apply Classical.byContradiction
      intro hn
      have m1 := ix_mono hL (i := 0 + 1) (j := n) (by omega)
      have m2 := (ix_step hL.f hL.l (n := 0) (by show 0 < _; omega)).2.1
      have m3 : ix rl 0 = 0 := rfl
      omega
    subst this
    simp
  · have a1 : n' ≤ n := by
      apply Classical.byContradiction
      intro hn
      have := ix_mono hL (i := n + 1) (j := n') (by omega)
      omega
    have a2 : n ≤ n' + 1 := by
      apply Classical.byContradiction
      intro hn
      have m1 := ix_mono hL (i := n' + 1 + 1) (j := n) (by omega)
      have m2 := ix_mono hL (i := n' + 1) (j := n' + 1 + 1) (by omega)
      have m3 := (ix_step hL.f hL.l (n := n' + 1) (by omega)).2.1
      omega
    have b1 : (n' : Int) / x.ln ≤ (n : Int) / x.ln := Int.ediv_le_ediv (by omega) (by omega)
    have b2 : (n : Int) / x.ln ≤ ((n' : Int) + 1 * x.ln) / x.ln := Int.ediv_le_ediv (by omega) (by omega)
    rw [Int.add_mul_ediv_right _ _ (by omega)] at b2
    rw [k0] at g5 ⊢
    omega
theorem res29 {env : AEnv} {σ : AHeap} {T6 T7 : Nat} {u : AVal} {e : Int} (h6 : env.t 6 = .ptr T6 0 0) (h7 : env.t 7 = .ptr T7 0 0) (o6 : σ.objs T6 = some (.cells 1 [[u]])) (o7 : σ.objs T7 = some (.cells 1 [[.int .i64 e]])) : resAs env σ [.cell 6 false 1, .cell 7 false 1] = some [u, .int .i64 e] := by
  simp only [resAs, h6, h7, ld1 o6, ld1 o7]; rfl
theorem s61r {s : AHeap} {x : FR} {a b N : Nat} (hS : Stt x a b N s) (hh : 1 ≤ x.high ∧ x.high ≤ 16) (hl : 1 ≤ x.ln ∧ x.ln ≤ 12) (hd : 0 ≤ x.ld ∧ x.ld ≤ 10) {Q : AOut → AHeap → Prop} (hQ : Q (.ret (.int .i64 x.rows)) s) :
    RunV Tryz.prog (.func (.func 61) [] []) [.ptr N 0 0] s Q := s61 hS hh hl hd hQ
theorem rows_pos {x : FR} (hok : x.ok) (hrok : x.rok) : 1 ≤ x.rows ∧ x.rows ≤ 48 ∧ x.ms * x.rows ≤ 48 * 48 ∧ 1 ≤ x.ms * x.rows := by
  have h1 := hrok.ln
  have h2 := hrok.ld
  have h3 := hok.hi
  have h5 := hrok.ms
  have h4 : 1 * (x.high + x.ld) ≤ x.ln * (x.high + x.ld) := Int.mul_le_mul_of_nonneg_right h1.1 (by omega)
  have h6 : x.rows = x.ln * (x.high + x.ld) - x.ld := rfl
  have h7 : x.rows ≤ 48 := hrok.rows
  have h8 : 1 ≤ x.rows := by omega
  exact ⟨h8, h7, Int.mul_le_mul h5.2 h7 (by omega) (by omega), by have := Int.mul_le_mul h5.1 h8 (by omega) (by omega); omega⟩
theorem px_in {x : FR} (hok : x.ok) (hrok : x.rok) {line y : Int} (h0 : 0 ≤ line) (h1 : line < x.ln) (h2 : 0 ≤ y) (h3 : y < x.high) :
    (0 ≤ line * (x.high + x.ld) ∧ line * (x.high + x.ld) ≤ 312) ∧ (0 ≤ (line * (x.high + x.ld) + y) * x.ms ∧ (line * (x.high + x.ld) + y) * x.ms ≤ 20000) ∧ (line * (x.high + x.ld) + y) * x.ms + x.ms ≤ x.ms * x.rows := by
  have a1 := hrok.ln
  have a2 := hrok.ld
  have a3 := hok.hi
  have a5 := hrok.ms
  have b0 : 0 ≤ line * (x.high + x.ld) := Int.mul_nonneg h0 (by omega)
  have b1 : line * (x.high + x.ld) ≤ 12 * 26 := Int.mul_le_mul (by omega) (by omega) (by omega) (by omega)
  have b2 : (line + 1) * (x.high + x.ld) ≤ x.ln * (x.high + x.ld) := Int.mul_le_mul_of_nonneg_right (by omega) (by omega)
  have b3 : (line + 1) * (x.high + x.ld) = line * (x.high + x.ld) + (x.high + x.ld) := by rw [Int.add_mul, Int.one_mul]
  have b4 : x.rows = x.ln * (x.high + x.ld) - x.ld := rfl
  have b5 : line * (x.high + x.ld) + y + 1 ≤ x.rows := by omega
  have b6 : (line * (x.high + x.ld) + y + 1) * x.ms ≤ x.rows * x.ms := Int.mul_le_mul_of_nonneg_right b5 (by omega)
  have b7 : (line * (x.high + x.ld) + y + 1) * x.ms = (line * (x.high + x.ld) + y) * x.ms + x.ms := by rw [Int.add_mul, Int.one_mul]
  have b8 : 0 ≤ (line * (x.high + x.ld) + y) * x.ms := Int.mul_nonneg (by omega) (by omega)
  have b9 : (line * (x.high + x.ld) + y) * x.ms ≤ 330 * 48 := Int.mul_le_mul (by omega) (by omega) (by omega) (by omega)
  have b10 : x.rows * x.ms = x.ms * x.rows := Int.mul_comm _ _
  exact ⟨⟨b0, by omega⟩, ⟨b8, by omega⟩, by omega⟩
def b29_6 : ACode := .seq (.ops [
       ⟨(some 133), .bin .lss .int (.t 132) (.t 131), none, []⟩])
     (.seq (.cond (.t 133)
      (.skip)
      (.exit 6))
     (.seq (.block 7 (.seq (.ops [
       ⟨(some 134), .mv (.t 132), none, []⟩,
       ⟨(some 17), .mv (.t 134), none, []⟩])
     (.seq (.ops [
       ⟨(some 135), .mv (.t 15), none, []⟩,
       ⟨(some 136), .fa 1 (.t 13), none, []⟩,
       ⟨(some 137), .load false 1 (.t 136), none, []⟩,
       ⟨(some 138), .bin .sub .int (.t 137) (.c (.int .i64 1)), none, []⟩,
       ⟨(some 139), .mv (.t 17), none, []⟩,
       ⟨(some 140), .bin .sub .int (.t 138) (.t 139), none, []⟩,
       ⟨(some 141), .bin .shr .int (.t 135) (.t 140), none, []⟩,
       ⟨(some 142), .bin .and .int (.t 141) (.c (.int .i64 1)), none, []⟩,
       ⟨(some 143), .bin .eql .int (.t 142) (.c (.int .i64 1)), none, []⟩])
     (.cond (.t 143)
      (.dr [
        ⟨(some 144), .load false 1 (.t 6), none, []⟩,
        ⟨(some 145), .fa 0 (.t 10), none, []⟩,
        ⟨(some 146), .load false 1 (.t 145), none, [1]⟩,
        ⟨(some 147), .ixS 3 (.t 144) (.t 146), none, [0, 2]⟩,
        ⟨(some 148), .fa 2 (.t 147), none, [3]⟩,
        ⟨(some 149), .load false 1 (.t 148), none, [4]⟩,
        ⟨(some 150), .mv (.t 16), none, []⟩,
        ⟨(some 151), .mv (.t 17), none, []⟩,
        ⟨(some 152), .bin .add .int (.t 150) (.t 151), none, [6, 7]⟩,
        ⟨(some 153), .load false 1 (.t 8), none, []⟩,
        ⟨(some 154), .nilck (.t 153), none, [9]⟩,
        ⟨(some 155), .fa 0 (.t 154), none, [10]⟩,
        ⟨(some 156), .load false 1 (.t 155), none, [11]⟩,
        ⟨(some 157), .nilck (.t 156), none, [12]⟩,
        ⟨(some 158), .fa 4 (.t 157), none, [13]⟩,
        ⟨(some 159), .fa 5 (.t 158), none, [14]⟩,
        ⟨(some 160), .load false 1 (.t 159), none, [15]⟩,
        ⟨(some 161), .conv (.int .u8) (.t 160), none, [16]⟩,
        ⟨(some 162), .ixS 1 (.t 149) (.t 152), none, [5, 8, 0, 1, 2, 3, 4, 5, 6, 7, 8, 9, 10, 11, 12, 13, 14, 15, 16, 17]⟩,
        ⟨none, .store 1 (.t 162) (.t 161), none, [18, 17, 0, 1, 2, 3, 4, 5, 6, 7, 8, 9, 10, 11, 12, 13, 14, 15, 16, 17]⟩])
      (.skip)))))
     (.ops [
       ⟨(some 163), .bin .add .int (.t 132) (.c (.int .i64 1)), none, []⟩,
       ⟨(some 132), .mv (.t 163), none, []⟩])))
def b29_4 : ACode := .seq (.ops [
      ⟨(some 86), .bin .lss .int (.t 85) (.t 84), none, []⟩])
    (.seq (.cond (.t 86)
     (.skip)
     (.exit 4))
    (.seq (.block 5 (.seq (.ops [
      ⟨(some 87), .mv (.t 85), none, []⟩,
      ⟨(some 88), .ixS 1 (.t 83) (.t 85), none, []⟩,
      ⟨(some 89), .load false 1 (.t 88), none, []⟩,
      ⟨(some 14), .mv (.t 87), none, []⟩,
      ⟨(some 15), .mv (.t 89), none, []⟩])
    (.seq (.dr [
      ⟨(some 90), .fa 1 (.t 10), none, []⟩,
      ⟨(some 91), .load false 1 (.t 90), none, [0]⟩,
      ⟨(some 92), .load false 1 (.t 8), none, []⟩,
      ⟨(some 93), .nilck (.t 92), none, [2]⟩,
      ⟨(some 94), .fa 0 (.t 93), none, [3]⟩,
      ⟨(some 95), .load false 1 (.t 94), none, [4]⟩,
      ⟨(some 96), .nilck (.t 95), none, [5]⟩,
      ⟨(some 97), .fa 0 (.t 96), none, [6]⟩,
      ⟨(some 98), .fa 0 (.t 97), none, [7]⟩,
      ⟨(some 99), .load false 1 (.t 98), none, [8]⟩,
      ⟨(some 100), .load false 1 (.t 8), none, []⟩,
      ⟨(some 101), .nilck (.t 100), none, [10]⟩,
      ⟨(some 102), .fa 0 (.t 101), none, [11]⟩,
      ⟨(some 103), .load false 1 (.t 102), none, [12]⟩,
      ⟨(some 104), .nilck (.t 103), none, [13]⟩,
      ⟨(some 105), .fa 4 (.t 104), none, [14]⟩,
      ⟨(some 106), .fa 2 (.t 105), none, [15]⟩,
      ⟨(some 107), .load false 1 (.t 106), none, [16]⟩,
      ⟨(some 108), .bin .add .int (.t 99) (.t 107), none, [9, 17]⟩,
      ⟨(some 109), .bin .mul .int (.t 91) (.t 108), none, [1, 18]⟩,
      ⟨(some 110), .mv (.t 14), none, []⟩,
      ⟨(some 111), .bin .add .int (.t 109) (.t 110), none, [19, 20]⟩,
      ⟨(some 112), .load false 1 (.t 8), none, []⟩,
      ⟨(some 113), .nilck (.t 112), none, [22]⟩,
      ⟨(some 114), .fa 0 (.t 113), none, [23]⟩,
      ⟨(some 115), .load false 1 (.t 114), none, [24]⟩,
      ⟨(some 116), .nilck (.t 115), none, [25]⟩,
      ⟨(some 117), .fa 4 (.t 116), none, [26]⟩,
      ⟨(some 118), .fa 0 (.t 117), none, [27]⟩,
      ⟨(some 119), .load false 1 (.t 118), none, [28]⟩,
      ⟨(some 120), .bin .mul .int (.t 111) (.t 119), none, [21, 29]⟩,
      ⟨(some 121), .fa 2 (.t 10), none, []⟩,
      ⟨(some 122), .load false 1 (.t 121), none, [31]⟩,
      ⟨(some 123), .bin .add .int (.t 120) (.t 122), none, [30, 32]⟩,
      ⟨(some 124), .fa 2 (.t 9), none, []⟩,
      ⟨(some 125), .load false 1 (.t 124), none, [34]⟩,
      ⟨(some 126), .mv (.t 11), none, []⟩,
      ⟨(some 127), .ixS 1 (.t 125) (.t 126), none, [35, 36]⟩,
      ⟨(some 128), .load false 1 (.t 127), none, [37]⟩,
      ⟨(some 129), .bin .add .int (.t 123) (.t 128), none, [33, 38]⟩,
      ⟨(some 16), .mv (.t 129), none, [39, 0, 1, 2, 3, 4, 5, 6, 7, 8, 9, 10, 11, 12, 13, 14, 15, 16, 17, 18, 19, 20, 21, 22, 23, 24, 25, 26, 27, 28, 29, 30, 31, 32, 33, 34, 35, 36, 37, 38, 39]⟩])
    (.seq (.ops [
      ⟨(some 130), .fa 1 (.t 13), none, []⟩,
      ⟨(some 131), .load false 1 (.t 130), none, []⟩,
      ⟨(some 132), .mv (.c (.int .i64 0)), none, []⟩])
    (.block 6 (.loop b29_6))))))
    (.ops [
      ⟨(some 164), .bin .add .int (.t 85) (.c (.int .i64 1)), none, []⟩,
      ⟨(some 85), .mv (.t 164), none, []⟩])))
def b29_2 : ACode := .seq (.ops [
     ⟨(some 67), .bin .lss .int (.t 66) (.t 65), none, []⟩])
   (.seq (.cond (.t 67)
    (.skip)
    (.exit 2))
   (.seq (.block 3 (.seq (.ops [
     ⟨(some 68), .mv (.t 66), none, []⟩,
     ⟨(some 69), .ixS 1 (.t 64) (.t 66), none, []⟩,
     ⟨(some 70), .load false 1 (.t 69), none, []⟩,
     ⟨(some 11), .mv (.t 68), none, []⟩,
     ⟨(some 12), .mv (.t 70), none, []⟩])
   (.seq (.ops [
     ⟨(some 71), .load false 1 (.t 8), none, []⟩,
     ⟨(some 72), .nilck (.t 71), none, []⟩,
     ⟨(some 73), .fa 0 (.t 72), none, []⟩,
     ⟨(some 74), .load false 1 (.t 73), none, []⟩,
     ⟨(some 75), .nilck (.t 74), none, []⟩,
     ⟨(some 76), .fa 0 (.t 75), none, []⟩,
     ⟨(some 77), .fa 2 (.t 76), none, []⟩,
     ⟨(some 78), .load false 1 (.t 77), none, []⟩,
     ⟨(some 79), .mv (.t 12), none, []⟩,
     ⟨(some 80), .ixS 3 (.t 78) (.t 79), none, []⟩,
     ⟨(some 81), .load true 3 (.t 80), none, []⟩,
     ⟨(some 13), .alloc [(.str .empty), (.int .i64 0), .nilS], none, []⟩,
     ⟨none, .store 3 (.t 13) (.t 81), none, []⟩])
   (.seq (.ops [
     ⟨(some 82), .fa 2 (.t 13), none, []⟩,
     ⟨(some 83), .load false 1 (.t 82), none, []⟩,
     ⟨(some 84), .lenS (.t 83), none, []⟩,
     ⟨(some 85), .mv (.c (.int .i64 0)), none, []⟩])
   (.block 4 (.loop b29_4))))))
   (.ops [
     ⟨(some 165), .bin .add .int (.t 66) (.c (.int .i64 1)), none, []⟩,
     ⟨(some 66), .mv (.t 165), none, []⟩])))
section
variable {x : FR} {c T6 T8 T9 T10 NS N M1 M2 : Nat} {XX : Nat → Prop} {v1 : AHeap} {U wv rv : AVal} {n : Nat} {left : Int} {rd : Option Nat} {Q : AExit → AEnv → AHeap → Prop}
structure RdF (x : FR) (T6 T8 T9 T10 NS N M1 M2 : Nat) (w : Wd) (wv rv : AVal) (n : Nat) (left : Int) (z : AHeap) : Prop where
  h8 : z.objs T8 = some (.cells 1 [[.ptr NS 0 0]])
  hNS : z.objs NS = some (.cells 3 [[.ptr N 0 0, wv, rv]])
  hN : z.objs N = some (.cells 12 [x.row M1 M2])
  h9 : z.objs T9 = some (.cells 4 [[.str w.text, w.gv, w.av, .int .i64 w.wide]])
  h10 : z.objs T10 = some (.cells 3 [[.int .i64 ((n : Int).tdiv x.ln), .int .i64 ((n : Int).tmod x.ln), .int .i64 left]])
theorem px29 (hok : x.ok) (hrok : x.rok) {w : Wd} {G : Gl} {len T13 : Nat} (hF : ∀ ps z, Bd x c T6 XX v1 ps U z → RdF x T6 T8 T9 T10 NS N M1 M2 w wv rv n left z ∧ z.objs T13 = some (.cells 3 [[.str G.text, .int .i64 G.wide, G.rv]])) (hG : 1 ≤ G.wide ∧ G.wide ≤ 12) (hn0 : 0 ≤ (n : Int).tdiv x.ln) (hn1 : (n : Int).tdiv x.ln < len)
    {env : AEnv} {row from' : Int} (hfr : 0 ≤ from') (hft : from' + G.wide ≤ x.ms * x.rows) (e6 : env.t 6 = .ptr T6 0 0) (e8 : env.t 8 = .ptr T8 0 0) (e10 : env.t 10 = .ptr T10 0 0) (e13 : env.t 13 = .ptr T13 0 0) (e15 : env.t 15 = .int .i64 row) (e16 : env.t 16 = .int .i64 from')
    (e131 : env.t 131 = .int .i64 G.wide) (e132 : env.t 132 = .int .i64 0) {ps : List Pg} {z : AHeap} (hl : ps.length = len) (hB : Bd x c T6 XX v1 ps U z) (hQ : ∀ env' ps' z', env'.t 85 = env.t 85 → env'.t 66 = env.t 66 → env'.t 84 = env.t 84 → env'.t 83 = env.t 83 → env'.t 65 = env.t 65 → env'.t 64 = env.t 64 → ps'.length = len → Bd x c T6 XX v1 ps' U z' → Q (.exit 6) env' z') :
    loopK Tryz.prog b29_6 {} rd env z Q {} := by
  obtain ⟨r1, r2, r3, r4⟩ := rows_pos hok hrok
  refine A_loopV (α := Nat) m29_2 (fun xx => [(132, .int .i64 xx)]) (fun xx z2 => (xx : Int) ≤ G.wide ∧ ∃ ps4, ps4.length = len ∧ Bd x c T6 XX v1 ps4 U z2) (fun xx => G.wide.toNat - xx) rfl (fun _ => rfl) ⟨0, ?_, by omega, ps, hl, hB⟩ ?_
  · simp only [↓CTL, VAL, ENV, DFR, Nat.reduceBEq, e132]; try rfl
  · rintro xx f z2 ⟨hxx, ps4, hps4, hBq⟩
    obtain ⟨⟨g8q, p9q, v8q, w9q, p10q⟩, q13q⟩ := hF _ _ hBq
    rw [FR.row_eq] at v8q
    have h6q := hBq.h6
    have huS := hBq.pm.own.tv.S
    simp (disch := omega) only [b29_6, ↓CTL, ↓DRW, VAL, DRV, Nat.reduceBEq, Nat.reduceAdd, m29_2, e131]
    refine B_if (fun hlt4 => ?_) (fun hge4 => ?_)
    · simp (disch := omega) only [↓CTL, ↓DRW, VAL, DRV, BITS, Nat.reduceBEq, Nat.reduceAdd, m29_2, q13q, e13, e15]
      refine B_if (fun hbit => ?_) (fun hbit => ?_)
      · have hmem := getD_mem (l := ps4) (j := ((n : Int).tdiv x.ln).toNat) (by omega)
        obtain ⟨k1', k2', k3', k4', k5'⟩ := hBq.pm.pg _ hmem
        simp (disch := omega) only [↓CTL, ↓DRW, VAL, DRV, Nat.reduceBEq, Nat.reduceAdd, m29_2]
        refine dr_go [] [] ?_ ?_; · decide
        simp (disch := omega) only [↓CTL, ↓DRW, VAL, DRV, Nat.reduceBEq, Nat.reduceAdd, m29_2, h6q, p10q, huS, g8q, p9q, v8q, Pg.row_eq, e6, e8, e10, e16, st_rU, Nat.zero_add, k3']
        refine ⟨xx + 1, rfl, ⟨by omega, _, ?_, hBq.put (i := ((n : Int).tdiv x.ln).toNat) (by omega) (by rw [List.length_set])⟩, by omega⟩
        rw [List.length_set]; exact hps4
      · simp (disch := omega) only [↓CTL, ↓DRW, VAL, DRV, Nat.reduceBEq, Nat.reduceAdd, m29_2]
        exact ⟨xx + 1, rfl, ⟨by omega, ps4, hps4, hBq⟩, by omega⟩
    · refine hQ _ ps4 z2 ?_ ?_ ?_ ?_ ?_ ?_ hps4 hBq <;> rfl
theorem rows29 (hok : x.ok) (hrok : x.rok) {w : Wd} {G : Gl} {len T13 i : Nat} (hF : ∀ ps z, Bd x c T6 XX v1 ps U z → RdF x T6 T8 T9 T10 NS N M1 M2 w wv rv n left z ∧ z.objs T13 = some (.cells 3 [[.str G.text, .int .i64 G.wide, G.rv]])) (hG : 1 ≤ G.wide ∧ G.wide ≤ 12) (hGr : (G.rows.length : Int) = x.high) (hgr : RV 1 rI G.rv G.rows) (hwa : RV 1 rI w.av w.ats) (hi : i < w.ats.length)
    (hn0 : 0 ≤ (n : Int).tdiv x.ln) (hn1 : (n : Int).tdiv x.ln < len) (hl0 : 0 ≤ left) (ha0 : 0 ≤ w.ats.getD i default) (ha1 : w.ats.getD i default + G.wide ≤ w.wide) (hlw : left + w.wide ≤ x.ms)
    {env : AEnv} (e6 : env.t 6 = .ptr T6 0 0) (e8 : env.t 8 = .ptr T8 0 0) (e9 : env.t 9 = .ptr T9 0 0) (e10 : env.t 10 = .ptr T10 0 0) (e11 : env.t 11 = .int .i64 i) (e13 : env.t 13 = .ptr T13 0 0) (e83 : env.t 83 = G.rv) (e84 : env.t 84 = .int .i64 G.rows.length) (e85 : env.t 85 = .int .i64 0)
    {ps : List Pg} {z : AHeap} (hl : ps.length = len) (hB : Bd x c T6 XX v1 ps U z) (hQ : ∀ env' ps' z', env'.t 66 = env.t 66 → env'.t 65 = env.t 65 → env'.t 64 = env.t 64 → ps'.length = len → Bd x c T6 XX v1 ps' U z' → Q (.exit 4) env' z') :
    loopK Tryz.prog b29_4 {} rd env z Q {} := by
  have hGS := hgr.S
  have haS := hwa.S
  have hln := hrok.ln
  have hhi := hok.hi
  have hld := hrok.ld
  have hmsb := hrok.ms
  have hm0 : 0 ≤ (n : Int).tmod x.ln := Int.tmod_nonneg _ (by omega)
  have hm1 : (n : Int).tmod x.ln < x.ln := Int.tmod_lt_of_pos _ (by omega)
  refine A_loopV (α := Nat) m29_1 (fun y => [(85, .int .i64 y)]) (fun y z => y ≤ G.rows.length ∧ ∃ ps3, ps3.length = len ∧ Bd x c T6 XX v1 ps3 U z) (fun y => G.rows.length - y) rfl (fun _ => rfl) ⟨0, ?_, Nat.zero_le _, ps, hl, hB⟩ ?_
  · simp only [↓CTL, VAL, ENV, DFR, Nat.reduceBEq, e85]; try rfl
  · rintro y f z ⟨hy, ps3, hps3, hBz⟩
    simp (disch := omega) only [b29_4, ↓CTL, ↓DRW, VAL, DRV, Nat.reduceBEq, Nat.reduceAdd, m29_1, e84]
    refine B_if (fun hlt3 => ?_) (fun hge3 => ?_)
    · obtain ⟨⟨g8z, p9z, v8z, w9z, p10z⟩, q13z⟩ := hF _ _ hBz
      rw [FR.row_eq] at v8z
      obtain ⟨⟨x1, x2⟩, ⟨x3, x4⟩, x5⟩ := px_in hok hrok (line := (n : Int).tmod x.ln) (y := y) hm0 hm1 (by omega) (by omega)
      simp (disch := omega) only [↓CTL, ↓DRW, VAL, DRV, Nat.reduceBEq, Nat.reduceAdd, m29_1, hGS, rI_eq, Int.toNat_natCast, e83]
      refine dr_go [] [] ?_ ?_; · decide
      simp (maxSteps := 2000000) (disch := omega) only [↓CTL, ↓DRW, VAL, DRV, Nat.reduceBEq, Nat.reduceAdd, m29_1, p10z, g8z, p9z, v8z, w9z, haS, rI_eq, Int.toNat_natCast, q13z, e8, e9, e10, e11, e13]
      refine px29 hok hrok hF hG hn0 hn1 (from' := ((n : Int).tmod x.ln * (x.high + x.ld) + y) * x.ms + left + w.ats.getD i default) (row := G.rows.getD y default) (by omega) (by omega) ?_ ?_ ?_ ?_ ?_ ?_ ?_ ?_ hps3 hBz fun env' ps' z' h1 h2 h3 h4 h5 h6 h7 h8 => ?_
      all_goals simp only [↓CTL, VAL, DRV, Nat.reduceBEq, m29_1, e6, e8, e10, e13] at *
      · simp (disch := omega) only [↓CTL, ↓DRW, VAL, DRV, Nat.reduceBEq, Nat.reduceAdd, h1]
        exact ⟨y + 1, rfl, ⟨by omega, ps', h7, h8⟩, by omega⟩
    · refine hQ _ ps3 z ?_ ?_ ?_ hps3 hBz <;> rfl
end
end Go.Proofs.YtkfahdbjndihfacGreatDoor
namespace Go.Proofs.YtkfahdbjndihfacGreatDoor
open Go.Tc
set_option linter.unusedSimpArgs false
set_option linter.unusedVariables false
set_option maxRecDepth 20000
set_option maxHeartbeats 4000000
theorem gly29 {x : FR} {c T6 T8 T9 T10 NS N M1 M2 : Nat} {XX : Nat → Prop} {t1 : AHeap} {U wv rv : AVal} {n : Nat} {left : Int} {rd : Option Nat} {Q : AExit → AEnv → AHeap → Prop} (hx : x.rd) (hok : x.ok) (hrok : x.rok) {w : Wd} (hwd : w.ok x) (hsz : w.text.size ≤ 100) {len : Nat}
    (hF : ∀ ps z, Bd x c T6 XX t1 ps U z → RdF x T6 T8 T9 T10 NS N M1 M2 w wv rv n left z) (hn0 : 0 ≤ (n : Int).tdiv x.ln) (hn1 : (n : Int).tdiv x.ln < len) (hl0 : 0 ≤ left) (hlw : left + w.wide ≤ x.ms) (hT8 : T8 < c ∧ T8 ≠ T6 ∧ NS < c ∧ NS ≠ T6 ∧ N < c ∧ N ≠ T6 ∧ XX T9 ∧ XX T10)
    {env : AEnv} (e6 : env.t 6 = .ptr T6 0 0) (e8 : env.t 8 = .ptr T8 0 0) (e9 : env.t 9 = .ptr T9 0 0) (e10 : env.t 10 = .ptr T10 0 0) (e64 : env.t 64 = w.gv) (e65 : env.t 65 = .int .i64 w.gs.length) (e66 : env.t 66 = .int .i64 0)
    {ps : List Pg} {z : AHeap} (hl : ps.length = len) (hB : Bd x c T6 XX t1 ps U z) (hQ : ∀ env' ps' z', env'.ds = env.ds → ps'.length = len → Bd x c T6 XX t1 ps' U z' → Q (.exit 2) env' z') :
    loopK Tryz.prog b29_2 {} rd env z Q {} := by
  have hgS := hwd.g.S
  have hxS := hx.g.S
  have hsz2 := hwd.sz
  refine A_loopV (α := Nat) m29_0 (fun i => [(66, .int .i64 i)]) (fun i v => i ≤ w.gs.length ∧ ∃ ps', ps'.length = len ∧ Bd x c T6 XX t1 ps' U v) (fun i => w.gs.length - i) rfl (fun _ => rfl) ⟨0, ?_, Nat.zero_le _, ps, hl, hB⟩ ?_
  · simp only [↓CTL, VAL, ENV, DFR, Nat.reduceBEq, e66]; try rfl
  · rintro i f v ⟨hi, ps', hps', hBv⟩
    simp (disch := omega) only [b29_2, ↓CTL, ↓DRW, VAL, DRV, Nat.reduceBEq, Nat.reduceAdd, m29_0, e65]
    refine B_if (fun hlt2 => ?_) (fun hge2 => ?_)
    · have hg := hwd.n _ (getD_mem (l := w.gs) (j := i) (by omega))
      have hat := hwd.at0 i (by omega)
      have hlen := hwd.len
      have hFv := hF _ _ hBv
      have g8v := hFv.h8
      have p9v := hFv.hNS
      have v8v := hFv.hN
      rw [FR.row_eq] at v8v
      generalize hgg : w.gs.getD i default = g at hg hat
      have hgr := hx.r _ (getD_mem (l := x.gl) (j := g.toNat) (by omega))
      obtain ⟨w5, w6, w7, -⟩ := hok.g g.toNat (by omega)
      simp only [FR.w] at hat
      generalize hGG : x.gl.getD g.toNat default = G at hgr w5 w6 w7 hat
      have hGS := hgr.S
      simp (disch := omega) only [↓CTL, ↓DRW, VAL, DRV, Nat.reduceBEq, Nat.reduceAdd, m29_0, hgS, hgg, hGG, rI_eq, Int.toNat_natCast, g8v, p9v, v8v, hxS, Gl.row_eq, hGS, e64, e8]
      generalize hv1 : v.alloc (.cells 3 [[.str G.text, .int .i64 G.wide, G.rv]]) = v1
      have hE1 : Ext v v1 := by rw [← hv1]; exact (Ext.refl _).alloc _
      have nv1 : v1.next = v.next + 1 := by rw [← hv1]; rfl
      have q13 : v1.objs v.next = some (.cells 3 [[.str G.text, .int .i64 G.wide, G.rv]]) := by rw [← hv1]; exact objs_new rfl
      clear hv1
      refine rows29 hok hrok (XX := GrowX XX v v1) (T13 := v.next) (i := i) (G := G) (w := w) (fun ps z hz => ⟨hF _ _ (hBv.less hE1 hz), (hz.keep v.next (.inr (.inr ⟨Nat.le_refl _, by omega⟩))).trans q13⟩) ⟨w5, w6⟩ w7 hgr hwd.a (by omega) hn0 hn1 hl0 hat.1 hat.2 hlw ?_ ?_ ?_ ?_ ?_ ?_ ?_ ?_ ?_ hps' (hBv.more hE1) fun env' ps2 z' h1 h2 h3 h4 h5 => ?_
      all_goals simp only [↓CTL, VAL, DRV, Nat.reduceBEq, m29_0, e6, e8, e9, e10] at *
      · simp (disch := omega) only [↓CTL, ↓DRW, VAL, DRV, Nat.reduceBEq, Nat.reduceAdd, h1]
        exact ⟨i + 1, rfl, ⟨by omega, ps2, h4, hBv.less hE1 h5⟩, by omega⟩
    · refine hQ _ ps' v ?_ hps' hBv
      rfl
theorem s29 {σ : AHeap} (x : FR) (hx : x.rd) {text : ByteArray} : RunV Tryz.prog (.func (.func 29) [] []) [.agg x.fv, .agg x.rv, .str text] σ (fun o s => ∃ u e ps, o = .ret (.tup [u, .int .i64 e]) ∧ Ext σ s ∧ OwnS s σ.next 3 (Pg.row x) u ps ∧ ps.length ≤ 1000 ∧ ∀ p ∈ ps, OwnS s σ.next 1 rU (.ms 1 p.N 0 p.l.length true) p.l ∧ p.l.length ≤ 10000) := by
  have o1 := (hx.g σ).one
  have o2 := (hx.k σ).one
  have hfv : x.fv = [.int .i64 x.high, .int .i64 x.space, x.gv, x.kv] := rfl
  have hrv : x.rv = [.int .i64 x.ms, .int .i64 x.ln, .int .i64 x.ld, .int .i64 x.sh, .int .i64 x.ex, .int .i64 x.ink] := rfl
  refine RunV.funcD mixed k29 (by simp) ?_
  rw [hfv, hrv]
  simp (disch := omega) only [c29, ↓CTL, ↓DRW, VAL, DRV, DFR, Nat.reduceBEq, Nat.reduceAdd, o1, o2]
  refine L_dfr (g := 45) (first := []) (caps := []) rfl ?_
  simp (disch := omega) only [↓CTL, ↓DRW, VAL, DRV, DFR, Nat.reduceBEq, Nat.reduceAdd, o1, o2]
  refine s53 x hx (fun NS wv ws rl s hok hrok hwds hf hc hE hS => ?_) (fun e s hE => ?_)
  case refine_2 =>
    have r6 := hE.2 (σ.next + 1 + 1) (by simp only [VAL]; omega)
    have r7 := hE.2 (σ.next + 1 + 1 + 1) (by simp only [VAL]; omega)
    simp (disch := omega) only [VAL] at r6 r7
    have hE' : Ext σ s := Ext.trans (by repeat first | exact Ext.refl _ | refine Ext.alloc ?_ _) hE
    simp (disch := omega) only [↓CTL, ↓DRW, VAL, DRV, DFR, PAN, Nat.reduceBEq, Nat.reduceAdd]
    exact endP (T := σ.next + 1 + 1 + 1) rfl r7 (res29 (T6 := σ.next + 1 + 1) (T7 := σ.next + 1 + 1 + 1) rfl rfl (by rw [objs_else (by omega)]; exact r6) objs_here) ⟨.nilS, _, [], rfl, hE'.set (by omega) _, .nil, by simp, by simp⟩
  have r6 := hE.2 (σ.next + 1 + 1) (by simp only [VAL]; omega)
  have r7 := hE.2 (σ.next + 1 + 1 + 1) (by simp only [VAL]; omega)
  simp (disch := omega) only [VAL] at r6 r7
  have hb := hE.1
  simp only [VAL] at hb hS
  have hE' : Ext σ s := Ext.trans (by repeat first | exact Ext.refl _ | refine Ext.alloc ?_ _) hE
  have hn := hwds.n
  simp (disch := omega) only [↓CTL, ↓DRW, VAL, DRV, DFR, Nat.reduceBEq, Nat.reduceAdd]
  have hLn : Lns x wv ws rl := ⟨hok, hrok, hwds, hf, hc, let ⟨_, _, _, _, _, _, _, _, _, _, _, _, h⟩ := hS.h; h⟩
  refine s60 ?_
  simp (disch := omega) only [↓CTL, ↓DRW, ↓RK, VAL, ENV, DRV, DFR, Nat.reduceBEq, Nat.reduceAdd]
  refine A_rangeZ (g := 78) (first := []) (caps := [.ptr (s.next + 1) 0 0]) ?_ (s78 (a := σ.next + 1 + 1 + 1 + 1) (b := s.next) (NS := NS) (C := s.next + 1) hLn) (PgI x wv ws rl σ (σ.next + 1 + 1 + 1 + 1) s.next NS (σ.next + 1 + 1) s.next) (fun _ _ _ => False) (by kernel_rfl) (fun L h => by cases h)
    PgI.loose (fun _ => ⟨fun _ _ _ h => h.elim, fun _ _ _ _ _ h => h.elim, fun _ _ _ _ h => h.elim⟩) (fun k X t o h => h.upd (Nat.le_refl _) (fun M _ hM _ => objs_else (by simp only [VAL]; omega)) (fun M hM => ⟨.inl hM, (h.xs M hM).2⟩)) (fun k X t h => ⟨by have := h.ord; omega, h.hC, h.sht⟩) (fun k X t h => ⟨by have := h.ord; simp only [VAL]; omega, fun hx => by have := h.xs _ hx; simp only [VAL] at this; omega⟩)
    (fun e X t h => h.elim) (fun lo => ?_) ?_ ?_ (fun _ _ _ h => h.elim)
  · simp (disch := omega) only [↓CTL, ↓DRW, ↓RK, VAL, ENV, DRV, DFR, Nat.reduceBEq, Nat.reduceAdd]
  · have hE2 : Ext s (((s.alloc (.cells 1 [[.ptr NS 0 0]])).alloc (.cells 1 [[.ptr NS 0 0]])).alloc (.loop lo)) := by repeat first | exact Ext.refl _ | refine Ext.alloc ?_ _
    exact ⟨hE'.trans hE2, ⟨.nilS, [], (hE2.2 _ (by omega)).trans r6, ⟨.nil, by simp, by simp, fun _ h => h.elim⟩, .inl ⟨rfl, rfl⟩⟩, (hE2.2 _ (by omega)).trans r7, by simp (disch := omega) only [VAL], by simp (disch := omega) only [VAL], hS.keep hE2.1 fun M k1 k2 => hE2.2 M (by omega), by simp only [VAL]; omega, fun _ h => h.elim⟩
  · rintro k X t lo args hI hLo ⟨i1, n, left, i2, i3, i4, i5, i6, rfl⟩
    refine ⟨rfl, ?_⟩
    have hord := hI.ord
    obtain ⟨u, ps, g6, hpm, hpc⟩ := hI.pm
    have g7 := hI.h7
    have g8 := hI.h8
    have hLo' : t.objs (s.next + 1 + 1) = some (.loop lo) := hLo
    have hLo := hLo'
    obtain ⟨hwd, hwt, hww⟩ := hwds.w _ (getD_mem (l := ws) (j := k) i1)
    generalize ws.getD k default = w at hwd hwt hww i6
    have q1 := (hwd.g σ).one
    have q2 := (hwd.a σ).one
    simp (disch := omega) only [↓CTL, ↓DRW, ↓RK, VAL, ENV, DRV, DFR, Nat.reduceBEq, Nat.reduceAdd, hLo, Wd.row_eq, q1, q2]
    intro lo'
    have hpl : ps.length ≤ 1000 := by
      have hln := hrok.ln
      rcases hpc with ⟨_, h⟩ | ⟨n, _, _, _, h1, h2⟩
      · omega
      · have k2 : (n : Int).tdiv x.ln ≤ n := by rw [Int.tdiv_eq_ediv_of_nonneg (by omega)]; exact Int.ediv_le_self _ (by omega)
        omega
    generalize hT : AHeap.set _ (s.next + 1 + 1) (.loop lo') = t1
    have n1 : t1.next = t.next + 2 := by rw [← hT]; simp only [VAL]
    have k1 : ∀ M, M < t.next → M ≠ s.next + 2 → t1.objs M = t.objs M := fun M h1 h2 => by rw [← hT]; simp (disch := omega) only [VAL]
    have w9 : t1.objs t.next = some (.cells 4 [[.str w.text, w.gv, w.av, .int .i64 w.wide]]) := by rw [← hT]; simp (disch := omega) only [VAL]
    have p10 : t1.objs (t.next + 1) = some (.cells 3 [[.int .i64 ((n : Int).tdiv x.ln), .int .i64 ((n : Int).tmod x.ln), .int .i64 left]]) := by rw [← hT]; simp (disch := omega) only [VAL]
    have kL : t1.objs (s.next + 2) = some (.loop lo') := by rw [← hT]; simp (disch := omega) only [VAL]
    clear hT
    have hS1 := hI.sht.keep (t := t1) (by omega) fun M z1 z2 => k1 M (by omega) (by omega)
    have g61 := (k1 (σ.next + 1 + 1) (by omega) (by omega)).trans g6
    have g71 := (k1 (σ.next + 1 + 1 + 1) (by omega) (by omega)).trans g7
    have g81 := (k1 s.next (by omega) (by omega)).trans g8
    have hB : Bd x (s.next + 3) (σ.next + 1 + 1) (fun M => X M ∨ (t.next ≤ M ∧ M < t1.next)) t1 ps u t1 :=
      ⟨fun _ _ => rfl, Nat.le_refl _, g61, hpm.upd (by omega) (fun M y1 y2 y3 => k1 M y2 (by omega)) (fun M hM => hM.imp id fun h => h.1), by omega, by omega, fun M hM => by
        rcases hM with h | h
        · have := hI.xs M h; omega
        · omega⟩
    obtain ⟨N, NR, p1, p2, p3, p4, p5, p6, p7, p8, p9, p10', p11⟩ := hS1.h
    obtain ⟨M1, M2, z1, y1, z2, y2, v1, v2, v3, v4, v5, v6, e1, e2, v7, v8, v9, v10, v11, v12⟩ := p8.h
    rw [FR.row_eq] at v8
    simp (disch := omega) only [↓CTL, ↓DRW, ↓RK, VAL, ENV, DRV, DFR, Nat.reduceBEq, Nat.reduceAdd, g6, g61, hpm.own.len, p10]
    have hgl := hwd.g.S.2.1
    have hi50 := i5
    have hi51 := i6
    have hT8s : s.next < s.next + 3 ∧ s.next ≠ σ.next + 1 + 1 ∧ NS < s.next + 3 ∧ NS ≠ σ.next + 1 + 1 ∧ N < s.next + 3 ∧ N ≠ σ.next + 1 + 1 ∧ (fun M => X M ∨ (t.next ≤ M ∧ M < t1.next)) t.next ∧ (fun M => X M ∨ (t.next ≤ M ∧ M < t1.next)) (t.next + 1) :=
      ⟨by omega, by omega, by omega, by omega, by omega, by omega, .inr ⟨Nat.le_refl _, by omega⟩, .inr ⟨by omega, by omega⟩⟩
    have v8r := v8
    rw [← FR.row_eq] at v8r
    have hFz : ∀ uu (ps' : List Pg) z, Bd x (s.next + 3) (σ.next + 1 + 1) (fun M => X M ∨ (t.next ≤ M ∧ M < t1.next)) t1 ps' uu z → RdF x (σ.next + 1 + 1) s.next t.next (t.next + 1) NS N M1 M2 w wv (.ms 3 NR 0 (ws.length + 1) true) n left z := fun uu ps' z hz =>
      ⟨(hz.keep _ (.inl ⟨by omega, by omega⟩)).trans g81, (hz.keep _ (.inl ⟨by omega, by omega⟩)).trans p9, (hz.keep _ (.inl ⟨by omega, by omega⟩)).trans v8r, (hz.keep _ (.inr (.inr ⟨Nat.le_refl _, by omega⟩))).trans w9, (hz.keep _ (.inr (.inr ⟨by omega, by omega⟩))).trans p10⟩
    obtain ⟨hnn, hnext⟩ := hpc.next hLn i2 i3 i1 i4
    have hln := hrok.ln
    have hhi := hok.hi
    have hld := hrok.ld
    have hmsb := hrok.ms
    have hm0 : 0 ≤ (n : Int).tmod x.ln := Int.tmod_nonneg _ (by omega)
    have hm1 : (n : Int).tmod x.ln < x.ln := Int.tmod_lt_of_pos _ (by omega)
    refine B_if (fun heq => ?_) (fun hne => ?_)
    · refine dr_go [] [0, 1, 4, 8, 14, 17, 21, 22, 25] ?_ ?_; · decide
      simp (disch := omega) only [↓CTL, ↓DRW, ↓RK, VAL, ENV, DRV, DFR, Nat.reduceBEq, Nat.reduceAdd, g61, g81, p9, v8]
      refine s61r p8 hok.hi hrok.ln hrok.ld ?_
      simp (disch := omega) only [↓CTL, ↓DRW, ↓RK, VAL, ENV, DRV, DFR, Nat.reduceBEq, Nat.reduceAdd, g61, g81, p9, v8]
      refine s61r p8 hok.hi hrok.ln hrok.ld ?_
      obtain ⟨w1, w2, w3, w4⟩ := rows_pos hok hrok
      simp (disch := omega) only [↓CTL, ↓DRW, ↓RK, VAL, ENV, DRV, DFR, Nat.reduceBEq, Nat.reduceAdd, g61, g81, p9, v8]
      obtain ⟨u2, t2, ha, hpm2, hn2, hk2⟩ := hB.pm.app (by omega) hpl (fun M hM => by rcases hM with h | h; (have := hI.xs M h; omega); omega) (n := (x.ms * x.rows).toNat) (by omega)
      simp only [rep_rU, beq_self_eq_true]
      simp (disch := omega) only [↓CTL, ↓DRW, ↓RK, VAL, ENV, DRV, DFR, Nat.reduceBEq, Nat.reduceAdd, FILL, g61, g81, p9, v8, ha]
      have b61 := (hk2 (σ.next + 1 + 1) (by omega) (hpm.own.off_old (by omega))).trans g61
      have b81 := (hk2 s.next (by omega) (hpm.own.off_old (by omega))).trans g81
      have b9 := (hk2 NS (by omega) (hpm.own.off_old (by omega))).trans p9
      have b8 := (hk2 N (by omega) (hpm.own.off_old (by omega))).trans v8
      have hu2 := hpm2.own.one
      simp (disch := omega) only [↓CTL, ↓DRW, ↓RK, VAL, ENV, DRV, DFR, Nat.reduceBEq, Nat.reduceAdd, FILL, b61, b81, b9, b8, hu2, implies_true, and_self, true_and, and_true]
      refine ⟨fun h => absurd h (by decide), ?_⟩
      have hB2 : Bd x (s.next + 3) (σ.next + 1 + 1) (fun M => X M ∨ (t.next ≤ M ∧ M < t1.next)) t1 (ps ++ [⟨t1.next, List.replicate (x.ms * x.rows).toNat 0⟩]) u2 (t2.set (σ.next + 1 + 1) (.cells 1 [[u2]])) := by
        refine ⟨fun M hM => ?_, by simp only [AHeap.next_set]; omega, objs_here, hpm2.upd (Nat.le_refl _) (fun M h1 _ _ => objs_else (by omega)) (fun M hM => .inl hM), hB.lt⟩
        rcases hM with ⟨h1, h2⟩ | hM
        · rw [objs_else h2]; exact hk2 M (by omega) (hpm.own.off_old h1)
        · have h1 := hB.lt.2.2 M hM
          rw [objs_else (by omega)]; exact hk2 M (by omega) (hB.pm.off M hM).1
      have hPC : PC x rl (k + 1) (ps ++ [(⟨t1.next, List.replicate (x.ms * x.rows).toNat 0⟩ : Pg)]).length := .inr ⟨n, by omega, by simpa using i2, by simpa using i3, i4, by simp only [List.length_append, List.length_singleton]; omega⟩
      have hpg : (n : Int).tdiv x.ln < (ps ++ [(⟨t1.next, List.replicate (x.ms * x.rows).toNat 0⟩ : Pg)]).length := by simp only [List.length_append, List.length_singleton]; omega
      have w92 := (hk2 t.next (by omega) (hB.pm.off _ (.inr ⟨Nat.le_refl _, by omega⟩)).1).trans w9
      generalize (ps ++ [(⟨t1.next, List.replicate (x.ms * x.rows).toNat 0⟩ : Pg)]) = ps2 at hB2 hPC hpg
      generalize t2.set (σ.next + 1 + 1) (.cells 1 [[u2]]) = t3 at hB2
      simp (disch := omega) only [↓CTL, ↓DRW, ↓RK, VAL, ENV, DRV, DFR, Nat.reduceBEq, Nat.reduceAdd, w92, hgl]
      refine gly29 (T6 := σ.next + 1 + 1) (T8 := s.next) (T9 := t.next) (T10 := t.next + 1) (NS := NS) (N := N) hx hok hrok hwd (by omega) (hFz u2) hnn hpg hi50 hi51 hT8s ?_ ?_ ?_ ?_ ?_ ?_ ?_ rfl hB2 fun env' ps' v hd hps' hBv => ?_
      all_goals try (simp only [↓CTL, VAL, ENV, DRV, DFR, Nat.reduceBEq]; done)
      simp (disch := omega) only [↓CTL, ↓DRW, ↓RK, VAL, ENV, DRV, DFR, Nat.reduceBEq, Nat.reduceAdd]
      exact ⟨(hBv.keep _ (.inl ⟨by omega, by omega⟩)).trans kL, fun lo2 => hI.step k1 (by omega) hBv (fun M h => .inl h) (by rw [hps']; exact hPC) lo2⟩
    · have hPC : PC x rl (k + 1) ps.length := .inr ⟨n, by omega, by simpa using i2, by simpa using i3, i4, by omega⟩
      have hpg : (n : Int).tdiv x.ln < ps.length := by omega
      have hB2 := hB
      simp (disch := omega) only [↓CTL, ↓DRW, ↓RK, VAL, ENV, DRV, DFR, Nat.reduceBEq, Nat.reduceAdd]
      simp (disch := omega) only [↓CTL, ↓DRW, ↓RK, VAL, ENV, DRV, DFR, Nat.reduceBEq, Nat.reduceAdd, w9, hgl]
      refine gly29 (T6 := σ.next + 1 + 1) (T8 := s.next) (T9 := t.next) (T10 := t.next + 1) (NS := NS) (N := N) hx hok hrok hwd (by omega) (hFz u) hnn hpg hi50 hi51 hT8s ?_ ?_ ?_ ?_ ?_ ?_ ?_ rfl hB2 fun env' ps' v hd hps' hBv => ?_
      all_goals try (simp only [↓CTL, VAL, ENV, DRV, DFR, Nat.reduceBEq]; done)
      simp (disch := omega) only [↓CTL, ↓DRW, ↓RK, VAL, ENV, DRV, DFR, Nat.reduceBEq, Nat.reduceAdd]
      exact ⟨(hBv.keep _ (.inl ⟨by omega, by omega⟩)).trans kL, fun lo2 => hI.step k1 (by omega) hBv (fun M h => .inl h) (by rw [hps']; exact hPC) lo2⟩
  · intro m X t hm hI
    have g7 := hI.h7
    have hord := hI.ord
    obtain ⟨u, ps, g6, hpm, hpc⟩ := hI.pm
    simp (disch := omega) only [↓CTL, ↓DRW, ↓RK, VAL, ENV, DRV, DFR, Nat.reduceBEq, Nat.reduceAdd, g6, g7, hpm.own.one]
    have hpl : ps.length ≤ 41 := by
      rcases hpc with ⟨_, h⟩ | ⟨n, _, _, _, h1, h2⟩
      · omega
      · have k2 : (n : Int).tdiv x.ln ≤ n := by rw [Int.tdiv_eq_ediv_of_nonneg (by omega)]; exact Int.ediv_le_self _ (by omega)
        omega
    have hrow : x.ms * x.rows ≤ 48 * 48 := Int.mul_le_mul hrok.ms.2 hrok.rows (by
      have h1 := hrok.ln
      have h2 := hrok.ld
      have h3 := hok.hi
      have h4 : 1 * (x.high + x.ld) ≤ x.ln * (x.high + x.ld) := Int.mul_le_mul_of_nonneg_right h1.1 (by omega)
      simp only [FR.rows]; omega) (by omega)
    refine end1 (T := σ.next + 1 + 1 + 1) rfl (res29 (T6 := σ.next + 1 + 1) (T7 := σ.next + 1 + 1 + 1) rfl rfl (by rw [objs_else (by omega)]; exact objs_here) objs_here) ⟨u, _, ps, rfl, ((hI.ext.kill (by omega)).set (by omega) _).set (by omega) _, ?_, by omega, fun p hp => ?_⟩
    · exact (((hpm.own.kill (hpm.own.off_old (by omega))).set (hpm.own.off_old (by omega)) _).set (hpm.own.off_old (by omega)) _).weak (by omega)
    · obtain ⟨k1, k2, k3, k4, k5⟩ := hpm.pg p hp
      refine ⟨.inr ⟨p.N, true, rfl, by omega, k2, ?_⟩, by omega⟩
      rw [objs_else (by omega), objs_else (by omega), AHeap.objs_kill, if_neg (by omega)]
      exact k3
end Go.Proofs.YtkfahdbjndihfacGreatDoor
namespace Go.Proofs.YtkfahdbjndihfacGreatDoor
open Go.Tc
set_option linter.unusedSimpArgs false
set_option linter.unusedVariables false
set_option maxRecDepth 20000
theorem szDss_len : ∀ (rows : List (List Dl)), (∀ r ∈ rows, 1 ≤ r.length) → rows.length ≤ szDss rows
  | [], _ => by simp
  | r :: rows, h => by
    have h1 := szDss_len rows fun x hx => h x (by simp [hx])
    have h2 := szDs_len r
    have h3 := h r (by simp)
    simp only [szDss, List.length_cons]; omega
theorem Tr.lens {s : AHeap} {p : Nat → Prop} {ro : Bool} {row : List Lf} {rows : List (List Dl)} {v : AVal} (h : Go.Tc.Tr s p ro (.sl row) (.sl rows) v) : ∀ r ∈ rows, r.length = row.length := by
  cases h with
  | nil => simp
  | ms _ _ _ _ _ _ _ _ hn => exact fun r hr => by obtain ⟨j, hj⟩ := List.getElem?_of_mem hr; exact hn j r hj
  | rs _ _ _ _ hn => exact fun r hr => by obtain ⟨j, hj⟩ := List.getElem?_of_mem hr; exact hn j r hj
theorem rowI {d : List Dl} {r : List AVal} (h : TrR nilHeap nope true [.int .i64] d r) : ∃ x, r = rI x ∧ True := by
  have hd := h.dl
  have hc := h.cl
  match d, r, hd, hc with
  | [d0], [r0], _, _ =>
    obtain ⟨n, rfl, _⟩ := (h.el 0 _ d0 r0 rfl rfl rfl).intW
    exact ⟨n, rfl, trivial⟩
theorem ints_of {v : AVal} (h : ∃ d, Tr nilHeap nope true (.sl [(.int .i64)]) d v ∧ szD d ≤ 1048576) : ∃ l, RV 1 rI v l ∧ l.length ≤ 1048576 := by
  obtain ⟨d, ht, hs⟩ := h
  obtain ⟨l, h1, h2, h3, rows, rfl, h4⟩ := Tr.rs' (f := rI) (R := fun _ => True) (fun d r h => rowI h) ht
  refine ⟨l, h1, ?_⟩
  have := szDss_len rows ?_
  · simp only [szD] at hs; omega
  · intro r hr; rw [Tr.lens ht r hr]; simp
theorem rowK {d : List Dl} {r : List AVal} (h : TrR nilHeap nope true [.int .i64, .int .i64, .int .i64] d r) : ∃ x : Kn, r = x.row ∧ True := by
  have hd := h.dl
  have hc := h.cl
  match d, r, hd, hc with
  | [d0, d1, d2], [r0, r1, r2], _, _ =>
    obtain ⟨a, rfl, _⟩ := (h.el 0 _ d0 r0 rfl rfl rfl).intW
    obtain ⟨b, rfl, _⟩ := (h.el 1 _ d1 r1 rfl rfl rfl).intW
    obtain ⟨c, rfl, _⟩ := (h.el 2 _ d2 r2 rfl rfl rfl).intW
    exact ⟨⟨a, b, c⟩, rfl, trivial⟩
theorem rowG {d : List Dl} {r : List AVal} (h : TrR nilHeap nope true [.str, .int .i64, .sl [.int .i64]] d r) : ∃ x : Gl, r = x.row ∧ RV 1 rI x.rv x.rows := by
  have hd := h.dl
  have hc := h.cl
  match d, r, hd, hc with
  | [d0, d1, d2], [r0, r1, r2], _, _ =>
    obtain ⟨a, rfl⟩ := (h.el 0 _ d0 r0 rfl rfl rfl).str'
    obtain ⟨b, rfl, _⟩ := (h.el 1 _ d1 r1 rfl rfl rfl).intW
    obtain ⟨l, h1, h2, h3, _⟩ := Tr.rs' (f := rI) (R := fun _ => True) (fun d r h => rowI h) (h.el 2 _ d2 r2 rfl rfl rfl)
    exact ⟨⟨a, b, r2, l⟩, rfl, h1⟩
theorem font_of (x : XA) : ∃ gl kl, RV 3 Gl.row x.v2 gl ∧ RV 3 Kn.row x.v3 kl ∧ ∀ g ∈ gl, RV 1 rI g.rv g.rows := by
  obtain ⟨d, ht, hs⟩ := x.h2
  obtain ⟨gl, h1, _, h3, _⟩ := Tr.rs' (f := Gl.row) (R := fun x => RV 1 rI x.rv x.rows) (fun d r h => rowG h) ht
  obtain ⟨d', ht', hs'⟩ := x.h3
  obtain ⟨kl, k1, _, k3, _⟩ := Tr.rs' (f := Kn.row) (R := fun _ => True) (fun d r h => rowK h) ht'
  exact ⟨gl, kl, h1, k1, h3⟩
theorem fr_of (x : XA) : ∃ y : FR, y.rd ∧ y.fv = [.int .i64 x.c0, .int .i64 x.c1, x.v2, x.v3] ∧ y.rv = [.int .i64 x.c4, .int .i64 x.c5, .int .i64 x.c6, .int .i64 x.c7, .int .i64 x.c8, .int .i64 x.c9] := by
  obtain ⟨gl, kl, h1, h2, h3⟩ := font_of x
  exact ⟨⟨x.c0, x.c1, x.v2, x.v3, gl, kl, x.c4, x.c5, x.c6, x.c7, x.c8, x.c9⟩, ⟨h1, h2, h3⟩, rfl, rfl⟩
theorem fr0_of (x : XA) : ∃ y : FR, y.rd ∧ y.fv = [.int .i64 x.c0, .int .i64 x.c1, x.v2, x.v3] ∧ (y.ms = 0 ∧ y.ln = 0 ∧ y.ld = 0 ∧ y.sh = 0 ∧ y.ex = 0 ∧ y.ink = 0) := by
  obtain ⟨gl, kl, h1, h2, h3⟩ := font_of x
  exact ⟨⟨x.c0, x.c1, x.v2, x.v3, gl, kl, 0, 0, 0, 0, 0, 0⟩, ⟨h1, h2, h3⟩, rfl, rfl, rfl, rfl, rfl, rfl, rfl⟩
theorem e7 (x : XA) : ∀ σ, RunV Tryz.prog (.func (.func 7) [] []) [.agg [.int .i64 x.c0, .int .i64 x.c1, x.v2, x.v3]] σ (fun o s => ∃ ds vs, o = .ret (tupA vs) ∧ ResT s (fun N => σ.next ≤ N) [(false, [(.int .i64)]), (false, [(.int .i64)]), (false, [(.int .i64)])] ds vs ∧ SmallD ds ∧ Ext σ s) := by
  intro σ
  obtain ⟨gl, kl, h1, h2, h3⟩ := font_of x
  exact s7 h1 h2 h3 fun p a e _ => ⟨[[.int p], [.int a], [.int e]], [.int .i64 p, .int .i64 a, .int .i64 e], rfl, .int (.int (.int .done)), by simp [SmallD, szDs, szD], .refl _⟩
theorem e12 (x : XA) : ∀ σ, RunV Tryz.prog (.func (.func 12) [] []) [.agg [.int .i64 x.c0, .int .i64 x.c1, x.v2, x.v3], .agg [.int .i64 x.c4, .int .i64 x.c5, .int .i64 x.c6, .int .i64 x.c7, .int .i64 x.c8, .int .i64 x.c9]] σ (fun o s => ∃ ds vs, o = .ret (tupA vs) ∧ ResT s (fun N => σ.next ≤ N) [(false, [(.int .i64)])] ds vs ∧ SmallD ds ∧ Ext σ s) := by
  intro σ
  obtain ⟨y, hy, h1, h2⟩ := fr_of x
  have h := s12 (σ := σ) y hy
  rw [h1, h2] at h
  exact h.mono fun o s ⟨e, ho, hE⟩ => ⟨[[.int e]], [.int .i64 e], ho, .int .done, by simp [SmallD, szDs, szD], hE⟩
theorem e14 (x : XA) : ∀ σ, RunV Tryz.prog (.func (.func 14) [] []) [.agg [.int .i64 x.c0, .int .i64 x.c1, x.v2, x.v3], .str x.c10] σ (fun o s => ∃ ds vs, o = .ret (tupA vs) ∧ ResT s (fun N => σ.next ≤ N) [(false, [(.sl [(.int .i64)])]), (false, [(.int .i64)]), (false, [(.int .i64)])] ds vs ∧ SmallD ds ∧ Ext σ s) := by
  intro σ
  obtain ⟨y, hy, h1, hz⟩ := fr0_of x
  have h := s14 (σ := σ) y hy hz (text := x.c10)
  rw [h1] at h
  refine h.mono fun o s ⟨u, c, e, l, ho, hE, hO, hl⟩ => ?_
  refine ⟨[[.sl (l.map fun x => [.int x])], [.int c], [.int e]], [u, .int .i64 c, .int .i64 e], ho, .sl (OwnS.tr (row := [.int .i64]) hO (by omega) fun x _ => .cons .i .nil) (.int (.int .done)), ?_, hE⟩
  have h1 := szDss_map (g := fun x : Int => [Dl.int x]) (c := 1) l (fun x _ => by simp [szDs, szD])
  intro d hd
  simp only [List.mem_cons, List.not_mem_nil, or_false] at hd
  rcases hd with rfl | rfl | rfl <;> simp only [szDs, szD] <;> omega
theorem e19 (x : XA) : ∀ σ, RunV Tryz.prog (.func (.func 19) [] []) [.agg [.int .i64 x.c0, .int .i64 x.c1, x.v2, x.v3], .agg [.int .i64 x.c4, .int .i64 x.c5, .int .i64 x.c6, .int .i64 x.c7, .int .i64 x.c8, .int .i64 x.c9], .str x.c11] σ (fun o s => ∃ ds vs, o = .ret (tupA vs) ∧ ResT s (fun N => σ.next ≤ N) [(false, [(.sl [(.int .i64), (.int .i64), (.int .i64), (.int .i64)])]), (false, [(.int .i64)])] ds vs ∧ SmallD ds ∧ Ext σ s) := by
  intro σ
  obtain ⟨y, hy, h1, h2⟩ := fr_of x
  have h := s19 (σ := σ) y hy (text := x.c11)
  rw [h1, h2] at h
  refine h.mono fun o s ⟨u, e, l, ho, hE, hO, hl⟩ => ?_
  refine ⟨[[.sl (l.map fun x => [.int x.a, .int x.b, .int x.w, .int x.c])], [.int e]], [u, .int .i64 e], ho, .sl (OwnS.tr (row := [.int .i64, .int .i64, .int .i64, .int .i64]) hO (by omega) fun x _ => .cons .i (.cons .i (.cons .i (.cons .i .nil)))) (.int .done), ?_, hE⟩
  have h1 := szDss_map (g := fun x : Ln => [Dl.int x.a, Dl.int x.b, Dl.int x.w, Dl.int x.c]) (c := 4) l (fun x _ => by simp [szDs, szD])
  intro d hd
  simp only [List.mem_cons, List.not_mem_nil, or_false] at hd
  rcases hd with rfl | rfl <;> simp only [szDs, szD] <;> omega
theorem e24 (x : XA) : ∀ σ, RunV Tryz.prog (.func (.func 24) [] []) [.agg [.int .i64 x.c0, .int .i64 x.c1, x.v2, x.v3], .agg [.int .i64 x.c4, .int .i64 x.c5, .int .i64 x.c6, .int .i64 x.c7, .int .i64 x.c8, .int .i64 x.c9], .str x.c11] σ (fun o s => ∃ ds vs, o = .ret (tupA vs) ∧ ResT s (fun N => σ.next ≤ N) [(false, [(.sl [(.int .i64)])]), (false, [(.int .i64)])] ds vs ∧ SmallD ds ∧ Ext σ s) := by
  intro σ
  obtain ⟨y, hy, h1, h2⟩ := fr_of x
  have h := s24 (σ := σ) y hy (text := x.c11)
  rw [h1, h2] at h
  refine h.mono fun o s ⟨u, e, l, ho, hE, hO, hl⟩ => ?_
  refine ⟨[[.sl (l.map fun x => [.int x])], [.int e]], [u, .int .i64 e], ho, .sl (OwnS.tr (row := [.int .i64]) hO (by omega) fun x _ => .cons .i .nil) (.int .done), ?_, hE⟩
  have h1 := szDss_map (g := fun x : Int => [Dl.int x]) (c := 1) l (fun x _ => by simp [szDs, szD])
  intro d hd
  simp only [List.mem_cons, List.not_mem_nil, or_false] at hd
  rcases hd with rfl | rfl <;> simp only [szDs, szD] <;> omega
theorem e27 (x : XA) : ∀ σ, RunV Tryz.prog (.func (.func 27) [] []) [.agg [.int .i64 x.c0, .int .i64 x.c1, x.v2, x.v3], .agg [.int .i64 x.c4, .int .i64 x.c5, .int .i64 x.c6, .int .i64 x.c7, .int .i64 x.c8, .int .i64 x.c9], .str x.c11, x.v12] σ (fun o s => ∃ ds vs, o = .ret (tupA vs) ∧ ResT s (fun N => σ.next ≤ N) [(false, [(.int .i64)]), (false, [(.int .i64)])] ds vs ∧ SmallD ds ∧ Ext σ s) := by
  intro σ
  obtain ⟨y, hy, h1, h2⟩ := fr_of x
  obtain ⟨el, hev, hel⟩ := ints_of x.h12
  have h := s27 (σ := σ) y hy (text := x.c11) hev hel
  rw [h1, h2] at h
  exact h.mono fun o s ⟨c, e, ho, hE⟩ => ⟨[[.int c], [.int e]], [.int .i64 c, .int .i64 e], ho, .int (.int .done), by simp [SmallD, szDs, szD], hE⟩
theorem e29 (x : XA) : ∀ σ, RunV Tryz.prog (.func (.func 29) [] []) [.agg [.int .i64 x.c0, .int .i64 x.c1, x.v2, x.v3], .agg [.int .i64 x.c4, .int .i64 x.c5, .int .i64 x.c6, .int .i64 x.c7, .int .i64 x.c8, .int .i64 x.c9], .str x.c11] σ (fun o s => ∃ ds vs, o = .ret (tupA vs) ∧ ResT s (fun N => σ.next ≤ N) [(false, [(.sl [(.int .i64), (.int .i64), (.sl [(.int .u8)])])]), (false, [(.int .i64)])] ds vs ∧ SmallD ds ∧ Ext σ s) := by
  intro σ
  obtain ⟨y, hy, h1, h2⟩ := fr_of x
  have h := s29 (σ := σ) y hy (text := x.c11)
  rw [h1, h2] at h
  refine h.mono fun o s ⟨u, e, ps, ho, hE, hO, hl, hp⟩ => ?_
  refine ⟨[[.sl (ps.map fun p => [.int y.ms, .int y.rows, .sl (p.l.map fun x => [.int x])])], [.int e]], [u, .int .i64 e], ho, .sl (OwnS.tr (row := [.int .i64, .int .i64, .sl [.int .u8]]) hO (by omega) fun p h => .cons .i (.cons .i (.cons (OwnS.tr (row := [.int .u8]) (hp p h).1 (by have := (hp p h).2; omega) fun x _ => .cons .i .nil) .nil))) (.int .done), ?_, hE⟩
  have h1 := szDss_map (g := fun p : Pg => [Dl.int y.ms, Dl.int y.rows, Dl.sl (p.l.map fun x => [Dl.int x])]) (c := 10003) ps (fun p h => by
    have := szDss_map (g := fun x : Int => [Dl.int x]) (c := 1) p.l (fun x _ => by simp [szDs, szD])
    have := (hp p h).2
    simp only [szDs, szD]; omega)
  intro d hd
  simp only [List.mem_cons, List.not_mem_nil, or_false] at hd
  rcases hd with rfl | rfl <;> simp only [szDs, szD] <;> omega
theorem e34 (x : XA) : ∀ σ, RunV Tryz.prog (.func (.func 34) [] []) [.agg [.int .i64 x.c0, .int .i64 x.c1, x.v2, x.v3], .agg [.int .i64 x.c4, .int .i64 x.c5, .int .i64 x.c6, .int .i64 x.c7, .int .i64 x.c8, .int .i64 x.c9], .str x.c11, .int .i64 x.c13] σ (fun o s => ∃ ds vs, o = .ret (tupA vs) ∧ ResT s (fun N => σ.next ≤ N) [(true, [(.int .i64), (.int .i64), (.int .i64)]), (false, [(.int .i64)])] ds vs ∧ SmallD ds ∧ Ext σ s) := by
  intro σ
  obtain ⟨y, hy, h1, h2⟩ := fr_of x
  have h := s34 (σ := σ) y hy (text := x.c11) (word := x.c13)
  rw [h1, h2] at h
  exact h.mono fun o s ⟨a, b, c, e, ho, hE⟩ => ⟨[[.int a, .int b, .int c], [.int e]], [.agg [.int .i64 a, .int .i64 b, .int .i64 c], .int .i64 e], ho, .agg (.cons .i (.cons .i (.cons .i .nil))) (.int .done), by simp [SmallD, szDs, szD], hE⟩
end Go.Proofs.YtkfahdbjndihfacGreatDoor
namespace Go.Proofs.YtkfahdbjndihfacGreatDoor
open Go.Tc
set_option linter.unusedSimpArgs false
set_option linter.unusedVariables false
set_option maxRecDepth 20000
theorem q6 (x : XA) (X : Nat) : ∃ A B, A.length ≤ 1099511627776 ∧ B.length ≤ 1099511627776 ∧ CallSpec Tryz.prog (.func (.func 6) [] [.ptr X 0 0]) X (.cells 14 [x.row]) A B := by
  obtain ⟨ds, hz, hc⟩ := RunV.uniT (P := Tryz.prog) (f := 7) (show ∀ a ∈ [.agg [.int .i64 x.c0, .int .i64 x.c1, x.v2, x.v3]], Clo a from (c_cons (Clo.part (agg := true) (n := 4) (off := 0) x.clo rfl) c_nil)) [(false, [(.int .i64)]), (false, [(.int .i64)]), (false, [(.int .i64)])] SmallD (e7 x)
  obtain ⟨_, _, ⟨_, _, hr0, _⟩, _⟩ := hc nilHeap
  obtain ⟨d0, ds0, _, _, rfl, _, ⟨_, _, _, l0⟩, hr1⟩ := hr0.dcons
  have l0 := l0.dl
  obtain ⟨d1, ds1, _, _, rfl, _, ⟨_, _, _, l1⟩, hr2⟩ := hr1.dcons
  have l1 := l1.dl
  obtain ⟨d2, ds2, _, _, rfl, _, ⟨_, _, _, l2⟩, hr3⟩ := hr2.dcons
  have l2 := l2.dl
  obtain ⟨rfl, _⟩ := hr3.dnil
  have z0 := hz d0 (by simp)
  obtain ⟨A0, B0, a0, b0, q0⟩ := p8.2 d0 l0 (by omega)
  have z1 := hz d1 (by simp)
  obtain ⟨A1, B1, a1, b1, q1⟩ := p8.2 d1 l1 (by omega)
  have z2 := hz d2 (by simp)
  obtain ⟨A2, B2, a2, b2, q2⟩ := p9.2 d2 l2 (by omega)
  refine ⟨((([] ++ A0) ++ A1) ++ A2), ((([] ++ B0) ++ B1) ++ B2), by simp only [List.length_append, List.length_nil]; omega, by simp only [List.length_append, List.length_nil]; omega, fun s H hX hxo hH hne hobj => ?_⟩
  refine RunV.func mixed k6 (by simp) ?_
  rw [XA.row_eq] at hxo
  simp (disch := omega) only [c6, ↓CTL, VAL, Nat.reduceBEq, Nat.reduceAdd, hxo, x.o2, x.o3, x.o12]
  refine (hc s).mono fun o s1 ⟨vs, ho, hR0, hE⟩ => ?_
  obtain ⟨_, _, u0, vs0, hd, rfl, ⟨cs0, hv0, _, t0⟩, hR1⟩ := hR0.dcons
  cases hd
  obtain ⟨_, _, y0x0, cs0, rfl, rfl, g0x0, t0k1⟩ := t0.uncons
  obtain ⟨n0x0, rfl⟩ := g0x0.int'
  obtain ⟨rfl, rfl⟩ := t0k1.unnil
  rw [valOf_f] at hv0
  subst hv0
  obtain ⟨_, _, u1, vs1, hd, rfl, ⟨cs1, hv1, _, t1⟩, hR2⟩ := hR1.dcons
  cases hd
  obtain ⟨_, _, y1x0, cs1, rfl, rfl, g1x0, t1k1⟩ := t1.uncons
  obtain ⟨n1x0, rfl⟩ := g1x0.int'
  obtain ⟨rfl, rfl⟩ := t1k1.unnil
  rw [valOf_f] at hv1
  subst hv1
  obtain ⟨_, _, u2, vs2, hd, rfl, ⟨cs2, hv2, _, t2⟩, hR3⟩ := hR2.dcons
  cases hd
  obtain ⟨_, _, y2x0, cs2, rfl, rfl, g2x0, t2k1⟩ := t2.uncons
  obtain ⟨n2x0, rfl⟩ := g2x0.int'
  obtain ⟨rfl, rfl⟩ := t2k1.unnil
  rw [valOf_f] at hv2
  subst hv2
  obtain ⟨_, rfl⟩ := hR3.dnil
  subst ho
  have e1 := hE.1
  simp (disch := omega) only [↓CTL, VAL, Nat.reduceBEq, Nat.reduceAdd, tupA_one, tupA_two]
  refine putOne (W := WC (fun N => s.next ≤ N) s1) (q0 s1 _ _ _ t0) ?w (Hp.new ?h1 ?h2) ?l1 ?l2 fun _ s2 nv1 sv1 hp1 hst1 => ?_
  case h1 => (try simp only [VAL]); omega
  case h2 => (try simp (disch := omega) only [VAL]); rw [hE.2 H hH]; exact hobj
  case w => exact ⟨by (try simp only [VAL]); omega, fun N h1 h2 => ⟨by omega, off_nil, off_nil, by first | rfl | (simp (disch := omega) only [VAL])⟩⟩
  case l1 => simp only [List.length_append, List.length_nil]; omega
  case l2 => simp only [List.length_append, List.length_nil]; omega
  have hw1 : WC (fun N => s.next ≤ N) s1 _ _ _ _ := WC.stays _ _ _ _ _ _ _ (show WC (fun N => s.next ≤ N) s1 H _ .nilS .nilS from ⟨by (try simp only [VAL]); omega, fun N h1 h2 => ⟨by omega, off_nil, off_nil, by first | rfl | (simp (disch := omega) only [VAL])⟩⟩) hst1
  have hst := hst1
  have bx : True := trivial
  simp (disch := omega) only [↓CTL, VAL, Nat.reduceBEq, Nat.reduceAdd]
  refine putOne (W := WC (fun N => s.next ≤ N) s1) (q1 s1 _ _ _ t1) hw1 hp1 ?l1 ?l2 fun _ s3 nv2 sv2 hp2 hst2 => ?_
  case l1 => simp only [List.length_append, List.length_nil]; omega
  case l2 => simp only [List.length_append, List.length_nil]; omega
  have hw2 : WC (fun N => s.next ≤ N) s1 _ _ _ _ := WC.stays _ _ _ _ _ _ _ hw1 hst2
  replace hst := hst.trans hst2
  have bx : True := trivial
  simp (disch := omega) only [↓CTL, VAL, Nat.reduceBEq, Nat.reduceAdd]
  refine putOne (W := WC (fun N => s.next ≤ N) s1) (q2 s1 _ _ _ t2) hw2 hp2 ?l1 ?l2 fun _ s4 nv3 sv3 hp3 hst3 => ?_
  case l1 => simp only [List.length_append, List.length_nil]; omega
  case l2 => simp only [List.length_append, List.length_nil]; omega
  have hw3 : WC (fun N => s.next ≤ N) s1 _ _ _ _ := WC.stays _ _ _ _ _ _ _ hw2 hst3
  replace hst := hst.trans hst3
  have hsame := fun M hM hM2 => (hst.2 M hM hM2 off_nil off_nil).1
  have hn := hst.1
  try simp only [VAL] at hsame hn
  have bx : True := trivial
  simp (disch := omega) only [↓CTL, VAL, Nat.reduceBEq, Nat.reduceAdd]
  have hM : ∀ M, s.next ≤ M → M < s1.next → s4.objs M = s1.objs M := fun M h1 h2 => by rw [hsame M (by omega) (by omega)]; try simp (disch := omega) only [VAL]
  refine ⟨_, s1.next + 0, nv3, sv3, rfl, by omega, by simpa using hp3, fun M hM hM2 => ?_, ?_⟩
  · rw [hsame M (by omega) hM2]
    try simp (disch := omega) only [VAL]
    exact hE.2 M hM
  · exact (nothing_spec mixed (f := 10) (by kernel_rfl) _).mono fun o s' ⟨h1, h2⟩ => by subst h2; exact ⟨h1, Nat.le_refl _, fun _ _ _ => rfl⟩
theorem q11 (x : XA) (X : Nat) : ∃ A B, A.length ≤ 1099511627776 ∧ B.length ≤ 1099511627776 ∧ CallSpec Tryz.prog (.func (.func 11) [] [.ptr X 0 0]) X (.cells 14 [x.row]) A B := by
  obtain ⟨ds, hz, hc⟩ := RunV.uniT (P := Tryz.prog) (f := 12) (show ∀ a ∈ [.agg [.int .i64 x.c0, .int .i64 x.c1, x.v2, x.v3], .agg [.int .i64 x.c4, .int .i64 x.c5, .int .i64 x.c6, .int .i64 x.c7, .int .i64 x.c8, .int .i64 x.c9]], Clo a from (c_cons (Clo.part (agg := true) (n := 4) (off := 0) x.clo rfl) (c_cons (Clo.part (agg := true) (n := 6) (off := 4) x.clo rfl) c_nil))) [(false, [(.int .i64)])] SmallD (e12 x)
  obtain ⟨_, _, ⟨_, _, hr0, _⟩, _⟩ := hc nilHeap
  obtain ⟨d0, ds0, _, _, rfl, _, ⟨_, _, _, l0⟩, hr1⟩ := hr0.dcons
  have l0 := l0.dl
  obtain ⟨rfl, _⟩ := hr1.dnil
  have z0 := hz d0 (by simp)
  obtain ⟨A0, B0, a0, b0, q0⟩ := p9.2 d0 l0 (by omega)
  refine ⟨([] ++ A0), ([] ++ B0), by simp only [List.length_append, List.length_nil]; omega, by simp only [List.length_append, List.length_nil]; omega, fun s H hX hxo hH hne hobj => ?_⟩
  refine RunV.func mixed k11 (by simp) ?_
  rw [XA.row_eq] at hxo
  simp (disch := omega) only [c11, ↓CTL, VAL, Nat.reduceBEq, Nat.reduceAdd, hxo, x.o2, x.o3, x.o12]
  refine (hc s).mono fun o s1 ⟨vs, ho, hR0, hE⟩ => ?_
  obtain ⟨_, _, u0, vs0, hd, rfl, ⟨cs0, hv0, _, t0⟩, hR1⟩ := hR0.dcons
  cases hd
  obtain ⟨_, _, y0x0, cs0, rfl, rfl, g0x0, t0k1⟩ := t0.uncons
  obtain ⟨n0x0, rfl⟩ := g0x0.int'
  obtain ⟨rfl, rfl⟩ := t0k1.unnil
  rw [valOf_f] at hv0
  subst hv0
  obtain ⟨_, rfl⟩ := hR1.dnil
  subst ho
  have e1 := hE.1
  simp (disch := omega) only [↓CTL, VAL, Nat.reduceBEq, Nat.reduceAdd, tupA_one, tupA_two]
  refine putOne (W := WC (fun N => s.next ≤ N) s1) (q0 s1 _ _ _ t0) ?w (Hp.new ?h1 ?h2) ?l1 ?l2 fun _ s2 nv1 sv1 hp1 hst1 => ?_
  case h1 => (try simp only [VAL]); omega
  case h2 => (try simp (disch := omega) only [VAL]); rw [hE.2 H hH]; exact hobj
  case w => exact ⟨by (try simp only [VAL]); omega, fun N h1 h2 => ⟨by omega, off_nil, off_nil, by first | rfl | (simp (disch := omega) only [VAL])⟩⟩
  case l1 => simp only [List.length_append, List.length_nil]; omega
  case l2 => simp only [List.length_append, List.length_nil]; omega
  have hw1 : WC (fun N => s.next ≤ N) s1 _ _ _ _ := WC.stays _ _ _ _ _ _ _ (show WC (fun N => s.next ≤ N) s1 H _ .nilS .nilS from ⟨by (try simp only [VAL]); omega, fun N h1 h2 => ⟨by omega, off_nil, off_nil, by first | rfl | (simp (disch := omega) only [VAL])⟩⟩) hst1
  have hst := hst1
  have hsame := fun M hM hM2 => (hst.2 M hM hM2 off_nil off_nil).1
  have hn := hst.1
  try simp only [VAL] at hsame hn
  have bx : True := trivial
  simp (disch := omega) only [↓CTL, VAL, Nat.reduceBEq, Nat.reduceAdd]
  have hM : ∀ M, s.next ≤ M → M < s1.next → s2.objs M = s1.objs M := fun M h1 h2 => by rw [hsame M (by omega) (by omega)]; try simp (disch := omega) only [VAL]
  refine ⟨_, s1.next + 0, nv1, sv1, rfl, by omega, by simpa using hp1, fun M hM hM2 => ?_, ?_⟩
  · rw [hsame M (by omega) hM2]
    try simp (disch := omega) only [VAL]
    exact hE.2 M hM
  · exact (nothing_spec mixed (f := 10) (by kernel_rfl) _).mono fun o s' ⟨h1, h2⟩ => by subst h2; exact ⟨h1, Nat.le_refl _, fun _ _ _ => rfl⟩
theorem q13 (x : XA) (X : Nat) : ∃ A B, A.length ≤ 1099511627776 ∧ B.length ≤ 1099511627776 ∧ CallSpec Tryz.prog (.func (.func 13) [] [.ptr X 0 0]) X (.cells 14 [x.row]) A B := by
  obtain ⟨ds, hz, hc⟩ := RunV.uniT (P := Tryz.prog) (f := 14) (show ∀ a ∈ [.agg [.int .i64 x.c0, .int .i64 x.c1, x.v2, x.v3], .str x.c10], Clo a from (c_cons (Clo.part (agg := true) (n := 4) (off := 0) x.clo rfl) (c_cons (Clo.part (agg := false) (n := 1) (off := 10) x.clo rfl) c_nil))) [(false, [(.sl [(.int .i64)])]), (false, [(.int .i64)]), (false, [(.int .i64)])] SmallD (e14 x)
  obtain ⟨_, _, ⟨_, _, hr0, _⟩, _⟩ := hc nilHeap
  obtain ⟨d0, ds0, _, _, rfl, _, ⟨_, _, _, l0⟩, hr1⟩ := hr0.dcons
  have l0 := l0.dl
  obtain ⟨d1, ds1, _, _, rfl, _, ⟨_, _, _, l1⟩, hr2⟩ := hr1.dcons
  have l1 := l1.dl
  obtain ⟨d2, ds2, _, _, rfl, _, ⟨_, _, _, l2⟩, hr3⟩ := hr2.dcons
  have l2 := l2.dl
  obtain ⟨rfl, _⟩ := hr3.dnil
  have z0 := hz d0 (by simp)
  obtain ⟨A0, B0, a0, b0, q0⟩ := p15.2 d0 l0 (by omega)
  have z1 := hz d1 (by simp)
  obtain ⟨A1, B1, a1, b1, q1⟩ := p8.2 d1 l1 (by omega)
  have z2 := hz d2 (by simp)
  obtain ⟨A2, B2, a2, b2, q2⟩ := p9.2 d2 l2 (by omega)
  refine ⟨((([] ++ A0) ++ A1) ++ A2), ((([] ++ B0) ++ B1) ++ B2), by simp only [List.length_append, List.length_nil]; omega, by simp only [List.length_append, List.length_nil]; omega, fun s H hX hxo hH hne hobj => ?_⟩
  refine RunV.func mixed k13 (by simp) ?_
  rw [XA.row_eq] at hxo
  simp (disch := omega) only [c13, ↓CTL, VAL, Nat.reduceBEq, Nat.reduceAdd, hxo, x.o2, x.o3, x.o12]
  refine (hc s).mono fun o s1 ⟨vs, ho, hR0, hE⟩ => ?_
  obtain ⟨_, _, u0, vs0, hd, rfl, ⟨cs0, hv0, _, t0⟩, hR1⟩ := hR0.dcons
  cases hd
  obtain ⟨_, _, y0x0, cs0, rfl, rfl, g0x0, t0k1⟩ := t0.uncons
  have o0x0 := g0x0.one
  obtain ⟨rfl, rfl⟩ := t0k1.unnil
  rw [valOf_f] at hv0
  subst hv0
  obtain ⟨_, _, u1, vs1, hd, rfl, ⟨cs1, hv1, _, t1⟩, hR2⟩ := hR1.dcons
  cases hd
  obtain ⟨_, _, y1x0, cs1, rfl, rfl, g1x0, t1k1⟩ := t1.uncons
  obtain ⟨n1x0, rfl⟩ := g1x0.int'
  obtain ⟨rfl, rfl⟩ := t1k1.unnil
  rw [valOf_f] at hv1
  subst hv1
  obtain ⟨_, _, u2, vs2, hd, rfl, ⟨cs2, hv2, _, t2⟩, hR3⟩ := hR2.dcons
  cases hd
  obtain ⟨_, _, y2x0, cs2, rfl, rfl, g2x0, t2k1⟩ := t2.uncons
  obtain ⟨n2x0, rfl⟩ := g2x0.int'
  obtain ⟨rfl, rfl⟩ := t2k1.unnil
  rw [valOf_f] at hv2
  subst hv2
  obtain ⟨_, rfl⟩ := hR3.dnil
  subst ho
  have e1 := hE.1
  simp (disch := omega) only [↓CTL, VAL, Nat.reduceBEq, Nat.reduceAdd, tupA_one, tupA_two, o0x0]
  refine putOne (W := WC (fun N => s.next ≤ N) s1) (q0 s1 _ _ _ t0) ?w (Hp.new ?h1 ?h2) ?l1 ?l2 fun _ s2 nv1 sv1 hp1 hst1 => ?_
  case h1 => (try simp only [VAL]); omega
  case h2 => (try simp (disch := omega) only [VAL]); rw [hE.2 H hH]; exact hobj
  case w => exact ⟨by (try simp only [VAL]); omega, fun N h1 h2 => ⟨by omega, off_nil, off_nil, by first | rfl | (simp (disch := omega) only [VAL])⟩⟩
  case l1 => simp only [List.length_append, List.length_nil]; omega
  case l2 => simp only [List.length_append, List.length_nil]; omega
  have hw1 : WC (fun N => s.next ≤ N) s1 _ _ _ _ := WC.stays _ _ _ _ _ _ _ (show WC (fun N => s.next ≤ N) s1 H _ .nilS .nilS from ⟨by (try simp only [VAL]); omega, fun N h1 h2 => ⟨by omega, off_nil, off_nil, by first | rfl | (simp (disch := omega) only [VAL])⟩⟩) hst1
  have hst := hst1
  have bx : True := trivial
  have hb0 := ((hst.2 (s1.next + 0) (by simp only [VAL]; omega) (by omega) off_nil off_nil).1)
  simp (disch := omega) only [VAL] at hb0
  simp (disch := omega) only [↓CTL, VAL, Nat.reduceBEq, Nat.reduceAdd, hb0, o0x0]
  refine putOne (W := WC (fun N => s.next ≤ N) s1) (q1 s1 _ _ _ t1) hw1 hp1 ?l1 ?l2 fun _ s3 nv2 sv2 hp2 hst2 => ?_
  case l1 => simp only [List.length_append, List.length_nil]; omega
  case l2 => simp only [List.length_append, List.length_nil]; omega
  have hw2 : WC (fun N => s.next ≤ N) s1 _ _ _ _ := WC.stays _ _ _ _ _ _ _ hw1 hst2
  replace hst := hst.trans hst2
  have bx : True := trivial
  have hb0 := ((hst.2 (s1.next + 0) (by simp only [VAL]; omega) (by omega) off_nil off_nil).1)
  simp (disch := omega) only [VAL] at hb0
  simp (disch := omega) only [↓CTL, VAL, Nat.reduceBEq, Nat.reduceAdd, hb0, o0x0]
  refine putOne (W := WC (fun N => s.next ≤ N) s1) (q2 s1 _ _ _ t2) hw2 hp2 ?l1 ?l2 fun _ s4 nv3 sv3 hp3 hst3 => ?_
  case l1 => simp only [List.length_append, List.length_nil]; omega
  case l2 => simp only [List.length_append, List.length_nil]; omega
  have hw3 : WC (fun N => s.next ≤ N) s1 _ _ _ _ := WC.stays _ _ _ _ _ _ _ hw2 hst3
  replace hst := hst.trans hst3
  have hsame := fun M hM hM2 => (hst.2 M hM hM2 off_nil off_nil).1
  have hn := hst.1
  try simp only [VAL] at hsame hn
  have bx : True := trivial
  have hb0 := ((hst.2 (s1.next + 0) (by simp only [VAL]; omega) (by omega) off_nil off_nil).1)
  simp (disch := omega) only [VAL] at hb0
  simp (disch := omega) only [↓CTL, VAL, Nat.reduceBEq, Nat.reduceAdd, hb0, o0x0]
  have hM : ∀ M, s.next ≤ M → M < s1.next → s4.objs M = s1.objs M := fun M h1 h2 => by rw [hsame M (by omega) (by omega)]; try simp (disch := omega) only [VAL]
  refine ⟨_, s1.next + 1, nv3, sv3, rfl, by omega, by simpa using hp3, fun M hM hM2 => ?_, ?_⟩
  · rw [hsame M (by omega) hM2]
    try simp (disch := omega) only [VAL]
    exact hE.2 M hM
  · refine RunV.func mixed k16 (by simp) ?_
    simp (disch := omega) only [c16, ↓CTL, VAL, Nat.reduceBEq, Nat.reduceAdd]
    have x0 : BoxOk s4 (btw s.next (s1.next + 1)) (s1.next + 0) [(.sl [(.int .i64)])] := .mk1 ⟨by omega, by omega⟩ (by omega) hb0 rfl (t0.box (by omega) (by omega) hM)
    refine (w17.box x0).mono fun o r0 ⟨⟨v, hv⟩, h0⟩ => ?_
    subst hv
    simp (disch := omega) only [↓CTL, VAL, Nat.reduceBEq, Nat.reduceAdd]
    exact ⟨⟨_, rfl⟩, h0.done⟩
theorem q18 (x : XA) (X : Nat) : ∃ A B, A.length ≤ 1099511627776 ∧ B.length ≤ 1099511627776 ∧ CallSpec Tryz.prog (.func (.func 18) [] [.ptr X 0 0]) X (.cells 14 [x.row]) A B := by
  obtain ⟨ds, hz, hc⟩ := RunV.uniT (P := Tryz.prog) (f := 19) (show ∀ a ∈ [.agg [.int .i64 x.c0, .int .i64 x.c1, x.v2, x.v3], .agg [.int .i64 x.c4, .int .i64 x.c5, .int .i64 x.c6, .int .i64 x.c7, .int .i64 x.c8, .int .i64 x.c9], .str x.c11], Clo a from (c_cons (Clo.part (agg := true) (n := 4) (off := 0) x.clo rfl) (c_cons (Clo.part (agg := true) (n := 6) (off := 4) x.clo rfl) (c_cons (Clo.part (agg := false) (n := 1) (off := 11) x.clo rfl) c_nil)))) [(false, [(.sl [(.int .i64), (.int .i64), (.int .i64), (.int .i64)])]), (false, [(.int .i64)])] SmallD (e19 x)
  obtain ⟨_, _, ⟨_, _, hr0, _⟩, _⟩ := hc nilHeap
  obtain ⟨d0, ds0, _, _, rfl, _, ⟨_, _, _, l0⟩, hr1⟩ := hr0.dcons
  have l0 := l0.dl
  obtain ⟨d1, ds1, _, _, rfl, _, ⟨_, _, _, l1⟩, hr2⟩ := hr1.dcons
  have l1 := l1.dl
  obtain ⟨rfl, _⟩ := hr2.dnil
  have z0 := hz d0 (by simp)
  obtain ⟨A0, B0, a0, b0, q0⟩ := p20.2 d0 l0 (by omega)
  have z1 := hz d1 (by simp)
  obtain ⟨A1, B1, a1, b1, q1⟩ := p9.2 d1 l1 (by omega)
  refine ⟨(([] ++ A0) ++ A1), (([] ++ B0) ++ B1), by simp only [List.length_append, List.length_nil]; omega, by simp only [List.length_append, List.length_nil]; omega, fun s H hX hxo hH hne hobj => ?_⟩
  refine RunV.func mixed k18 (by simp) ?_
  rw [XA.row_eq] at hxo
  simp (disch := omega) only [c18, ↓CTL, VAL, Nat.reduceBEq, Nat.reduceAdd, hxo, x.o2, x.o3, x.o12]
  refine (hc s).mono fun o s1 ⟨vs, ho, hR0, hE⟩ => ?_
  obtain ⟨_, _, u0, vs0, hd, rfl, ⟨cs0, hv0, _, t0⟩, hR1⟩ := hR0.dcons
  cases hd
  obtain ⟨_, _, y0x0, cs0, rfl, rfl, g0x0, t0k1⟩ := t0.uncons
  have o0x0 := g0x0.one
  obtain ⟨rfl, rfl⟩ := t0k1.unnil
  rw [valOf_f] at hv0
  subst hv0
  obtain ⟨_, _, u1, vs1, hd, rfl, ⟨cs1, hv1, _, t1⟩, hR2⟩ := hR1.dcons
  cases hd
  obtain ⟨_, _, y1x0, cs1, rfl, rfl, g1x0, t1k1⟩ := t1.uncons
  obtain ⟨n1x0, rfl⟩ := g1x0.int'
  obtain ⟨rfl, rfl⟩ := t1k1.unnil
  rw [valOf_f] at hv1
  subst hv1
  obtain ⟨_, rfl⟩ := hR2.dnil
  subst ho
  have e1 := hE.1
  simp (disch := omega) only [↓CTL, VAL, Nat.reduceBEq, Nat.reduceAdd, tupA_one, tupA_two, o0x0]
  refine putOne (W := WC (fun N => s.next ≤ N) s1) (q0 s1 _ _ _ t0) ?w (Hp.new ?h1 ?h2) ?l1 ?l2 fun _ s2 nv1 sv1 hp1 hst1 => ?_
  case h1 => (try simp only [VAL]); omega
  case h2 => (try simp (disch := omega) only [VAL]); rw [hE.2 H hH]; exact hobj
  case w => exact ⟨by (try simp only [VAL]); omega, fun N h1 h2 => ⟨by omega, off_nil, off_nil, by first | rfl | (simp (disch := omega) only [VAL])⟩⟩
  case l1 => simp only [List.length_append, List.length_nil]; omega
  case l2 => simp only [List.length_append, List.length_nil]; omega
  have hw1 : WC (fun N => s.next ≤ N) s1 _ _ _ _ := WC.stays _ _ _ _ _ _ _ (show WC (fun N => s.next ≤ N) s1 H _ .nilS .nilS from ⟨by (try simp only [VAL]); omega, fun N h1 h2 => ⟨by omega, off_nil, off_nil, by first | rfl | (simp (disch := omega) only [VAL])⟩⟩) hst1
  have hst := hst1
  have bx : True := trivial
  have hb0 := ((hst.2 (s1.next + 0) (by simp only [VAL]; omega) (by omega) off_nil off_nil).1)
  simp (disch := omega) only [VAL] at hb0
  simp (disch := omega) only [↓CTL, VAL, Nat.reduceBEq, Nat.reduceAdd, hb0, o0x0]
  refine putOne (W := WC (fun N => s.next ≤ N) s1) (q1 s1 _ _ _ t1) hw1 hp1 ?l1 ?l2 fun _ s3 nv2 sv2 hp2 hst2 => ?_
  case l1 => simp only [List.length_append, List.length_nil]; omega
  case l2 => simp only [List.length_append, List.length_nil]; omega
  have hw2 : WC (fun N => s.next ≤ N) s1 _ _ _ _ := WC.stays _ _ _ _ _ _ _ hw1 hst2
  replace hst := hst.trans hst2
  have hsame := fun M hM hM2 => (hst.2 M hM hM2 off_nil off_nil).1
  have hn := hst.1
  try simp only [VAL] at hsame hn
  have bx : True := trivial
  have hb0 := ((hst.2 (s1.next + 0) (by simp only [VAL]; omega) (by omega) off_nil off_nil).1)
  simp (disch := omega) only [VAL] at hb0
  simp (disch := omega) only [↓CTL, VAL, Nat.reduceBEq, Nat.reduceAdd, hb0, o0x0]
  have hM : ∀ M, s.next ≤ M → M < s1.next → s3.objs M = s1.objs M := fun M h1 h2 => by rw [hsame M (by omega) (by omega)]; try simp (disch := omega) only [VAL]
  refine ⟨_, s1.next + 1, nv2, sv2, rfl, by omega, by simpa using hp2, fun M hM hM2 => ?_, ?_⟩
  · rw [hsame M (by omega) hM2]
    try simp (disch := omega) only [VAL]
    exact hE.2 M hM
  · refine RunV.func mixed k21 (by simp) ?_
    simp (disch := omega) only [c21, ↓CTL, VAL, Nat.reduceBEq, Nat.reduceAdd]
    have x0 : BoxOk s3 (btw s.next (s1.next + 1)) (s1.next + 0) [(.sl [(.int .i64), (.int .i64), (.int .i64), (.int .i64)])] := .mk1 ⟨by omega, by omega⟩ (by omega) hb0 rfl (t0.box (by omega) (by omega) hM)
    refine (w22.box x0).mono fun o r0 ⟨⟨v, hv⟩, h0⟩ => ?_
    subst hv
    simp (disch := omega) only [↓CTL, VAL, Nat.reduceBEq, Nat.reduceAdd]
    exact ⟨⟨_, rfl⟩, h0.done⟩
theorem q23 (x : XA) (X : Nat) : ∃ A B, A.length ≤ 1099511627776 ∧ B.length ≤ 1099511627776 ∧ CallSpec Tryz.prog (.func (.func 23) [] [.ptr X 0 0]) X (.cells 14 [x.row]) A B := by
  obtain ⟨ds, hz, hc⟩ := RunV.uniT (P := Tryz.prog) (f := 24) (show ∀ a ∈ [.agg [.int .i64 x.c0, .int .i64 x.c1, x.v2, x.v3], .agg [.int .i64 x.c4, .int .i64 x.c5, .int .i64 x.c6, .int .i64 x.c7, .int .i64 x.c8, .int .i64 x.c9], .str x.c11], Clo a from (c_cons (Clo.part (agg := true) (n := 4) (off := 0) x.clo rfl) (c_cons (Clo.part (agg := true) (n := 6) (off := 4) x.clo rfl) (c_cons (Clo.part (agg := false) (n := 1) (off := 11) x.clo rfl) c_nil)))) [(false, [(.sl [(.int .i64)])]), (false, [(.int .i64)])] SmallD (e24 x)
  obtain ⟨_, _, ⟨_, _, hr0, _⟩, _⟩ := hc nilHeap
  obtain ⟨d0, ds0, _, _, rfl, _, ⟨_, _, _, l0⟩, hr1⟩ := hr0.dcons
  have l0 := l0.dl
  obtain ⟨d1, ds1, _, _, rfl, _, ⟨_, _, _, l1⟩, hr2⟩ := hr1.dcons
  have l1 := l1.dl
  obtain ⟨rfl, _⟩ := hr2.dnil
  have z0 := hz d0 (by simp)
  obtain ⟨A0, B0, a0, b0, q0⟩ := p15.2 d0 l0 (by omega)
  have z1 := hz d1 (by simp)
  obtain ⟨A1, B1, a1, b1, q1⟩ := p9.2 d1 l1 (by omega)
  refine ⟨(([] ++ A0) ++ A1), (([] ++ B0) ++ B1), by simp only [List.length_append, List.length_nil]; omega, by simp only [List.length_append, List.length_nil]; omega, fun s H hX hxo hH hne hobj => ?_⟩
  refine RunV.func mixed k23 (by simp) ?_
  rw [XA.row_eq] at hxo
  simp (disch := omega) only [c23, ↓CTL, VAL, Nat.reduceBEq, Nat.reduceAdd, hxo, x.o2, x.o3, x.o12]
  refine (hc s).mono fun o s1 ⟨vs, ho, hR0, hE⟩ => ?_
  obtain ⟨_, _, u0, vs0, hd, rfl, ⟨cs0, hv0, _, t0⟩, hR1⟩ := hR0.dcons
  cases hd
  obtain ⟨_, _, y0x0, cs0, rfl, rfl, g0x0, t0k1⟩ := t0.uncons
  have o0x0 := g0x0.one
  obtain ⟨rfl, rfl⟩ := t0k1.unnil
  rw [valOf_f] at hv0
  subst hv0
  obtain ⟨_, _, u1, vs1, hd, rfl, ⟨cs1, hv1, _, t1⟩, hR2⟩ := hR1.dcons
  cases hd
  obtain ⟨_, _, y1x0, cs1, rfl, rfl, g1x0, t1k1⟩ := t1.uncons
  obtain ⟨n1x0, rfl⟩ := g1x0.int'
  obtain ⟨rfl, rfl⟩ := t1k1.unnil
  rw [valOf_f] at hv1
  subst hv1
  obtain ⟨_, rfl⟩ := hR2.dnil
  subst ho
  have e1 := hE.1
  simp (disch := omega) only [↓CTL, VAL, Nat.reduceBEq, Nat.reduceAdd, tupA_one, tupA_two, o0x0]
  refine putOne (W := WC (fun N => s.next ≤ N) s1) (q0 s1 _ _ _ t0) ?w (Hp.new ?h1 ?h2) ?l1 ?l2 fun _ s2 nv1 sv1 hp1 hst1 => ?_
  case h1 => (try simp only [VAL]); omega
  case h2 => (try simp (disch := omega) only [VAL]); rw [hE.2 H hH]; exact hobj
  case w => exact ⟨by (try simp only [VAL]); omega, fun N h1 h2 => ⟨by omega, off_nil, off_nil, by first | rfl | (simp (disch := omega) only [VAL])⟩⟩
  case l1 => simp only [List.length_append, List.length_nil]; omega
  case l2 => simp only [List.length_append, List.length_nil]; omega
  have hw1 : WC (fun N => s.next ≤ N) s1 _ _ _ _ := WC.stays _ _ _ _ _ _ _ (show WC (fun N => s.next ≤ N) s1 H _ .nilS .nilS from ⟨by (try simp only [VAL]); omega, fun N h1 h2 => ⟨by omega, off_nil, off_nil, by first | rfl | (simp (disch := omega) only [VAL])⟩⟩) hst1
  have hst := hst1
  have bx : True := trivial
  have hb0 := ((hst.2 (s1.next + 0) (by simp only [VAL]; omega) (by omega) off_nil off_nil).1)
  simp (disch := omega) only [VAL] at hb0
  simp (disch := omega) only [↓CTL, VAL, Nat.reduceBEq, Nat.reduceAdd, hb0, o0x0]
  refine putOne (W := WC (fun N => s.next ≤ N) s1) (q1 s1 _ _ _ t1) hw1 hp1 ?l1 ?l2 fun _ s3 nv2 sv2 hp2 hst2 => ?_
  case l1 => simp only [List.length_append, List.length_nil]; omega
  case l2 => simp only [List.length_append, List.length_nil]; omega
  have hw2 : WC (fun N => s.next ≤ N) s1 _ _ _ _ := WC.stays _ _ _ _ _ _ _ hw1 hst2
  replace hst := hst.trans hst2
  have hsame := fun M hM hM2 => (hst.2 M hM hM2 off_nil off_nil).1
  have hn := hst.1
  try simp only [VAL] at hsame hn
  have bx : True := trivial
  have hb0 := ((hst.2 (s1.next + 0) (by simp only [VAL]; omega) (by omega) off_nil off_nil).1)
  simp (disch := omega) only [VAL] at hb0
  simp (disch := omega) only [↓CTL, VAL, Nat.reduceBEq, Nat.reduceAdd, hb0, o0x0]
  have hM : ∀ M, s.next ≤ M → M < s1.next → s3.objs M = s1.objs M := fun M h1 h2 => by rw [hsame M (by omega) (by omega)]; try simp (disch := omega) only [VAL]
  refine ⟨_, s1.next + 1, nv2, sv2, rfl, by omega, by simpa using hp2, fun M hM hM2 => ?_, ?_⟩
  · rw [hsame M (by omega) hM2]
    try simp (disch := omega) only [VAL]
    exact hE.2 M hM
  · refine RunV.func mixed k25 (by simp) ?_
    simp (disch := omega) only [c25, ↓CTL, VAL, Nat.reduceBEq, Nat.reduceAdd]
    have x0 : BoxOk s3 (btw s.next (s1.next + 1)) (s1.next + 0) [(.sl [(.int .i64)])] := .mk1 ⟨by omega, by omega⟩ (by omega) hb0 rfl (t0.box (by omega) (by omega) hM)
    refine (w17.box x0).mono fun o r0 ⟨⟨v, hv⟩, h0⟩ => ?_
    subst hv
    simp (disch := omega) only [↓CTL, VAL, Nat.reduceBEq, Nat.reduceAdd]
    exact ⟨⟨_, rfl⟩, h0.done⟩
theorem q26 (x : XA) (X : Nat) : ∃ A B, A.length ≤ 1099511627776 ∧ B.length ≤ 1099511627776 ∧ CallSpec Tryz.prog (.func (.func 26) [] [.ptr X 0 0]) X (.cells 14 [x.row]) A B := by
  obtain ⟨ds, hz, hc⟩ := RunV.uniT (P := Tryz.prog) (f := 27) (show ∀ a ∈ [.agg [.int .i64 x.c0, .int .i64 x.c1, x.v2, x.v3], .agg [.int .i64 x.c4, .int .i64 x.c5, .int .i64 x.c6, .int .i64 x.c7, .int .i64 x.c8, .int .i64 x.c9], .str x.c11, x.v12], Clo a from (c_cons (Clo.part (agg := true) (n := 4) (off := 0) x.clo rfl) (c_cons (Clo.part (agg := true) (n := 6) (off := 4) x.clo rfl) (c_cons (Clo.part (agg := false) (n := 1) (off := 11) x.clo rfl) (c_cons (Clo.part (agg := false) (n := 1) (off := 12) x.clo rfl) c_nil))))) [(false, [(.int .i64)]), (false, [(.int .i64)])] SmallD (e27 x)
  obtain ⟨_, _, ⟨_, _, hr0, _⟩, _⟩ := hc nilHeap
  obtain ⟨d0, ds0, _, _, rfl, _, ⟨_, _, _, l0⟩, hr1⟩ := hr0.dcons
  have l0 := l0.dl
  obtain ⟨d1, ds1, _, _, rfl, _, ⟨_, _, _, l1⟩, hr2⟩ := hr1.dcons
  have l1 := l1.dl
  obtain ⟨rfl, _⟩ := hr2.dnil
  have z0 := hz d0 (by simp)
  obtain ⟨A0, B0, a0, b0, q0⟩ := p8.2 d0 l0 (by omega)
  have z1 := hz d1 (by simp)
  obtain ⟨A1, B1, a1, b1, q1⟩ := p9.2 d1 l1 (by omega)
  refine ⟨(([] ++ A0) ++ A1), (([] ++ B0) ++ B1), by simp only [List.length_append, List.length_nil]; omega, by simp only [List.length_append, List.length_nil]; omega, fun s H hX hxo hH hne hobj => ?_⟩
  refine RunV.func mixed k26 (by simp) ?_
  rw [XA.row_eq] at hxo
  simp (disch := omega) only [c26, ↓CTL, VAL, Nat.reduceBEq, Nat.reduceAdd, hxo, x.o2, x.o3, x.o12]
  refine (hc s).mono fun o s1 ⟨vs, ho, hR0, hE⟩ => ?_
  obtain ⟨_, _, u0, vs0, hd, rfl, ⟨cs0, hv0, _, t0⟩, hR1⟩ := hR0.dcons
  cases hd
  obtain ⟨_, _, y0x0, cs0, rfl, rfl, g0x0, t0k1⟩ := t0.uncons
  obtain ⟨n0x0, rfl⟩ := g0x0.int'
  obtain ⟨rfl, rfl⟩ := t0k1.unnil
  rw [valOf_f] at hv0
  subst hv0
  obtain ⟨_, _, u1, vs1, hd, rfl, ⟨cs1, hv1, _, t1⟩, hR2⟩ := hR1.dcons
  cases hd
  obtain ⟨_, _, y1x0, cs1, rfl, rfl, g1x0, t1k1⟩ := t1.uncons
  obtain ⟨n1x0, rfl⟩ := g1x0.int'
  obtain ⟨rfl, rfl⟩ := t1k1.unnil
  rw [valOf_f] at hv1
  subst hv1
  obtain ⟨_, rfl⟩ := hR2.dnil
  subst ho
  have e1 := hE.1
  simp (disch := omega) only [↓CTL, VAL, Nat.reduceBEq, Nat.reduceAdd, tupA_one, tupA_two]
  refine putOne (W := WC (fun N => s.next ≤ N) s1) (q0 s1 _ _ _ t0) ?w (Hp.new ?h1 ?h2) ?l1 ?l2 fun _ s2 nv1 sv1 hp1 hst1 => ?_
  case h1 => (try simp only [VAL]); omega
  case h2 => (try simp (disch := omega) only [VAL]); rw [hE.2 H hH]; exact hobj
  case w => exact ⟨by (try simp only [VAL]); omega, fun N h1 h2 => ⟨by omega, off_nil, off_nil, by first | rfl | (simp (disch := omega) only [VAL])⟩⟩
  case l1 => simp only [List.length_append, List.length_nil]; omega
  case l2 => simp only [List.length_append, List.length_nil]; omega
  have hw1 : WC (fun N => s.next ≤ N) s1 _ _ _ _ := WC.stays _ _ _ _ _ _ _ (show WC (fun N => s.next ≤ N) s1 H _ .nilS .nilS from ⟨by (try simp only [VAL]); omega, fun N h1 h2 => ⟨by omega, off_nil, off_nil, by first | rfl | (simp (disch := omega) only [VAL])⟩⟩) hst1
  have hst := hst1
  have bx : True := trivial
  simp (disch := omega) only [↓CTL, VAL, Nat.reduceBEq, Nat.reduceAdd]
  refine putOne (W := WC (fun N => s.next ≤ N) s1) (q1 s1 _ _ _ t1) hw1 hp1 ?l1 ?l2 fun _ s3 nv2 sv2 hp2 hst2 => ?_
  case l1 => simp only [List.length_append, List.length_nil]; omega
  case l2 => simp only [List.length_append, List.length_nil]; omega
  have hw2 : WC (fun N => s.next ≤ N) s1 _ _ _ _ := WC.stays _ _ _ _ _ _ _ hw1 hst2
  replace hst := hst.trans hst2
  have hsame := fun M hM hM2 => (hst.2 M hM hM2 off_nil off_nil).1
  have hn := hst.1
  try simp only [VAL] at hsame hn
  have bx : True := trivial
  simp (disch := omega) only [↓CTL, VAL, Nat.reduceBEq, Nat.reduceAdd]
  have hM : ∀ M, s.next ≤ M → M < s1.next → s3.objs M = s1.objs M := fun M h1 h2 => by rw [hsame M (by omega) (by omega)]; try simp (disch := omega) only [VAL]
  refine ⟨_, s1.next + 0, nv2, sv2, rfl, by omega, by simpa using hp2, fun M hM hM2 => ?_, ?_⟩
  · rw [hsame M (by omega) hM2]
    try simp (disch := omega) only [VAL]
    exact hE.2 M hM
  · exact (nothing_spec mixed (f := 10) (by kernel_rfl) _).mono fun o s' ⟨h1, h2⟩ => by subst h2; exact ⟨h1, Nat.le_refl _, fun _ _ _ => rfl⟩
theorem q28 (x : XA) (X : Nat) : ∃ A B, A.length ≤ 1099511627776 ∧ B.length ≤ 1099511627776 ∧ CallSpec Tryz.prog (.func (.func 28) [] [.ptr X 0 0]) X (.cells 14 [x.row]) A B := by
  obtain ⟨ds, hz, hc⟩ := RunV.uniT (P := Tryz.prog) (f := 29) (show ∀ a ∈ [.agg [.int .i64 x.c0, .int .i64 x.c1, x.v2, x.v3], .agg [.int .i64 x.c4, .int .i64 x.c5, .int .i64 x.c6, .int .i64 x.c7, .int .i64 x.c8, .int .i64 x.c9], .str x.c11], Clo a from (c_cons (Clo.part (agg := true) (n := 4) (off := 0) x.clo rfl) (c_cons (Clo.part (agg := true) (n := 6) (off := 4) x.clo rfl) (c_cons (Clo.part (agg := false) (n := 1) (off := 11) x.clo rfl) c_nil)))) [(false, [(.sl [(.int .i64), (.int .i64), (.sl [(.int .u8)])])]), (false, [(.int .i64)])] SmallD (e29 x)
  obtain ⟨_, _, ⟨_, _, hr0, _⟩, _⟩ := hc nilHeap
  obtain ⟨d0, ds0, _, _, rfl, _, ⟨_, _, _, l0⟩, hr1⟩ := hr0.dcons
  have l0 := l0.dl
  obtain ⟨d1, ds1, _, _, rfl, _, ⟨_, _, _, l1⟩, hr2⟩ := hr1.dcons
  have l1 := l1.dl
  obtain ⟨rfl, _⟩ := hr2.dnil
  have z0 := hz d0 (by simp)
  obtain ⟨A0, B0, a0, b0, q0⟩ := p30.2 d0 l0 (by omega)
  have z1 := hz d1 (by simp)
  obtain ⟨A1, B1, a1, b1, q1⟩ := p9.2 d1 l1 (by omega)
  refine ⟨(([] ++ A0) ++ A1), (([] ++ B0) ++ B1), by simp only [List.length_append, List.length_nil]; omega, by simp only [List.length_append, List.length_nil]; omega, fun s H hX hxo hH hne hobj => ?_⟩
  refine RunV.func mixed k28 (by simp) ?_
  rw [XA.row_eq] at hxo
  simp (disch := omega) only [c28, ↓CTL, VAL, Nat.reduceBEq, Nat.reduceAdd, hxo, x.o2, x.o3, x.o12]
  refine (hc s).mono fun o s1 ⟨vs, ho, hR0, hE⟩ => ?_
  obtain ⟨_, _, u0, vs0, hd, rfl, ⟨cs0, hv0, _, t0⟩, hR1⟩ := hR0.dcons
  cases hd
  obtain ⟨_, _, y0x0, cs0, rfl, rfl, g0x0, t0k1⟩ := t0.uncons
  have o0x0 := g0x0.one
  obtain ⟨rfl, rfl⟩ := t0k1.unnil
  rw [valOf_f] at hv0
  subst hv0
  obtain ⟨_, _, u1, vs1, hd, rfl, ⟨cs1, hv1, _, t1⟩, hR2⟩ := hR1.dcons
  cases hd
  obtain ⟨_, _, y1x0, cs1, rfl, rfl, g1x0, t1k1⟩ := t1.uncons
  obtain ⟨n1x0, rfl⟩ := g1x0.int'
  obtain ⟨rfl, rfl⟩ := t1k1.unnil
  rw [valOf_f] at hv1
  subst hv1
  obtain ⟨_, rfl⟩ := hR2.dnil
  subst ho
  have e1 := hE.1
  simp (disch := omega) only [↓CTL, VAL, Nat.reduceBEq, Nat.reduceAdd, tupA_one, tupA_two, o0x0]
  refine putOne (W := WC (fun N => s.next ≤ N) s1) (q0 s1 _ _ _ t0) ?w (Hp.new ?h1 ?h2) ?l1 ?l2 fun _ s2 nv1 sv1 hp1 hst1 => ?_
  case h1 => (try simp only [VAL]); omega
  case h2 => (try simp (disch := omega) only [VAL]); rw [hE.2 H hH]; exact hobj
  case w => exact ⟨by (try simp only [VAL]); omega, fun N h1 h2 => ⟨by omega, off_nil, off_nil, by first | rfl | (simp (disch := omega) only [VAL])⟩⟩
  case l1 => simp only [List.length_append, List.length_nil]; omega
  case l2 => simp only [List.length_append, List.length_nil]; omega
  have hw1 : WC (fun N => s.next ≤ N) s1 _ _ _ _ := WC.stays _ _ _ _ _ _ _ (show WC (fun N => s.next ≤ N) s1 H _ .nilS .nilS from ⟨by (try simp only [VAL]); omega, fun N h1 h2 => ⟨by omega, off_nil, off_nil, by first | rfl | (simp (disch := omega) only [VAL])⟩⟩) hst1
  have hst := hst1
  have bx : True := trivial
  have hb0 := ((hst.2 (s1.next + 0) (by simp only [VAL]; omega) (by omega) off_nil off_nil).1)
  simp (disch := omega) only [VAL] at hb0
  simp (disch := omega) only [↓CTL, VAL, Nat.reduceBEq, Nat.reduceAdd, hb0, o0x0]
  refine putOne (W := WC (fun N => s.next ≤ N) s1) (q1 s1 _ _ _ t1) hw1 hp1 ?l1 ?l2 fun _ s3 nv2 sv2 hp2 hst2 => ?_
  case l1 => simp only [List.length_append, List.length_nil]; omega
  case l2 => simp only [List.length_append, List.length_nil]; omega
  have hw2 : WC (fun N => s.next ≤ N) s1 _ _ _ _ := WC.stays _ _ _ _ _ _ _ hw1 hst2
  replace hst := hst.trans hst2
  have hsame := fun M hM hM2 => (hst.2 M hM hM2 off_nil off_nil).1
  have hn := hst.1
  try simp only [VAL] at hsame hn
  have bx : True := trivial
  have hb0 := ((hst.2 (s1.next + 0) (by simp only [VAL]; omega) (by omega) off_nil off_nil).1)
  simp (disch := omega) only [VAL] at hb0
  simp (disch := omega) only [↓CTL, VAL, Nat.reduceBEq, Nat.reduceAdd, hb0, o0x0]
  have hM : ∀ M, s.next ≤ M → M < s1.next → s3.objs M = s1.objs M := fun M h1 h2 => by rw [hsame M (by omega) (by omega)]; try simp (disch := omega) only [VAL]
  refine ⟨_, s1.next + 1, nv2, sv2, rfl, by omega, by simpa using hp2, fun M hM hM2 => ?_, ?_⟩
  · rw [hsame M (by omega) hM2]
    try simp (disch := omega) only [VAL]
    exact hE.2 M hM
  · refine RunV.func mixed k31 (by simp) ?_
    simp (disch := omega) only [c31, ↓CTL, VAL, Nat.reduceBEq, Nat.reduceAdd]
    have x0 : BoxOk s3 (btw s.next (s1.next + 1)) (s1.next + 0) [(.sl [(.int .i64), (.int .i64), (.sl [(.int .u8)])])] := .mk1 ⟨by omega, by omega⟩ (by omega) hb0 rfl (t0.box (by omega) (by omega) hM)
    refine (w32.box x0).mono fun o r0 ⟨⟨v, hv⟩, h0⟩ => ?_
    subst hv
    simp (disch := omega) only [↓CTL, VAL, Nat.reduceBEq, Nat.reduceAdd]
    exact ⟨⟨_, rfl⟩, h0.done⟩
theorem q33 (x : XA) (X : Nat) : ∃ A B, A.length ≤ 1099511627776 ∧ B.length ≤ 1099511627776 ∧ CallSpec Tryz.prog (.func (.func 33) [] [.ptr X 0 0]) X (.cells 14 [x.row]) A B := by
  obtain ⟨ds, hz, hc⟩ := RunV.uniT (P := Tryz.prog) (f := 34) (show ∀ a ∈ [.agg [.int .i64 x.c0, .int .i64 x.c1, x.v2, x.v3], .agg [.int .i64 x.c4, .int .i64 x.c5, .int .i64 x.c6, .int .i64 x.c7, .int .i64 x.c8, .int .i64 x.c9], .str x.c11, .int .i64 x.c13], Clo a from (c_cons (Clo.part (agg := true) (n := 4) (off := 0) x.clo rfl) (c_cons (Clo.part (agg := true) (n := 6) (off := 4) x.clo rfl) (c_cons (Clo.part (agg := false) (n := 1) (off := 11) x.clo rfl) (c_cons (Clo.part (agg := false) (n := 1) (off := 13) x.clo rfl) c_nil))))) [(true, [(.int .i64), (.int .i64), (.int .i64)]), (false, [(.int .i64)])] SmallD (e34 x)
  obtain ⟨_, _, ⟨_, _, hr0, _⟩, _⟩ := hc nilHeap
  obtain ⟨d0, ds0, _, _, rfl, _, ⟨_, _, _, l0⟩, hr1⟩ := hr0.dcons
  have l0 := l0.dl
  obtain ⟨d1, ds1, _, _, rfl, _, ⟨_, _, _, l1⟩, hr2⟩ := hr1.dcons
  have l1 := l1.dl
  obtain ⟨rfl, _⟩ := hr2.dnil
  have z0 := hz d0 (by simp)
  obtain ⟨A0, B0, a0, b0, q0⟩ := p35.2 d0 l0 (by omega)
  have z1 := hz d1 (by simp)
  obtain ⟨A1, B1, a1, b1, q1⟩ := p9.2 d1 l1 (by omega)
  refine ⟨(([] ++ A0) ++ A1), (([] ++ B0) ++ B1), by simp only [List.length_append, List.length_nil]; omega, by simp only [List.length_append, List.length_nil]; omega, fun s H hX hxo hH hne hobj => ?_⟩
  refine RunV.func mixed k33 (by simp) ?_
  rw [XA.row_eq] at hxo
  simp (disch := omega) only [c33, ↓CTL, VAL, Nat.reduceBEq, Nat.reduceAdd, hxo, x.o2, x.o3, x.o12]
  refine (hc s).mono fun o s1 ⟨vs, ho, hR0, hE⟩ => ?_
  obtain ⟨_, _, u0, vs0, hd, rfl, ⟨cs0, hv0, _, t0⟩, hR1⟩ := hR0.dcons
  cases hd
  obtain ⟨_, _, y0x0, cs0, rfl, rfl, g0x0, t0k1⟩ := t0.uncons
  obtain ⟨n0x0, rfl⟩ := g0x0.int'
  obtain ⟨_, _, y0x1, cs0, rfl, rfl, g0x1, t0k2⟩ := t0k1.uncons
  obtain ⟨n0x1, rfl⟩ := g0x1.int'
  obtain ⟨_, _, y0x2, cs0, rfl, rfl, g0x2, t0k3⟩ := t0k2.uncons
  obtain ⟨n0x2, rfl⟩ := g0x2.int'
  obtain ⟨rfl, rfl⟩ := t0k3.unnil
  rw [valOf_t] at hv0
  subst hv0
  obtain ⟨_, _, u1, vs1, hd, rfl, ⟨cs1, hv1, _, t1⟩, hR2⟩ := hR1.dcons
  cases hd
  obtain ⟨_, _, y1x0, cs1, rfl, rfl, g1x0, t1k1⟩ := t1.uncons
  obtain ⟨n1x0, rfl⟩ := g1x0.int'
  obtain ⟨rfl, rfl⟩ := t1k1.unnil
  rw [valOf_f] at hv1
  subst hv1
  obtain ⟨_, rfl⟩ := hR2.dnil
  subst ho
  have e1 := hE.1
  simp (disch := omega) only [↓CTL, VAL, Nat.reduceBEq, Nat.reduceAdd, tupA_one, tupA_two]
  refine putOne (W := WC (fun N => s.next ≤ N) s1) (q0 s1 _ _ _ t0) ?w (Hp.new ?h1 ?h2) ?l1 ?l2 fun _ s2 nv1 sv1 hp1 hst1 => ?_
  case h1 => (try simp only [VAL]); omega
  case h2 => (try simp (disch := omega) only [VAL]); rw [hE.2 H hH]; exact hobj
  case w => exact ⟨by (try simp only [VAL]); omega, fun N h1 h2 => ⟨by omega, off_nil, off_nil, by first | rfl | (simp (disch := omega) only [VAL])⟩⟩
  case l1 => simp only [List.length_append, List.length_nil]; omega
  case l2 => simp only [List.length_append, List.length_nil]; omega
  have hw1 : WC (fun N => s.next ≤ N) s1 _ _ _ _ := WC.stays _ _ _ _ _ _ _ (show WC (fun N => s.next ≤ N) s1 H _ .nilS .nilS from ⟨by (try simp only [VAL]); omega, fun N h1 h2 => ⟨by omega, off_nil, off_nil, by first | rfl | (simp (disch := omega) only [VAL])⟩⟩) hst1
  have hst := hst1
  have bx : True := trivial
  have hb0 := ((hst.2 (s1.next + 0) (by simp only [VAL]; omega) (by omega) off_nil off_nil).1)
  simp (disch := omega) only [VAL] at hb0
  simp (disch := omega) only [↓CTL, VAL, Nat.reduceBEq, Nat.reduceAdd, hb0]
  refine putOne (W := WC (fun N => s.next ≤ N) s1) (q1 s1 _ _ _ t1) hw1 hp1 ?l1 ?l2 fun _ s3 nv2 sv2 hp2 hst2 => ?_
  case l1 => simp only [List.length_append, List.length_nil]; omega
  case l2 => simp only [List.length_append, List.length_nil]; omega
  have hw2 : WC (fun N => s.next ≤ N) s1 _ _ _ _ := WC.stays _ _ _ _ _ _ _ hw1 hst2
  replace hst := hst.trans hst2
  have hsame := fun M hM hM2 => (hst.2 M hM hM2 off_nil off_nil).1
  have hn := hst.1
  try simp only [VAL] at hsame hn
  have bx : True := trivial
  have hb0 := ((hst.2 (s1.next + 0) (by simp only [VAL]; omega) (by omega) off_nil off_nil).1)
  simp (disch := omega) only [VAL] at hb0
  simp (disch := omega) only [↓CTL, VAL, Nat.reduceBEq, Nat.reduceAdd, hb0]
  have hM : ∀ M, s.next ≤ M → M < s1.next → s3.objs M = s1.objs M := fun M h1 h2 => by rw [hsame M (by omega) (by omega)]; try simp (disch := omega) only [VAL]
  refine ⟨_, s1.next + 1, nv2, sv2, rfl, by omega, by simpa using hp2, fun M hM hM2 => ?_, ?_⟩
  · rw [hsame M (by omega) hM2]
    try simp (disch := omega) only [VAL]
    exact hE.2 M hM
  · exact (nothing_spec mixed (f := 10) (by kernel_rfl) _).mono fun o s' ⟨h1, h2⟩ => by subst h2; exact ⟨h1, Nat.le_refl _, fun _ _ _ => rfl⟩
end Go.Proofs.YtkfahdbjndihfacGreatDoor
namespace Go.Proofs.YtkfahdbjndihfacGreatDoor
open Go.Tc
set_option linter.unusedSimpArgs false
set_option linter.unusedVariables false
set_option maxRecDepth 20000
theorem s3 (hA : ∀ {σ : AHeap} {Q : AOut → AHeap → Prop}, Q (.ret (.bool true)) σ → RunV Tryz.prog (.func (.func 37) [] []) [] σ Q) (x : XA) {σ : AHeap} {Q : AOut → AHeap → Prop} (hQ : Q (.ret (.bool true)) σ) : RunV Tryz.prog (.func (.func 3) [] []) [.agg x.row] σ Q := by
  obtain ⟨ds, htr, hz⟩ := x.tr
  obtain ⟨A, B, lA, lB, hall⟩ := all_puts.args htr hz
  have h1 := x.one
  have hr := XA.row_eq (x := x)
  rw [← hr] at hall
  clear htr
  generalize hg : x.row = row at *
  refine RunV.drop (RunV.func mixed k3 (by simp) ?_)
  have hlen : row.length = 14 := by rw [hr]; rfl
  have ht : row.take 14 = row := List.take_of_length_le (by omega)
  simp (disch := omega) only [c3, ↓CTL, VAL, Nat.reduceBEq, Nat.reduceAdd, h1, hlen, ht, AHeap.next_alloc]
  refine putAll_spec mixed all_code (by omega) h1 hall (by simp [allR]) (Hp.new (H := σ.next + 1) ?a ?b) (by simp; omega) (by simp; omega) fun v s1 nv1 sv1 hp1 hst1 => ?_
  case a => simp only [AHeap.next_alloc]; omega
  case b => simp (disch := omega) only [VAL]
  have n1 := hst1.1
  simp only [AHeap.next_alloc] at n1
  have hs1 : ∀ M, M < σ.next + 3 → M ≠ σ.next + 1 → s1.objs M = _ := fun M hM hM2 => (hst1.2 M (by simp only [AHeap.next_alloc]; omega) hM2 (fun _ _ _ _ h => by cases h) (fun _ _ _ _ h => by cases h)).1
  have hX := hs1 σ.next (by omega) (by omega)
  have hB := hs1 (σ.next + 1 + 1) (by omega) (by omega)
  have hS : ∀ M, M < σ.next → s1.objs M = σ.objs M := fun M hM => by rw [hs1 M (by omega) (by omega), objs_old (by simp only [AHeap.next_alloc]; omega), objs_old (by simp only [AHeap.next_alloc]; omega), objs_old (by omega)]
  simp (disch := omega) only [VAL] at hX hB
  simp (disch := omega) only [↓CTL, VAL, Nat.reduceBEq, Nat.reduceAdd]
  have ag : ∀ {C : AVal}, (∃ A B, A.length ≤ 1099511627776 ∧ B.length ≤ 1099511627776 ∧ CallSpec Tryz.prog C σ.next (.cells 14 [row]) A B) → ∀ {Q : AOut → AHeap → Prop}, Q (.ret (.bool true)) s1 → RunV Tryz.prog (.func (.func 5) [] []) [C] s1 Q := fun ⟨_, _, l1, l2, h⟩ _ hQ => again_spec mixed (f := 5) (sm := 36) (by kernel_rfl) (by kernel_rfl) h l1 l2 (by omega) hX hQ
  refine ag (hg ▸ q6 x _) ?_
  simp (disch := omega) only [↓CTL, VAL, Nat.reduceBEq, Nat.reduceAdd, hX, ht, hlen]
  refine ag (hg ▸ q11 x _) ?_
  simp (disch := omega) only [↓CTL, VAL, Nat.reduceBEq, Nat.reduceAdd, hX, ht, hlen]
  refine ag (hg ▸ q13 x _) ?_
  simp (disch := omega) only [↓CTL, VAL, Nat.reduceBEq, Nat.reduceAdd, hX, ht, hlen]
  refine ag (hg ▸ q18 x _) ?_
  simp (disch := omega) only [↓CTL, VAL, Nat.reduceBEq, Nat.reduceAdd, hX, ht, hlen]
  refine ag (hg ▸ q23 x _) ?_
  simp (disch := omega) only [↓CTL, VAL, Nat.reduceBEq, Nat.reduceAdd, hX, ht, hlen]
  refine ag (hg ▸ q26 x _) ?_
  simp (disch := omega) only [↓CTL, VAL, Nat.reduceBEq, Nat.reduceAdd, hX, ht, hlen]
  refine ag (hg ▸ q28 x _) ?_
  simp (disch := omega) only [↓CTL, VAL, Nat.reduceBEq, Nat.reduceAdd, hX, ht, hlen]
  refine ag (hg ▸ q33 x _) ?_
  simp (disch := omega) only [↓CTL, VAL, Nat.reduceBEq, Nat.reduceAdd, hX, ht, hlen]
  refine putAll_spec mixed all_code (by omega) h1 hall (by simp [allR]) (Hp.new (H := σ.next + 1 + 1) ?a ?b) (by simp; omega) (by simp; omega) fun v s2 nv2 sv2 hp2 hst2 => ?_
  case a => omega
  case b => exact hB
  have n2 := hst2.1
  have hs2 : ∀ M, M < s1.next → M ≠ σ.next + 1 + 1 → s2.objs M = s1.objs M := fun M hM hM2 => (hst2.2 M hM hM2 (fun _ _ _ _ h => by cases h) (fun _ _ _ _ h => by cases h)).1
  have o1 := (hs2 (σ.next + 1) (by omega) (by omega)).trans hp1.obj
  have o2 := hp2.obj
  have b2 := hp2.bn
  have on : OwnS s2 _ 1 rI nv1 _ := hp1.n.keep (by omega) fun M h1 h2 _ => hs2 M (by omega) (by simp only [AHeap.next_alloc] at h1; omega)
  have os : OwnS s2 _ 1 rS sv1 _ := hp1.s.keep (by omega) fun M h1 h2 _ => hs2 M (by omega) (by simp only [AHeap.next_alloc] at h1; omega)
  simp (disch := omega) only [↓CTL, VAL, Nat.reduceBEq, Nat.reduceAdd, o1, o2]
  refine same_spec mixed (f := 36) (by kernel_rfl) (fun s' h => (on.ext h).tv) (fun s' h => (hp2.n.ext h).tv) (fun s' h => (os.ext h).tv) (fun s' h => (hp2.s.ext h).tv) (by simp; omega) (by simp; omega) ?_
  simp (disch := omega) only [↓CTL, VAL, Nat.reduceBEq, Nat.reduceAdd]
  refine hA ?_
  simp (disch := omega) only [↓CTL, VAL, Nat.reduceBEq, Nat.reduceAdd]
  exact ⟨_, rfl, rfl, ⟨by omega, fun M hM => (hs2 M (by omega) (by omega)).trans (hS M hM)⟩, hQ⟩
end Go.Proofs.YtkfahdbjndihfacGreatDoor
namespace Go.Proofs.YtkfahdbjndihfacGreatDoor
open Go.Tc
set_option linter.unusedSimpArgs false
def orcT : List AVal → Option (ByteArray × UInt8)
  | [.str s, .str ⟨⟨[c]⟩⟩] => some (s, c)
  | _ => none
noncomputable def orc : Orc := fun f zs _ =>
  bif Nat.beq f 97 then (match orcT zs with | some (s, c) => some (.int .i64 (Lib.countByte s.data.toList c)) | none => none) else
  bif Nat.beq f 98 then (match orcT zs with | some (s, c) => some (.int .i64 (Lib.indexByte s.data.toList c)) | none => none) else none
theorem orcT_spec {zs : List AVal} {s : ByteArray} {c : UInt8} (h : orcT zs = some (s, c)) : zs = [.str s, .str ⟨#[c]⟩] := by
  unfold orcT at h
  split at h
  · cases h; rfl
  · cases h
theorem orc_sound : SoundO Tryz.prog orc := by
  intro f zs h v hx
  unfold orc at hx
  by_cases h1 : Nat.beq f 97 = true
  · rw [h1] at hx
    simp only [cond_true] at hx
    obtain rfl := Nat.eq_of_beq_eq_true h1
    split at hx
    · rename_i s c hs
      cases hx
      rw [orcT_spec hs]
      exact RunV.ofCalls (by kernel_rfl) strs2 (fun _ _ _ => .int _ _) (w97 s c) ⟨rfl, rfl⟩
    · cases hx
  · rw [Bool.not_eq_true] at h1
    rw [h1] at hx
    simp only [cond_false] at hx
    by_cases h2 : Nat.beq f 98 = true
    · rw [h2] at hx
      simp only [cond_true] at hx
      obtain rfl := Nat.eq_of_beq_eq_true h2
      split at hx
      · rename_i s c hs
        cases hx
        rw [orcT_spec hs]
        exact RunV.ofCalls (by kernel_rfl) strs2 (fun _ _ _ => .int _ _) (w98 s c) ⟨rfl, rfl⟩
      · cases hx
    · rw [Bool.not_eq_true] at h2
      rw [h2] at hx
      cases hx
end Go.Proofs.YtkfahdbjndihfacGreatDoor
namespace Go.Proofs.YtkfahdbjndihfacGreatDoor
open Go.Tc
theorem e37 : exTest2 Tryz.prog orc 2000 60 37 = true := by kernel_rfl
end Go.Proofs.YtkfahdbjndihfacGreatDoor
namespace Go.Proofs.YtkfahdbjndihfacGreatDoor
open Go.Tc
theorem s37 {σ : AHeap} {Q : AOut → AHeap → Prop} (hQ : Q (.ret (.bool true)) σ) : RunV Tryz.prog (.func (.func 37) [] []) [] σ Q := exTest2_spec mixed orc_sound e37 hQ
theorem top (x : XA) {σ : AHeap} {Q : AOut → AHeap → Prop} (hQ : Q (.ret (.bool true)) σ) : RunV Tryz.prog (.func (.func 3) [] []) [.agg x.row] σ Q := s3 s37 x hQ
end Go.Proofs.YtkfahdbjndihfacGreatDoor
namespace Go.Proofs.YtkfahdbjndihfacGreatDoor
open Go.Tc Go.ChangeShapes Go.WideShapes Go.ChangeAt Go.RowKit
theorem bulkS {H : Type} : Bulk (H := H) Rows.uptoBulk Rows.uptoBulkAll where
  pos d := by
    cases d with
    | lit l => cases l <;> simp [Rows.uptoBulk]
    | _ => simp [Rows.uptoBulk]
  sl es sp := by simp only [Rows.uptoBulk]; omega
  ag ps := by simp only [Rows.uptoBulk]; omega
  nil := by simp [Rows.uptoBulkAll]
  cons d l := by simp [Rows.uptoBulkAll]
theorem xaOf {H : Type} {d : DataW H} {xs : List AVal} (h : Sh Tryz.prog 30 d xs) (hb : Rows.uptoBulk d ≤ 1048576) : ∃ x : XA, xs = x.row := by
  obtain ⟨ds, h1, h2, h3⟩ := h.tr bulkS 30 argRow (by kernel_rfl)
  exact XA.of h1 (by omega) h3
set_option maxRecDepth 100000 in
theorem contract (H : Type) (enc : TypeId × Value → H) (W : World) (base : Nat) (args : Array Value) (ds gs : List (DataW H)) (before : List MemPlace)
    (hval : ∀ (j : Nat) t v, Tryz.f3.params[j]? = some t → args[j]? = some v → Value.okWide Tryz.prog W .any base t v)
    (hW : DataW.Whole enc Tryz.prog Tryz.f3.params.toList Rows.topAnewTitleSpec.vars false W args.toList ds gs before) (hk : Rows.uptoSmall H (ds ++ gs) = true) :
    Calls Tryz.prog 3 args W fun e W' => ∃ v, e = .returned v ∧ Rows.topAnewTitleSpec.post enc Tryz.prog Tryz.f3 false true false false W args v W' := by
  have hW' := hW
  obtain ⟨p, q, hA0, hV, rfl, hfz, hnd⟩ := hW
  have hA : DataW.TrodAll enc Tryz.prog W 0 (fun _ => true) true Tryz.f3.params.toList args.toList ds p := hA0
  rw [Tryz.params3] at hA hval
  obtain ⟨v0, vs0, d0, ds0, p0, q0, hargs, rfl, rfl, h0, r0⟩ := trodAll_cons hA
  obtain ⟨rfl, rfl, rfl⟩ := trodAll_nil r0
  obtain rfl : args = #[v0] := by cases args; simp_all
  obtain ⟨rfl, rfl⟩ := trodVars_none hV
  obtain ⟨fuel, hf⟩ := h0
  obtain ⟨cs, rfl, hcs⟩ := okWide_struct Tryz.underlying30 (hval 0 30 v0 rfl rfl)
  obtain ⟨xs, hs, hr⟩ := trod_sh 30 30 fuel _ _ (by kernel_rfl) hf
  have hb : Rows.uptoBulkAll [d0] ≤ 1048576 := of_decide_eq_true hk
  simp only [Rows.uptoBulkAll] at hb
  obtain ⟨x, rfl⟩ := xaOf hs (by simpa using hb)
  have hVR : VRels (fun _ => none) (fun b _ => b < W.heap.size) W [.agg x.row] #[.agg cs] := by
    refine ⟨rfl, fun i v u h1 h2 => ?_⟩
    cases i with
    | zero =>
      simp at h1 h2; subst h1; subst h2
      refine .agg (by have := hr.1; simpa [Value.cells] using this.symm) fun i v u h1 h2 => hr.2.2 i v u h1 (by simpa [Value.cells] using h2)
    | succ i => simp at h1
  have hcall := RunV.calls (P := Tryz.prog) (f := 3) (by kernel_rfl) (top x rfl) hVR
  refine hcall.mono fun e W' ⟨he, hB⟩ => ⟨_, he, ?_⟩
  have ht : ∀ t ∈ Tryz.f3.params.toList, Tryz.prog.readableRec t = true ∧ t < Tryz.prog.types.size := by
    rw [Tryz.params3]
    intro t ht
    obtain rfl : t = 30 := by simpa using ht
    exact ⟨by kernel_rfl, of_decide_eq_true (by kernel_rfl)⟩
  exact post_true (f := Tryz.f3) (tb := 4) (by kernel_rfl) rfl rfl Tryz.underlying4 ht hW' ⟨rfl, rfl, rfl⟩ hB
theorem own : ownKnob Tryz.prog.godebug = none := by kernel_rfl
noncomputable def arg0 : Value := ((Tryz.prog.info? 30).bind (·.zero)).getD default
def layCells (cs : Array Value) : Obj → Obj
  | .cells _ t frozen => .cells cs t frozen
  | o => o
noncomputable def laidWorld (os : Os) : World :=
  { World.holding Tryz.prog os ⟨#[], #[], []⟩ with
    heap := ((World.holding Tryz.prog os ⟨#[], #[], []⟩).heap.modify 1 (layCells (Go.Pinned.utf8FirstZ.map fun n : Nat => Value.int .u8 n).toArray)).modify 2 (layCells (([128, 191, 160, 191, 128, 159, 144, 191, 128, 143] ++ List.replicate 22 0).map fun n : Nat => Value.int .u8 n).toArray) }
set_option maxRecDepth 100000 in
theorem laid_met (os : Os) : laidMet Tryz.prog Rows.topAnewTitleUptoRow.laid ((laidWorld os).forCall (fun _ _ => 0) ⟨#[], #[arg0], []⟩).memory :=
  laidMet_of_run3 8 (by kernel_rfl) (by kernel_rfl) (by kernel_rfl)
set_option maxRecDepth 100000 in
theorem lifted (os : Os) (started : os.Started) (H : Type) (enc : TypeId × Value → H) (F : Stop.Interp) :
    ReturnsInHanded {} Tryz.checked os 3 .any ((Rows.OpenSpec.upto Rows.topAnewTitleSpec).preRow enc Tryz.prog Tryz.f3 Rows.topAnewTitleUptoRow.domain false Rows.topAnewTitleUptoRow.laid) (((Rows.OpenSpec.upto Rows.topAnewTitleSpec).at F).post enc Tryz.prog Tryz.f3 false true false false) := by
  refine returnsInHanded_of_row (C := Tryz.checked) (s := Rows.OpenSpec.upto Rows.topAnewTitleSpec) own started (by kernel_rfl) Tryz.func3
    (witness_row_at (enc := enc) (C := Tryz.checked) false (laidWorld os) #[arg0] rfl (by kernel_rfl) (by kernel_rfl) (by kernel_rfl)
      (OpenSpec.preRow_of_cond 8 (x := ((DataW.whole enc Tryz.prog ((laidWorld os).forCall (fun _ _ => 0) ⟨#[], #[arg0], []⟩).memory Tryz.f3.params.toList [] false [arg0] 8).getD default)) (by kernel_rfl) (by kernel_rfl) (fun k hk => by cases hk; kernel_rfl) (by kernel_rfl) (laid_met os))) ?_
  intro W base args ds gs before hval hW _ hcond _ _ _ _
  exact contract H enc W base args ds gs before hval hW (hcond _ rfl)
theorem saidUpto : Rows.TopAnewTitleUptoSaid :=
  OpenClaim.holds_of_cond 3 Tryz.f3 rfl rfl rfl rfl rfl rfl rfl ⟨rfl, rfl, rfl, rfl, rfl⟩ rfl rfl rfl rfl rfl (by kernel_rfl) Tryz.func3 (by kernel_rfl)
    (of_decide_eq_true (by kernel_rfl)) (by unfold Func.isWrapper; first | (rw [if_pos (by decide +kernel)]; kernel_rfl) | (rw [if_neg (by decide +kernel)]; exact ⟨rfl, rfl⟩))
    (fun os started H enc _ F => by rw [OpenClaim.pre_eq_preRow]; exact lifted os started H enc F)
theorem plain (f : FuncId) (fn : Func) (hf : Tryz.pinned.checked.prog.funcNamed "telecine/telecinetop.TopAnewTitle" = some f) (hfn : Tryz.pinned.checked.prog.funcs[f]? = some fn) :
    true = Tryz.pinned.checked.prog.looks [] ∧ ∀ (j : Nat) t, fn.params[j]? = some t → Tryz.pinned.checked.prog.wantsStandIn t = false := by
  obtain rfl : f = 3 := Option.some.inj ((show Tryz.prog.funcNamed "telecine/telecinetop.TopAnewTitle" = some 3 by kernel_rfl).symm.trans hf) |>.symm
  obtain rfl : fn = Tryz.f3 := (Option.some.inj (Tryz.func3.symm.trans hfn)).symm
  refine ⟨by kernel_rfl, fun j t ht => ?_⟩
  rw [Tryz.params3] at ht
  obtain rfl : t = 30 := by simpa using Array.mem_of_getElem? ht
  exact (show Tryz.prog.wantsStandIn 30 = false by kernel_rfl)
theorem proved : Rows.TopAnewTitleUptoCardSaid :=
  Claim7.holds_tied_plain_at .later [] _ _ _ _ saidUpto (fun _ h => by cases h) (by kernel_rfl) (fun _ h => by cases h) topAnewTitleUpto_row_tie rfl ⟨rfl, rfl⟩ (by kernel_rfl) rfl plain (by kernel_rfl)
end Go.Proofs.YtkfahdbjndihfacGreatDoor
