/- Proved here: the law TopAnewSound returns true for every argument of bulk at most 1048576 and leaves it as it was; no other condition. (part 5 of 5.) -/
import Derived.Test.YtkfahdbjndihfaaGreatUp4
import Derived.Test.YtkfahdbjndihfaaGreatRows
import Derived.JoinedCond
import Derived.WalkKit
import Derived.ProofKit
import Derived.OpenShut
set_option linter.unusedSimpArgs false
set_option linter.unusedVariables false
set_option linter.unnecessarySimpa false
namespace Go.Proofs.YtkfahdbjndihfaaGreat
open Go.Tc
set_option linter.unusedSimpArgs false
set_option maxRecDepth 20000
def rU (x : Int) : List AVal := [.int .u8 x]
theorem rU_eq {x : Int} : rU x = [.int .u8 x] := id rfl
theorem st_lo {l : List Span} {i : Nat} {x : Int} (h : i < l.length) : storeO (some (.cells 2 (l.map Span.row))) 1 i 0 (.int .i64 x) = some (.cells 2 ((l.set i ⟨x, (l.getD i default).hi⟩).map Span.row)) := storeO_fld _ h rfl (fun _ => by simp [Span.row]) rfl rfl
theorem st_hi {l : List Span} {i : Nat} {x : Int} (h : i < l.length) : storeO (some (.cells 2 (l.map Span.row))) 1 i 1 (.int .i64 x) = some (.cells 2 ((l.set i ⟨(l.getD i default).lo, x⟩).map Span.row)) := storeO_fld _ h rfl (fun _ => by simp [Span.row]) rfl rfl
theorem st_hi' {l : List Span} {i j : Nat} {x : Int} {y : Span} (h : i < l.length) : storeO (some (.cells 2 ((l.set j y).map Span.row))) 1 i 1 (.int .i64 x) = some (.cells 2 (((l.set j y).set i ⟨((l.set j y).getD i default).lo, x⟩).map Span.row)) := st_hi (by rw [List.length_set]; exact h)
theorem rep_span {n : Nat} : List.replicate n [AVal.int .i64 0, .int .i64 0] = (List.replicate n (Span.mk 0 0)).map Span.row := by rw [List.map_replicate]; rfl
theorem s131 (σ : AHeap) (b : Int) : RunV Tryz.prog (.func (.func 131) [] []) [.agg [], .int .u8 b] σ (fun o s => (∃ n, o = .ret (.int .i64 n)) ∧ s = σ) := by
  refine RunV.drop (RunV.func mixed k131 (by simp) ?_)
  simp (disch := omega) only [c131, ↓CTL, ↓DRW, VAL, DRV, Nat.reduceBEq, Nat.reduceAdd]
  refine B_if (fun _ => ?_) (fun _ => ?_)
  all_goals
    simp (disch := omega) only [↓CTL, ↓DRW, VAL, DRV, Nat.reduceBEq, Nat.reduceAdd]
    exact ⟨_, rfl, rfl, (Ext.refl _).alloc _, _, rfl⟩
theorem s132 (σ : AHeap) (b : Int) : RunV Tryz.prog (.func (.func 132) [] []) [.agg [], .int .u8 b] σ (fun o s => (∃ n, o = .ret (.int .i64 n)) ∧ s = σ) := by
  refine RunV.drop (RunV.func mixed k132 (by simp) ?_)
  simp (disch := omega) only [c132, ↓CTL, ↓DRW, VAL, DRV, Nat.reduceBEq, Nat.reduceAdd]
  exact ⟨_, rfl, rfl, (Ext.refl _).alloc _, _, rfl⟩
structure TI (σ : AHeap) (w h : Int) (px : AVal) (w2 h2 : Int) (px2 : AVal) (rows : List Span) (t : AHeap) : Prop where
  rl : rows.length = h.toNat
  ext : Ext σ t
  nx : σ.next + 4 ≤ t.next
  fa : t.objs σ.next = some (.cells 3 [[.int .i64 w, .int .i64 h, px]])
  fb : t.objs (σ.next + 1) = some (.cells 3 [[.int .i64 w2, .int .i64 h2, px2]])
  ln : t.objs (σ.next + 3) = some (.cells 2 (rows.map Span.row))
theorem s7 {σ : AHeap} {w h w2 h2 kind : Int} {px px2 : AVal} {ps ps2 : List Int} (hp : RV 1 rU px ps) (hp2 : RV 1 rU px2 ps2) :
    RunV Tryz.prog (.func (.func 7) [] []) [.agg [.int .i64 w, .int .i64 h, px], .agg [.int .i64 w2, .int .i64 h2, px2], .int .i64 kind] σ (fun o s => ∃ a e la, o = .ret (.tup [a, .int .i64 e]) ∧ Ext σ s ∧ OwnS s σ.next 2 Span.row a la ∧ la.length ≤ 1048576) := by
  have hF : ∃ r : Option AVal, mput (mput (fun _ => none) (.one (.int 1)) (.iface 91 (.agg []))) (.one (.int 2)) (.iface 92 (.agg [])) (.one (.int kind)) = r ∧ (r = none ∨ ∃ q, r = some q ∧ ∀ s b, RunI Tryz.prog q "telecine/sound.level" [.int .u8 b] s (fun o s' => (∃ n, o = .ret (.int .i64 n)) ∧ s' = s)) := by
    refine ⟨_, rfl, ?_⟩
    simp only [mput]
    split
    · exact .inr ⟨_, rfl, fun s b => .meth (f := 132) (by kernel_rfl) (s132 s b)⟩
    · split
      · exact .inr ⟨_, rfl, fun s b => .meth (f := 131) (by kernel_rfl) (s131 s b)⟩
      · exact .inl rfl
  obtain ⟨r, hF, hr⟩ := hF
  refine RunV.func mixed k7 (by simp) ?_
  simp (disch := omega) only [c7, ↓CTL, ↓DRW, VAL, DRV, Nat.reduceBEq, Nat.reduceAdd, (hp σ).one, (hp2 σ).one]
  refine s59 _ _ _ _ _ (hp σ).one (hp σ).len fun e he => ?_
  simp (disch := omega) only [↓CTL, ↓DRW, VAL, DRV, Nat.reduceBEq, Nat.reduceAdd]
  repeat' first
    | refine s59 _ _ _ _ _ (hp2 σ).one (hp2 σ).len fun e' he' => ?_
    | refine B_if (fun _ => ?_) (fun _ => ?_)
    | exact ⟨_, _, [], rfl, by repeat first | exact Ext.refl _ | refine Ext.alloc ?_ _ | refine Ext.set ?_ (by omega) _, .nil, by simp⟩
    | simp (disch := omega) only [↓CTL, ↓DRW, VAL, DRV, MAP, Nat.reduceBEq, Nat.reduceAdd, hF]
  have he1 := he (by omega)
  have he2 := he' (by omega)
  rcases hr with rfl | ⟨q, rfl, hq⟩
  · repeat' first
      | refine B_if (fun _ => ?_) (fun _ => ?_)
      | refine G_false (fun _ => ?_) (fun _ => ?_)
      | exact ⟨_, _, [], rfl, by repeat first | exact Ext.refl _ | refine Ext.alloc ?_ _ | refine Ext.set ?_ (by omega) _, .nil, by simp⟩
      | simp (disch := omega) only [↓CTL, ↓DRW, VAL, DRV, MAP, Nat.reduceBEq, Nat.reduceAdd, hF, Option.isSome_none, Option.isSome_some, Bool.not_false, Bool.not_true, ne_eq]
  have hwh : 0 ≤ h * w ∧ h * w ≤ 48 * 48 := ⟨Int.mul_nonneg (by omega) (by omega), Int.mul_le_mul (by omega) (by omega) (by omega) (by omega)⟩
  repeat' first
    | refine B_if (fun _ => ?_) (fun _ => ?_)
    | refine G_false (fun _ => ?_) (fun _ => ?_)
    | exact ⟨_, _, [], rfl, by repeat first | exact Ext.refl _ | refine Ext.alloc ?_ _ | refine Ext.set ?_ (by omega) _, .nil, by simp⟩
    | simp (disch := omega) only [↓CTL, ↓DRW, VAL, DRV, MAP, rep_span, Nat.reduceBEq, Nat.reduceAdd, hF, Option.isSome_none, Option.isSome_some, Bool.not_false, Bool.not_true, ne_eq]
  have hn1 : (ps.length : Int) = w * h := he1.2.2.2.2
  have hn2 : (ps2.length : Int) = w2 * h2 := he2.2.2.2.2
  have hn2' : (ps2.length : Int) = w * h := by rw [hn2, show w2 = w by omega, show h2 = h by omega]
  rw [Int.mul_comm] at hn1 hn2'
  refine A_loopV (α := Nat × List Span) m7_0 (fun x => [(61, .int .i64 x.1)]) (fun x t => x.1 ≤ h.toNat ∧ TI σ w h px w2 h2 px2 x.2 t) (fun x => h.toNat - x.1) rfl (fun _ => rfl) ⟨(0, List.replicate h.toNat ⟨0, 0⟩), ?_, Nat.zero_le _, ?_⟩ ?_
  · simp only [↓CTL, VAL, Nat.reduceBEq]; rfl
  · refine ⟨by simp, by repeat first | exact Ext.refl _ | refine Ext.alloc ?_ _ | refine Ext.set ?_ (by omega) _, by simp only [VAL]; omega, ?_, ?_, ?_⟩
    all_goals simp (disch := omega) only [VAL]
  · rintro ⟨y, rows⟩ f t ⟨hy, hI⟩
    dsimp only at hy hI ⊢
    have hfa := hI.fa
    have hfb := hI.fb
    simp (disch := omega) only [↓CTL, ↓DRW, VAL, DRV, Nat.reduceBEq, Nat.reduceAdd, m7_0, hfa]
    refine B_if (fun hlt => ?_) (fun hge => ?_)
    · have hyw : 0 ≤ (y : Int) * w ∧ (y : Int) * w ≤ 48 * 48 := ⟨Int.mul_nonneg (by omega) (by omega), Int.mul_le_mul (by omega) (by omega) (by omega) (by omega)⟩
      have hyw1 : ((y : Int) + 1) * w ≤ h * w := Int.mul_le_mul_of_nonneg_right (by omega) (by omega)
      have hyw2 : ((y : Int) + 1) * w = y * w + w := by rw [Int.add_mul, Int.one_mul]
      simp (disch := omega) only [↓CTL, ↓DRW, VAL, DRV, Nat.reduceBEq, Nat.reduceAdd, m7_0, hfa]
      refine A_loopV (α := Int × List Span) m7_1 (fun x => [(14, .int .i64 x.1)]) (fun x t => y * w ≤ x.1 ∧ x.1 ≤ (y + 1) * w ∧ TI σ w h px w2 h2 px2 x.2 t) (fun x => ((y + 1) * w - x.1).toNat) rfl (fun _ => rfl) ⟨(y * w, rows), ?_, Int.le_refl _, by dsimp only; omega, hI⟩ ?_
      · simp only [↓CTL, VAL, Nat.reduceBEq]
      · rintro ⟨i, rows'⟩ f' t' ⟨hi0, hi1, hI'⟩
        dsimp only at hi0 hi1 hI' ⊢
        have hfa := hI'.fa
        have hfb := hI'.fb
        have hln := hI'.ln
        have hrl := hI'.rl
        have hnx := hI'.nx
        simp (disch := omega) only [↓CTL, ↓DRW, VAL, DRV, Nat.reduceBEq, Nat.reduceAdd, m7_0, m7_1, hfa]
        refine B_if (fun hlt2 => ?_) (fun hge2 => ?_)
        · simp (disch := omega) only [↓CTL, ↓DRW, VAL, DRV, Nat.reduceBEq, Nat.reduceAdd, m7_0, m7_1, hfa]
          refine dr_go [] [] ?_ ?_; · decide
          simp (disch := omega) only [↓CTL, ↓DRW, VAL, DRV, Nat.reduceBEq, Nat.reduceAdd, m7_0, m7_1, hfa, hfb, hp.S, hp2.S, rU_eq]
          refine B_if (fun _ => ?_) (fun _ => ?_)
          all_goals
            simp (disch := omega) only [↓CTL, ↓DRW, VAL, DRV, Nat.reduceBEq, Nat.reduceAdd, m7_0, m7_1, hfa, hfb, hp.S, hp2.S, rU_eq]
            refine dr_go [7] [] ?_ ?_; · decide
            simp (disch := omega) only [↓CTL, ↓DRW, ↓IFC, VAL, DRV, Nat.reduceBEq, Nat.reduceAdd, m7_0, m7_1, hln, loadO_map, Span.row_eq]
            refine (hq _ _).mono fun o s' hoo => ?_
            obtain ⟨⟨n, rfl⟩, rfl⟩ := hoo
            simp (disch := omega) only [↓CTL, ↓DRW, ↓IFC, VAL, DRV, Nat.reduceBEq, Nat.reduceAdd, m7_0, m7_1, hln, st_lo, Int.toNat_natCast]
            refine dr_go [7] [] ?_ ?_; · decide
            simp (disch := omega) only [↓CTL, ↓DRW, ↓IFC, VAL, DRV, Nat.reduceBEq, Nat.reduceAdd, m7_0, m7_1, loadO_mapset, Span.row_eq]
            refine (hq _ _).mono fun o s' hoo => ?_
            obtain ⟨⟨n2, rfl⟩, rfl⟩ := hoo
            simp (disch := omega) only [↓CTL, ↓DRW, ↓IFC, VAL, DRV, Nat.reduceBEq, Nat.reduceAdd, m7_0, m7_1, st_hi', Int.toNat_natCast]
            exact ⟨(i + 1, _), rfl, ⟨by dsimp only; omega, by dsimp only; omega, ⟨by simp only [List.length_set]; exact hrl, hI'.ext.set (by omega) _, hnx, by rw [objs_else (by omega)]; exact hfa, by rw [objs_else (by omega)]; exact hfb, objs_here⟩⟩, by dsimp only; omega⟩
        · simp (disch := omega) only [↓CTL, ↓DRW, VAL, DRV, Nat.reduceBEq, Nat.reduceAdd, m7_0, m7_1]
          exact ⟨(y + 1, rows'), rfl, ⟨by dsimp only; omega, hI'⟩, by dsimp only; omega⟩
    · simp (disch := omega) only [↓CTL, ↓DRW, VAL, DRV, Nat.reduceBEq, Nat.reduceAdd, m7_0]
      have hnx := hI.nx
      exact ⟨_, _, rows, rfl, hI.ext, .inr ⟨σ.next + 3, _, by rw [hI.rl], by omega, by omega, hI.ln⟩, by have := hI.rl; omega⟩
end Go.Proofs.YtkfahdbjndihfaaGreat
namespace Go.Proofs.YtkfahdbjndihfaaGreat
open Go.Tc
set_option linter.unusedSimpArgs false
set_option maxRecDepth 20000
structure Sl {α : Type} [Inhabited α] (m : Nat) (f : α → List AVal) where
  v : AVal
  l : List α
  rv : RV m f v l
  clo : Clo v
  off : ∀ M, Off v M
  len : l.length ≤ 1048576
structure XA where
  w : Int
  h : Int
  px : Sl 1 rU
  w2 : Int
  h2 : Int
  px2 : Sl 1 rU
  kind : Int
  frames : Int
  lo : Int
  hi : Int
  marks : Sl 3 Mark.row
  speeds : Sl 1 rI
  fnum : Int
  speed : Int
  begin_ : Int
  frames2 : Int
  lead : Int
  cuts : Sl 2 Cut.row
  L : Sl 1 rI
  period : Int
  hum : Sl 1 rI
  spl : Sl 1 rI
  reach : Int
  kept : Sl 1 rI
  step : Int
  many : Int
def XA.row (x : XA) : List AVal := [.int .i64 x.w, .int .i64 x.h, x.px.v, .int .i64 x.w2, .int .i64 x.h2, x.px2.v, .int .i64 x.kind, .int .i64 x.frames, .int .i64 x.lo, .int .i64 x.hi, x.marks.v, x.speeds.v, .int .i64 x.fnum, .int .i64 x.speed, .int .i64 x.begin_, .int .i64 x.frames2, .int .i64 x.lead, x.cuts.v,
  x.L.v, .int .i64 x.period, x.hum.v, x.spl.v, .int .i64 x.reach, x.kept.v, .int .i64 x.step, .int .i64 x.many]
theorem XA.row_eq {x : XA} : x.row = [.int .i64 x.w, .int .i64 x.h, x.px.v, .int .i64 x.w2, .int .i64 x.h2, x.px2.v, .int .i64 x.kind, .int .i64 x.frames, .int .i64 x.lo, .int .i64 x.hi, x.marks.v, x.speeds.v, .int .i64 x.fnum, .int .i64 x.speed, .int .i64 x.begin_, .int .i64 x.frames2, .int .i64 x.lead, x.cuts.v,
  x.L.v, .int .i64 x.period, x.hum.v, x.spl.v, .int .i64 x.reach, x.kept.v, .int .i64 x.step, .int .i64 x.many] := id rfl
theorem sum_const {α : Type} {l : List α} {c : Nat} : (l.map fun _ => c).sum = l.length * c := by
  induction l with
  | nil => simp
  | cons a l ih => simp [ih, Nat.add_mul]; omega
section
variable {W : Nat → AHeap → AVal → AVal → Prop} (hW : Stays W)
theorem p14 (x : Int) : PutSpec Tryz.prog W (.func (.func 14) [] []) (.int .i64 x) [x] [] := putInt_spec mixed k14 x
theorem p9 (x : Int) : PutSpec Tryz.prog W (.func (.func 9) [] []) (.int .i64 x) [x] [] := putInt_spec mixed k9 x
theorem p112 (x : Int) : PutSpec Tryz.prog W (.func (.func 112) [] []) (.int .u8 x) [IntKind.i64.wrap x] [] := putByte_spec mixed k112 .u8 x
include hW
theorem p23 (a b : Int) : PutSpec Tryz.prog W (.func (.func 23) [] []) (.agg [.int .i64 a, .int .i64 b]) ([a] ++ ([b] ++ [])) ([] ++ ([] ++ [])) :=
  putStruct_spec mixed hW (r := [(0, false, 1, 14), (1, false, 1, 14)]) k23 (by omega) rfl (.cons rfl (p14 _) (.cons rfl (p14 _) .nil)) (by simp)
theorem p95 (a b : Int) : PutSpec Tryz.prog W (.func (.func 95) [] []) (.agg [.int .i64 a, .int .i64 b]) ([a] ++ ([b] ++ [])) ([] ++ ([] ++ [])) :=
  putStruct_spec mixed hW (r := [(0, false, 1, 14), (1, false, 1, 14)]) k95 (by omega) rfl (.cons rfl (p14 _) (.cons rfl (p14 _) .nil)) (by simp)
theorem p66 (a b : Int) : PutSpec Tryz.prog W (.func (.func 66) [] []) (.agg [.int .i64 a, .int .i64 b]) ([a] ++ ([b] ++ [])) ([] ++ ([] ++ [])) :=
  putStruct_spec mixed hW (r := [(0, false, 1, 14), (1, false, 1, 14)]) k66 (by omega) rfl (.cons rfl (p14 _) (.cons rfl (p14 _) .nil)) (by simp)
theorem p114 (a b c : Int) : PutSpec Tryz.prog W (.func (.func 114) [] []) (.agg [.int .i64 a, .int .i64 b, .int .i64 c]) ([a] ++ ([b] ++ ([c] ++ []))) ([] ++ ([] ++ ([] ++ []))) :=
  putStruct_spec mixed hW (r := [(0, false, 1, 14), (1, false, 1, 14), (2, false, 1, 14)]) k114 (by omega) rfl (.cons rfl (p14 _) (.cons rfl (p14 _) (.cons rfl (p14 _) .nil))) (by simp)
theorem p28 (a b c : Int) : PutSpec Tryz.prog W (.func (.func 28) [] []) (.agg [.int .i64 a, .int .i64 b, .int .i64 c]) ([a] ++ ([b] ++ ([c] ++ []))) ([] ++ ([] ++ ([] ++ []))) :=
  putStruct_spec mixed hW (r := [(0, false, 1, 14), (1, false, 1, 14), (2, false, 1, 14)]) k28 (by omega) rfl (.cons rfl (p14 _) (.cons rfl (p14 _) (.cons rfl (p14 _) .nil))) (by simp)
theorem p73 (a b c d : Int) : PutSpec Tryz.prog W (.func (.func 73) [] []) (.agg [.int .i64 a, .int .i64 b, .int .i64 c, .int .i64 d]) ([a] ++ ([b] ++ ([c] ++ ([d] ++ [])))) ([] ++ ([] ++ ([] ++ ([] ++ [])))) :=
  putStruct_spec mixed hW (r := [(0, false, 1, 14), (1, false, 1, 14), (2, false, 1, 14), (3, false, 1, 14)]) k73 (by omega) rfl (.cons rfl (p14 _) (.cons rfl (p14 _) (.cons rfl (p14 _) (.cons rfl (p14 _) .nil)))) (by simp)
theorem p36 {v : AVal} {l : List Int} (hv : ∀ H s nv sv, W H s nv sv → TV s 1 rI v l) (hl : l.length ≤ 1048576) : PutSpec Tryz.prog W (.func (.func 36) [] []) v ((l.length : Int) :: l.flatMap fun x => [x]) (l.flatMap fun _ => []) :=
  putL_spec mixed hW k36 k79 hv hl (fun x => .int .i64 x) (fun _ => rfl) _ _ fun x _ => p14 x
theorem p92 {v : AVal} {l : List Int} (hv : ∀ H s nv sv, W H s nv sv → TV s 1 rU v l) (hl : l.length ≤ 1048576) : PutSpec Tryz.prog W (.func (.func 92) [] []) v ((l.length : Int) :: l.flatMap fun x => [IntKind.i64.wrap x]) (l.flatMap fun _ => []) :=
  putL_spec mixed hW k92 k111 hv hl (fun x => .int .u8 x) (fun _ => rfl) _ _ fun x _ => p112 x
theorem p8 {v : AVal} {l : List Span} (hv : ∀ H s nv sv, W H s nv sv → TV s 2 Span.row v l) (hl : l.length ≤ 1048576) : PutSpec Tryz.prog W (.func (.func 8) [] []) v ((l.length : Int) :: l.flatMap fun x => [x.lo] ++ ([x.hi] ++ [])) (l.flatMap fun _ => [] ++ ([] ++ [])) :=
  putL_spec mixed hW k8 k60 hv hl (fun x => .agg [.int .i64 x.lo, .int .i64 x.hi]) (fun _ => rfl) _ _ fun x _ => p23 hW x.lo x.hi
theorem p58 {v : AVal} {l : List Cut} (hv : ∀ H s nv sv, W H s nv sv → TV s 2 Cut.row v l) (hl : l.length ≤ 1048576) : PutSpec Tryz.prog W (.func (.func 58) [] []) v ((l.length : Int) :: l.flatMap fun x => [x.from_] ++ ([x.until_] ++ [])) (l.flatMap fun _ => [] ++ ([] ++ [])) :=
  putL_spec mixed hW k58 k94 hv hl (fun x => .agg [.int .i64 x.from_, .int .i64 x.until_]) (fun _ => rfl) _ _ fun x _ => p95 hW x.from_ x.until_
theorem p18 {v : AVal} {l : List Strike} (hv : ∀ H s nv sv, W H s nv sv → TV s 2 Strike.row v l) (hl : l.length ≤ 1048576) : PutSpec Tryz.prog W (.func (.func 18) [] []) v ((l.length : Int) :: l.flatMap fun x => [x.mark] ++ ([x.by_] ++ [])) (l.flatMap fun _ => [] ++ ([] ++ [])) :=
  putL_spec mixed hW k18 k65 hv hl (fun x => .agg [.int .i64 x.mark, .int .i64 x.by_]) (fun _ => rfl) _ _ fun x _ => p66 hW x.mark x.by_
theorem p29 {v : AVal} {l : List Proof4} (hv : ∀ H s nv sv, W H s nv sv → TV s 4 Proof4.row v l) (hl : l.length ≤ 1048576) : PutSpec Tryz.prog W (.func (.func 29) [] []) v ((l.length : Int) :: l.flatMap fun x => [x.a] ++ ([x.b] ++ ([x.c] ++ ([x.d] ++ [])))) (l.flatMap fun _ => [] ++ ([] ++ ([] ++ ([] ++ [])))) :=
  putL_spec mixed hW k29 k72 hv hl (fun x => .agg [.int .i64 x.a, .int .i64 x.b, .int .i64 x.c, .int .i64 x.d]) (fun _ => rfl) _ _ fun x _ => p73 hW x.a x.b x.c x.d
theorem p93 {v : AVal} {l : List Mark} (hv : ∀ H s nv sv, W H s nv sv → TV s 3 Mark.row v l) (hl : l.length ≤ 1048576) : PutSpec Tryz.prog W (.func (.func 93) [] []) v ((l.length : Int) :: l.flatMap fun x => [x.frame] ++ ([x.sample] ++ ([x.error] ++ []))) (l.flatMap fun _ => [] ++ ([] ++ ([] ++ []))) :=
  putL_spec mixed hW k93 k113 hv hl (fun x => .agg [.int .i64 x.frame, .int .i64 x.sample, .int .i64 x.error]) (fun _ => rfl) _ _ fun x _ => p114 hW x.frame x.sample x.error
theorem p56 (w h : Int) {px : AVal} {l : List Int} (h1 : px.one = true) (hv : ∀ H s nv sv, W H s nv sv → TV s 1 rU px l) (hl : l.length ≤ 1048576) : ∃ A B, A.length ≤ 2097154 ∧ B.length = 0 ∧ PutSpec Tryz.prog W (.func (.func 56) [] []) (.agg [.int .i64 w, .int .i64 h, px]) A B :=
  ⟨_, _, by simp [sum_const]; omega, by simp [sum_const], putStruct_spec mixed hW (r := [(0, false, 1, 14), (1, false, 1, 14), (2, false, 1, 92)]) k56 (by omega) (by simp only [w_all_cons, w_all_nil, one_int, h1, Bool.and_true]) (.cons rfl (p14 _) (.cons rfl (p14 _) (.cons rfl (p92 hW hv hl) .nil))) (by simp)⟩
theorem p57 (f lo hi : Int) {mv sv : AVal} {marks : List Mark} {speeds : List Int} (h1 : mv.one = true) (h2 : sv.one = true) (hv : ∀ H s nv sv, W H s nv sv → TV s 3 Mark.row mv marks) (hl : marks.length ≤ 1048576) (hv2 : ∀ H s nv sv', W H s nv sv' → TV s 1 rI sv speeds) (hl2 : speeds.length ≤ 1048576) :
    ∃ A B, A.length ≤ 12582912 ∧ B.length = 0 ∧ PutSpec Tryz.prog W (.func (.func 57) [] []) (.agg [.int .i64 f, .int .i64 lo, .int .i64 hi, mv, sv]) A B :=
  ⟨_, _, by simp [sum_const]; omega, by simp [sum_const], putStruct_spec mixed hW (r := [(0, false, 1, 14), (1, true, 2, 23), (3, false, 1, 93), (4, false, 1, 36)]) k57 (by omega) (by simp only [w_all_cons, w_all_nil, one_int, h1, h2, Bool.and_true]) (.cons rfl (p14 _) (.cons rfl (p23 hW _ _) (.cons rfl (p93 hW hv hl) (.cons rfl (p36 hW hv2 hl2) .nil)))) (by simp)⟩
end
theorem w81 {m k : Nat} (h : k < m) : WipeAt Tryz.prog (.func (.func 81) [] []) m k := wipe1_spec mixed (x := .int .i64 (-77)) k81 rfl h
theorem w62 : WipeAt Tryz.prog (.func (.func 62) [] []) 2 0 := wipeStruct_spec mixed (r := [(0, 81), (1, 81)]) k62 (by omega) (by simp) fun x hx => by
  rcases List.mem_cons.1 hx with rfl | hx
  · exact w81 (by decide)
  · rw [List.mem_singleton] at hx; subst hx; exact w81 (by decide)
theorem w68 : WipeAt Tryz.prog (.func (.func 68) [] []) 2 0 := wipeStruct_spec mixed (r := [(0, 81), (1, 81)]) k68 (by omega) (by simp) fun x hx => by
  rcases List.mem_cons.1 hx with rfl | hx
  · exact w81 (by decide)
  · rw [List.mem_singleton] at hx; subst hx; exact w81 (by decide)
theorem w75 : WipeAt Tryz.prog (.func (.func 75) [] []) 4 0 := wipeStruct_spec mixed (r := [(0, 81), (1, 81), (2, 81), (3, 81)]) k75 (by omega) (by simp) fun x hx => by
  have : x ∈ [(0, 81), (1, 81), (2, 81), (3, 81)] := hx
  simp only [List.mem_cons, List.not_mem_nil, or_false] at this
  rcases this with rfl | rfl | rfl | rfl <;> exact w81 (by decide)
theorem b14 {W : Nat → AHeap → AVal → AVal → Prop} (x : Int) : PB1 Tryz.prog W (.func (.func 14) [] []) (.int .i64 x) 1 0 := ⟨_, _, by simp, by simp, p14 x⟩
theorem b36 (x : Sl 1 rI) : PB1 Tryz.prog WTrue (.func (.func 36) [] []) x.v 1048577 0 := ⟨_, _, by have := x.len; simp [sum_const]; omega, by simp [sum_const], p36 WTrue.stays (fun _ s _ _ _ => x.rv s) x.len⟩
theorem b58 (x : Sl 2 Cut.row) : PB1 Tryz.prog WTrue (.func (.func 58) [] []) x.v 2097153 0 := ⟨_, _, by have := x.len; simp [sum_const]; omega, by simp [sum_const], p58 WTrue.stays (fun _ s _ _ _ => x.rv s) x.len⟩
theorem b56 (w h : Int) (x : Sl 1 rU) : PB1 Tryz.prog WTrue (.func (.func 56) [] []) (.agg [.int .i64 w, .int .i64 h, x.v]) 2097154 0 := by
  obtain ⟨A, B, a, b, q⟩ := p56 WTrue.stays w h (x.rv nilHeap).one (fun _ s _ _ _ => x.rv s) x.len
  exact ⟨A, B, a, by omega, q⟩
theorem b57 (f lo hi : Int) (x : Sl 3 Mark.row) (y : Sl 1 rI) : PB1 Tryz.prog WTrue (.func (.func 57) [] []) (.agg [.int .i64 f, .int .i64 lo, .int .i64 hi, x.v, y.v]) 12582912 0 := by
  obtain ⟨A, B, a, b, q⟩ := p57 WTrue.stays f lo hi (x.rv nilHeap).one (y.rv nilHeap).one (fun _ s _ _ _ => x.rv s) x.len (fun _ s _ _ _ => y.rv s) y.len
  exact ⟨A, B, a, by omega, q⟩
def allR : List (Nat × Bool × Nat × FuncId) := [(0, true, 3, 56), (3, true, 3, 56), (6, false, 1, 14), (7, true, 5, 57), (12, false, 1, 14), (13, false, 1, 14), (14, false, 1, 14), (15, false, 1, 14), (16, false, 1, 14), (17, false, 1, 58), (18, false, 1, 36), (19, false, 1, 14), (20, false, 1, 36), (21, false, 1, 36), (22, false, 1, 14), (23, false, 1, 36), (24, false, 1, 14), (25, false, 1, 14)]
theorem all_code : compFunc Tryz.prog 4 = some (76, .seq (.ops [⟨some 2, .box (.t 0), none, []⟩]) (putBody 2 1 4 allR), []) := by kernel_rfl
theorem all_puts (x : XA) : PB Tryz.prog WTrue x.row allR 1073741824 1073741824 := by
  have h : PB Tryz.prog WTrue x.row [(0, true, 3, 56), (3, true, 3, 56), (6, false, 1, 14), (7, true, 5, 57), (12, false, 1, 14), (13, false, 1, 14), (14, false, 1, 14), (15, false, 1, 14), (16, false, 1, 14), (17, false, 1, 58), (18, false, 1, 36), (19, false, 1, 14), (20, false, 1, 36), (21, false, 1, 36), (22, false, 1, 14), (23, false, 1, 36), (24, false, 1, 14), (25, false, 1, 14)] _ _ := PB.cons (row := x.row) rfl (b56 x.w x.h x.px) (.cons rfl (b56 x.w2 x.h2 x.px2) (.cons rfl (b14 _) (.cons rfl (b57 x.frames x.lo x.hi x.marks x.speeds) (.cons rfl (b14 _) (.cons rfl (b14 _) (.cons rfl (b14 _) (.cons rfl (b14 _) (.cons rfl (b14 _) (.cons rfl (b58 x.cuts) (.cons rfl (b36 x.L) (.cons rfl (b14 _) (.cons rfl (b36 x.hum) (.cons rfl (b36 x.spl) (.cons rfl (b14 _) (.cons rfl (b36 x.kept) (.cons rfl (b14 _) (.cons rfl (b14 _) .nil)))))))))))))))))
  obtain ⟨A, B, a, b, q⟩ := h
  exact ⟨A, B, Nat.le_trans a (by decide), Nat.le_trans b (by decide), q⟩
theorem XA.one (x : XA) : x.row.all AVal.one = true := by
  simp only [XA.row_eq, w_all_cons, w_all_nil, one_int, (x.px.rv nilHeap).one, (x.px2.rv nilHeap).one, (x.marks.rv nilHeap).one, (x.speeds.rv nilHeap).one, (x.cuts.rv nilHeap).one, (x.L.rv nilHeap).one, (x.hum.rv nilHeap).one, (x.spl.rv nilHeap).one, (x.kept.rv nilHeap).one, Bool.and_true]
end Go.Proofs.YtkfahdbjndihfaaGreat
namespace Go.Proofs.YtkfahdbjndihfaaGreat
open Go.Tc
set_option linter.unusedSimpArgs false
set_option maxRecDepth 20000
theorem flat_rI : FlatR rI := fun x v hv => by simp [rI] at hv; subst hv; exact ⟨rfl, rfl⟩
theorem flat_span : FlatR Span.row := fun x v hv => by simp [Span.row] at hv; rcases hv with rfl | rfl <;> exact ⟨rfl, rfl⟩
theorem flat_strike : FlatR Strike.row := fun x v hv => by simp [Strike.row] at hv; rcases hv with rfl | rfl <;> exact ⟨rfl, rfl⟩
theorem flat_proof4 : FlatR Proof4.row := fun x v hv => by simp [Proof4.row] at hv; rcases hv with rfl | rfl | rfl | rfl <;> exact ⟨rfl, rfl⟩
theorem ci (k : IntKind) (n : Int) : Clo (.int k n) := .scal rfl
theorem c_nil : ∀ a ∈ ([] : List AVal), Clo a := fun a h => by simp at h
theorem c_cons {a : AVal} {l : List AVal} (h : Clo a) (hl : ∀ b ∈ l, Clo b) : ∀ b ∈ a :: l, Clo b := fun b hb => by
  rcases List.mem_cons.1 hb with rfl | hb
  · exact h
  · exact hl b hb
def XA.task (x : XA) : AVal := .agg [.int .i64 x.frames, .int .i64 x.lo, .int .i64 x.hi, x.marks.v, x.speeds.v]
theorem XA.task_clo (x : XA) : Clo x.task := .agg (c_cons (ci _ _) (c_cons (ci _ _) (c_cons (ci _ _) (c_cons x.marks.clo (c_cons x.speeds.clo c_nil)))))
theorem wipe_end {f p e : FuncId} {m : Nat} (hf : compFunc Tryz.prog f = some (6, wipeLCode p e, [])) (hk : compFunc Tryz.prog p = some (16, wipesCode m, [])) (he : WipeAt Tryz.prog (.func (.func e) [] []) m 0) {α : Type} {r : α → List AVal} (hr : ∀ x, (r x).length = m) {a b : Nat} {s1 s3 : AHeap} {v : AVal} {l : List α} {X : Nat}
    (hO : OwnS s1 a m r v l) (hl : l.length ≤ 1048576) (hb : s1.next ≤ b) (hn : s1.next ≤ s3.next) (hsame : ∀ M, a ≤ M → M < s1.next → s3.objs M = s1.objs M) (hX : s3.objs X = some (.cells 1 [[v]])) :
    RunV Tryz.prog (.func (.func f) [] []) [.ptr X 0 0] s3 (fun o s'' => (∃ v, o = .ret v) ∧ s3.next ≤ s''.next ∧ ∀ M, M < s3.next → (M < a ∨ b ≤ M) → s''.objs M = s3.objs M) := by
  rcases hO with ⟨rfl, rfl⟩ | ⟨N, ex, rfl, h1, h2, h3⟩
  · refine (wipeL_spec mixed hf hk he (N := 0) (len := 0) (rows := []) (ex := true) hX (.inl rfl) (by omega)).mono fun o s'' ⟨g1, g2, g3⟩ => ⟨g1, g2, fun M hM _ => g3 M hM (.inr rfl)⟩
  · refine (wipeL_spec mixed hf hk he (N := N) (len := l.length) (rows := l.map r) (ex := ex) hX (.inr ⟨rfl, by omega, (hsame N h1 h2).trans h3, by simp, fun row hrow => ?_⟩) (by omega)).mono fun o s'' ⟨g1, g2, g3⟩ => ⟨g1, g2, fun M hM hc => g3 M hM (.inl (by rcases hc with h | h <;> omega))⟩
    obtain ⟨x, _, rfl⟩ := List.mem_map.1 hrow
    exact hr x
theorem q6 (x : XA) (X : Nat) : ∃ A B, A.length ≤ 1099511627776 ∧ B.length ≤ 1099511627776 ∧ CallSpec Tryz.prog (.func (.func 6) [] [.ptr X 0 0]) X (.cells 26 [x.row]) A B := by
  obtain ⟨⟨⟨l, e⟩, hl⟩, hc⟩ := RunV.uniG (P := Tryz.prog) (f := 7) (show ∀ a ∈ [.agg [.int .i64 x.w, .int .i64 x.h, x.px.v], .agg [.int .i64 x.w2, .int .i64 x.h2, x.px2.v], .int .i64 x.kind], Clo a from (c_cons (.agg (c_cons (ci _ _) (c_cons (ci _ _) (c_cons x.px.clo c_nil)))) (c_cons (.agg (c_cons (ci _ _) (c_cons (ci _ _) (c_cons x.px2.clo c_nil)))) (c_cons (ci _ _) c_nil)))) (fun (c : {c : List Span × Int // c.1.length ≤ 1048576}) => [.ow 2 (c.1.1.map Span.row), .sc (.int .i64 c.1.2)])
    (fun σ => (s7 x.px.rv x.px2.rv).mono fun o s ⟨r, e, l, ho, hE, hO, hl⟩ => ⟨⟨(l, e), hl⟩, [r, .int .i64 e], ho, ⟨hO.rp flat_span, ⟨rfl, rfl⟩, trivial⟩, hE⟩)
  dsimp only at hl hc
  refine ⟨([] ++ ((l.length : Int) :: l.flatMap fun x => [x.lo] ++ ([x.hi] ++ []))) ++ [e], ([] ++ (l.flatMap fun _ => [] ++ ([] ++ []))) ++ [], ?_, ?_, fun s H hX hxo hH hne hobj => ?_⟩
  case refine_3 =>
    refine RunV.func mixed k6 (by simp) ?_
    rw [XA.row_eq] at hxo
    simp (disch := omega) only [c6, ↓CTL, VAL, Nat.reduceBEq, Nat.reduceAdd, hxo]
    refine (hc s).mono fun o s1 ⟨vs, ho, hR, hE⟩ => ?_
    obtain ⟨v1, v2, rfl, h1, h2⟩ := hR.two
    obtain ⟨rfl, _⟩ := h2
    subst ho
    have hO := h1.own
    have e1 := hE.1
    simp (disch := omega) only [↓CTL, VAL, Nat.reduceBEq, Nat.reduceAdd, hO.one]
    have hp0 := Hp.new (s := s1.alloc (.cells 1 [[v1]])) (H := H) (by simp only [AHeap.next_alloc]; omega) (by rw [objs_old (by omega), hE.2 H hH]; exact hobj)
    refine putOne (W := OwnW 2 Span.row v1 l) (p8 OwnW.stays (fun _ _ _ _ h => h.tv) hl) ((hO.alloc _).w hH) hp0 ?_ ?_ fun u s2 nv2 sv2 hp2 hst2 => ?_
    case refine_3 =>
      simp (disch := omega) only [↓CTL, VAL, Nat.reduceBEq, Nat.reduceAdd]
      refine putOne (W := WTrue) (p9 e) trivial hp2 ?_ ?_ fun u s3 nv3 sv3 hp3 hst3 => ?_
      case refine_3 =>
        have hst := hst2.trans hst3
        have hst1 := hst.1
        simp only [AHeap.next_alloc] at hst1
        have hsame : ∀ M, M < s1.next + 1 → M ≠ H → s3.objs M = (s1.alloc (.cells 1 [[v1]])).objs M := fun M hM hM2 => (hst.2 M (by simpa using hM) hM2 (fun _ _ _ _ h => by cases h) (fun _ _ _ _ h => by cases h)).1
        have hB := hsame s1.next (by omega) (by omega)
        rw [objs_new rfl] at hB
        simp (disch := omega) only [↓CTL, VAL, Nat.reduceBEq, Nat.reduceAdd]
        refine ⟨_, s1.next + 1, nv3, sv3, rfl, by omega, by simpa using hp3, fun M hM hM2 => ?_, ?_⟩
        · rw [hsame M (by omega) hM2, objs_old (by omega), hE.2 M hM]
        · refine RunV.func mixed k10 (by simp) ?_
          simp (disch := omega) only [c10, ↓CTL, VAL, Nat.reduceBEq, Nat.reduceAdd]
          refine (wipe_end (b := s1.next + 1) k11 k61 w62 (r := Span.row) (fun _ => rfl) hO hl (by omega) (by omega) (fun M h1 h2 => by rw [hsame M (by omega) (by omega), objs_old (by omega)]) hB).mono fun o s'' ⟨⟨v, hv⟩, g2, g3⟩ => ?_
          subst hv
          simp (disch := omega) only [↓CTL, VAL, Nat.reduceBEq, Nat.reduceAdd]
          exact ⟨⟨_, rfl⟩, g2, g3⟩
      all_goals simp [sum_const]
      all_goals omega
    all_goals simp [sum_const]
    all_goals omega
  all_goals simp [sum_const]
  all_goals omega
theorem q16 (x : XA) (X : Nat) : ∃ A B, A.length ≤ 1099511627776 ∧ B.length ≤ 1099511627776 ∧ CallSpec Tryz.prog (.func (.func 16) [] [.ptr X 0 0]) X (.cells 26 [x.row]) A B := by
  obtain ⟨⟨⟨l, e⟩, hl⟩, hc⟩ := RunV.uniG (P := Tryz.prog) (f := 17) (show ∀ a ∈ [x.task], Clo a from (c_cons x.task_clo c_nil)) (fun (c : {c : List Strike × Int // c.1.length ≤ 1048576}) => [.ow 2 (c.1.1.map Strike.row), .sc (.int .i64 c.1.2)])
    (fun σ => (s17 x.marks.rv x.speeds.rv).mono fun o s ⟨r, e, l, ho, hE, hO, hl⟩ => ⟨⟨(l, e), hl⟩, [r, .int .i64 e], ho, ⟨hO.rp flat_strike, ⟨rfl, rfl⟩, trivial⟩, hE⟩)
  dsimp only at hl hc
  refine ⟨([] ++ ((l.length : Int) :: l.flatMap fun x => [x.mark] ++ ([x.by_] ++ []))) ++ [e], ([] ++ (l.flatMap fun _ => [] ++ ([] ++ []))) ++ [], ?_, ?_, fun s H hX hxo hH hne hobj => ?_⟩
  case refine_3 =>
    refine RunV.func mixed k16 (by simp) ?_
    rw [XA.row_eq] at hxo
    simp (disch := omega) only [c16, ↓CTL, VAL, Nat.reduceBEq, Nat.reduceAdd, hxo]
    refine (hc s).mono fun o s1 ⟨vs, ho, hR, hE⟩ => ?_
    obtain ⟨v1, v2, rfl, h1, h2⟩ := hR.two
    obtain ⟨rfl, _⟩ := h2
    subst ho
    have hO := h1.own
    have e1 := hE.1
    simp (disch := omega) only [↓CTL, VAL, Nat.reduceBEq, Nat.reduceAdd, hO.one]
    have hp0 := Hp.new (s := s1.alloc (.cells 1 [[v1]])) (H := H) (by simp only [AHeap.next_alloc]; omega) (by rw [objs_old (by omega), hE.2 H hH]; exact hobj)
    refine putOne (W := OwnW 2 Strike.row v1 l) (p18 OwnW.stays (fun _ _ _ _ h => h.tv) hl) ((hO.alloc _).w hH) hp0 ?_ ?_ fun u s2 nv2 sv2 hp2 hst2 => ?_
    case refine_3 =>
      simp (disch := omega) only [↓CTL, VAL, Nat.reduceBEq, Nat.reduceAdd]
      refine putOne (W := WTrue) (p9 e) trivial hp2 ?_ ?_ fun u s3 nv3 sv3 hp3 hst3 => ?_
      case refine_3 =>
        have hst := hst2.trans hst3
        have hst1 := hst.1
        simp only [AHeap.next_alloc] at hst1
        have hsame : ∀ M, M < s1.next + 1 → M ≠ H → s3.objs M = (s1.alloc (.cells 1 [[v1]])).objs M := fun M hM hM2 => (hst.2 M (by simpa using hM) hM2 (fun _ _ _ _ h => by cases h) (fun _ _ _ _ h => by cases h)).1
        have hB := hsame s1.next (by omega) (by omega)
        rw [objs_new rfl] at hB
        simp (disch := omega) only [↓CTL, VAL, Nat.reduceBEq, Nat.reduceAdd]
        refine ⟨_, s1.next + 1, nv3, sv3, rfl, by omega, by simpa using hp3, fun M hM hM2 => ?_, ?_⟩
        · rw [hsame M (by omega) hM2, objs_old (by omega), hE.2 M hM]
        · refine RunV.func mixed k19 (by simp) ?_
          simp (disch := omega) only [c19, ↓CTL, VAL, Nat.reduceBEq, Nat.reduceAdd]
          refine (wipe_end (b := s1.next + 1) k20 k67 w68 (r := Strike.row) (fun _ => rfl) hO hl (by omega) (by omega) (fun M h1 h2 => by rw [hsame M (by omega) (by omega), objs_old (by omega)]) hB).mono fun o s'' ⟨⟨v, hv⟩, g2, g3⟩ => ?_
          subst hv
          simp (disch := omega) only [↓CTL, VAL, Nat.reduceBEq, Nat.reduceAdd]
          exact ⟨⟨_, rfl⟩, g2, g3⟩
      all_goals simp [sum_const]
      all_goals omega
    all_goals simp [sum_const]
    all_goals omega
  all_goals simp [sum_const]
  all_goals omega
theorem q34 (x : XA) (X : Nat) : ∃ A B, A.length ≤ 1099511627776 ∧ B.length ≤ 1099511627776 ∧ CallSpec Tryz.prog (.func (.func 34) [] [.ptr X 0 0]) X (.cells 26 [x.row]) A B := by
  obtain ⟨⟨⟨l, e⟩, hl⟩, hc⟩ := RunV.uniG (P := Tryz.prog) (f := 35) (show ∀ a ∈ [x.L.v, .int .i64 x.period], Clo a from (c_cons x.L.clo (c_cons (ci _ _) c_nil))) (fun (c : {c : List Int × Int // c.1.length ≤ 1048576}) => [.ow 1 (c.1.1.map rI), .sc (.int .i64 c.1.2)])
    (fun σ => (s35 σ _ _ x.L.rv (by have := x.L.len; omega) _).mono fun o s ⟨r, e, l, ho, hE, hO, hl⟩ => ⟨⟨(l, e), hl⟩, [r, .int .i64 e], ho, ⟨hO.rp flat_rI, ⟨rfl, rfl⟩, trivial⟩, hE⟩)
  dsimp only at hl hc
  refine ⟨([] ++ ((l.length : Int) :: l.flatMap fun x => [x])) ++ [e], ([] ++ (l.flatMap fun _ => [])) ++ [], ?_, ?_, fun s H hX hxo hH hne hobj => ?_⟩
  case refine_3 =>
    refine RunV.func mixed k34 (by simp) ?_
    rw [XA.row_eq] at hxo
    simp (disch := omega) only [c34, ↓CTL, VAL, Nat.reduceBEq, Nat.reduceAdd, hxo]
    refine (hc s).mono fun o s1 ⟨vs, ho, hR, hE⟩ => ?_
    obtain ⟨v1, v2, rfl, h1, h2⟩ := hR.two
    obtain ⟨rfl, _⟩ := h2
    subst ho
    have hO := h1.own
    have e1 := hE.1
    simp (disch := omega) only [↓CTL, VAL, Nat.reduceBEq, Nat.reduceAdd, hO.one]
    have hp0 := Hp.new (s := s1.alloc (.cells 1 [[v1]])) (H := H) (by simp only [AHeap.next_alloc]; omega) (by rw [objs_old (by omega), hE.2 H hH]; exact hobj)
    refine putOne (W := OwnW 1 rI v1 l) (p36 OwnW.stays (fun _ _ _ _ h => h.tv) hl) ((hO.alloc _).w hH) hp0 ?_ ?_ fun u s2 nv2 sv2 hp2 hst2 => ?_
    case refine_3 =>
      simp (disch := omega) only [↓CTL, VAL, Nat.reduceBEq, Nat.reduceAdd]
      refine putOne (W := WTrue) (p9 e) trivial hp2 ?_ ?_ fun u s3 nv3 sv3 hp3 hst3 => ?_
      case refine_3 =>
        have hst := hst2.trans hst3
        have hst1 := hst.1
        simp only [AHeap.next_alloc] at hst1
        have hsame : ∀ M, M < s1.next + 1 → M ≠ H → s3.objs M = (s1.alloc (.cells 1 [[v1]])).objs M := fun M hM hM2 => (hst.2 M (by simpa using hM) hM2 (fun _ _ _ _ h => by cases h) (fun _ _ _ _ h => by cases h)).1
        have hB := hsame s1.next (by omega) (by omega)
        rw [objs_new rfl] at hB
        simp (disch := omega) only [↓CTL, VAL, Nat.reduceBEq, Nat.reduceAdd]
        refine ⟨_, s1.next + 1, nv3, sv3, rfl, by omega, by simpa using hp3, fun M hM hM2 => ?_, ?_⟩
        · rw [hsame M (by omega) hM2, objs_old (by omega), hE.2 M hM]
        · refine RunV.func mixed k37 (by simp) ?_
          simp (disch := omega) only [c37, ↓CTL, VAL, Nat.reduceBEq, Nat.reduceAdd]
          refine (wipe_end (b := s1.next + 1) k38 k80 (w81 (by decide)) (r := rI) (fun _ => rfl) hO hl (by omega) (by omega) (fun M h1 h2 => by rw [hsame M (by omega) (by omega), objs_old (by omega)]) hB).mono fun o s'' ⟨⟨v, hv⟩, g2, g3⟩ => ?_
          subst hv
          simp (disch := omega) only [↓CTL, VAL, Nat.reduceBEq, Nat.reduceAdd]
          exact ⟨⟨_, rfl⟩, g2, g3⟩
      all_goals simp [sum_const]
      all_goals omega
    all_goals simp [sum_const]
    all_goals omega
  all_goals simp [sum_const]
  all_goals omega
theorem q39 (x : XA) (X : Nat) : ∃ A B, A.length ≤ 1099511627776 ∧ B.length ≤ 1099511627776 ∧ CallSpec Tryz.prog (.func (.func 39) [] [.ptr X 0 0]) X (.cells 26 [x.row]) A B := by
  obtain ⟨⟨⟨l, e⟩, hl⟩, hc⟩ := RunV.uniG (P := Tryz.prog) (f := 40) (show ∀ a ∈ [x.L.v, x.hum.v], Clo a from (c_cons x.L.clo (c_cons x.hum.clo c_nil))) (fun (c : {c : List Int × Int // c.1.length ≤ 1048576}) => [.ow 1 (c.1.1.map rI), .sc (.int .i64 c.1.2)])
    (fun σ => (s40 x.L.rv x.hum.rv x.L.off (by have := x.L.len; omega) (by have := x.hum.len; omega)).mono fun o s ⟨r, e, l, ho, hE, hO, hl⟩ => ⟨⟨(l, e), hl⟩, [r, .int .i64 e], ho, ⟨hO.rp flat_rI, ⟨rfl, rfl⟩, trivial⟩, hE⟩)
  dsimp only at hl hc
  refine ⟨([] ++ ((l.length : Int) :: l.flatMap fun x => [x])) ++ [e], ([] ++ (l.flatMap fun _ => [])) ++ [], ?_, ?_, fun s H hX hxo hH hne hobj => ?_⟩
  case refine_3 =>
    refine RunV.func mixed k39 (by simp) ?_
    rw [XA.row_eq] at hxo
    simp (disch := omega) only [c39, ↓CTL, VAL, Nat.reduceBEq, Nat.reduceAdd, hxo]
    refine (hc s).mono fun o s1 ⟨vs, ho, hR, hE⟩ => ?_
    obtain ⟨v1, v2, rfl, h1, h2⟩ := hR.two
    obtain ⟨rfl, _⟩ := h2
    subst ho
    have hO := h1.own
    have e1 := hE.1
    simp (disch := omega) only [↓CTL, VAL, Nat.reduceBEq, Nat.reduceAdd, hO.one]
    have hp0 := Hp.new (s := s1.alloc (.cells 1 [[v1]])) (H := H) (by simp only [AHeap.next_alloc]; omega) (by rw [objs_old (by omega), hE.2 H hH]; exact hobj)
    refine putOne (W := OwnW 1 rI v1 l) (p36 OwnW.stays (fun _ _ _ _ h => h.tv) hl) ((hO.alloc _).w hH) hp0 ?_ ?_ fun u s2 nv2 sv2 hp2 hst2 => ?_
    case refine_3 =>
      simp (disch := omega) only [↓CTL, VAL, Nat.reduceBEq, Nat.reduceAdd]
      refine putOne (W := WTrue) (p9 e) trivial hp2 ?_ ?_ fun u s3 nv3 sv3 hp3 hst3 => ?_
      case refine_3 =>
        have hst := hst2.trans hst3
        have hst1 := hst.1
        simp only [AHeap.next_alloc] at hst1
        have hsame : ∀ M, M < s1.next + 1 → M ≠ H → s3.objs M = (s1.alloc (.cells 1 [[v1]])).objs M := fun M hM hM2 => (hst.2 M (by simpa using hM) hM2 (fun _ _ _ _ h => by cases h) (fun _ _ _ _ h => by cases h)).1
        have hB := hsame s1.next (by omega) (by omega)
        rw [objs_new rfl] at hB
        simp (disch := omega) only [↓CTL, VAL, Nat.reduceBEq, Nat.reduceAdd]
        refine ⟨_, s1.next + 1, nv3, sv3, rfl, by omega, by simpa using hp3, fun M hM hM2 => ?_, ?_⟩
        · rw [hsame M (by omega) hM2, objs_old (by omega), hE.2 M hM]
        · refine RunV.func mixed k41 (by simp) ?_
          simp (disch := omega) only [c41, ↓CTL, VAL, Nat.reduceBEq, Nat.reduceAdd]
          refine (wipe_end (b := s1.next + 1) k38 k80 (w81 (by decide)) (r := rI) (fun _ => rfl) hO hl (by omega) (by omega) (fun M h1 h2 => by rw [hsame M (by omega) (by omega), objs_old (by omega)]) hB).mono fun o s'' ⟨⟨v, hv⟩, g2, g3⟩ => ?_
          subst hv
          simp (disch := omega) only [↓CTL, VAL, Nat.reduceBEq, Nat.reduceAdd]
          exact ⟨⟨_, rfl⟩, g2, g3⟩
      all_goals simp [sum_const]
      all_goals omega
    all_goals simp [sum_const]
    all_goals omega
  all_goals simp [sum_const]
  all_goals omega
theorem q42 (x : XA) (X : Nat) : ∃ A B, A.length ≤ 1099511627776 ∧ B.length ≤ 1099511627776 ∧ CallSpec Tryz.prog (.func (.func 42) [] [.ptr X 0 0]) X (.cells 26 [x.row]) A B := by
  obtain ⟨⟨⟨l, e⟩, hl⟩, hc⟩ := RunV.uniG (P := Tryz.prog) (f := 43) (show ∀ a ∈ [x.L.v, x.hum.v], Clo a from (c_cons x.L.clo (c_cons x.hum.clo c_nil))) (fun (c : {c : List Int × Int // c.1.length ≤ 1048576}) => [.ow 1 (c.1.1.map rI), .sc (.int .i64 c.1.2)])
    (fun σ => (s43 x.L.rv x.hum.rv x.L.off (by have := x.L.len; omega) (by have := x.hum.len; omega)).mono fun o s ⟨r, e, l, ho, hE, hO, hl⟩ => ⟨⟨(l, e), hl⟩, [r, .int .i64 e], ho, ⟨hO.rp flat_rI, ⟨rfl, rfl⟩, trivial⟩, hE⟩)
  dsimp only at hl hc
  refine ⟨([] ++ ((l.length : Int) :: l.flatMap fun x => [x])) ++ [e], ([] ++ (l.flatMap fun _ => [])) ++ [], ?_, ?_, fun s H hX hxo hH hne hobj => ?_⟩
  case refine_3 =>
    refine RunV.func mixed k42 (by simp) ?_
    rw [XA.row_eq] at hxo
    simp (disch := omega) only [c42, ↓CTL, VAL, Nat.reduceBEq, Nat.reduceAdd, hxo]
    refine (hc s).mono fun o s1 ⟨vs, ho, hR, hE⟩ => ?_
    obtain ⟨v1, v2, rfl, h1, h2⟩ := hR.two
    obtain ⟨rfl, _⟩ := h2
    subst ho
    have hO := h1.own
    have e1 := hE.1
    simp (disch := omega) only [↓CTL, VAL, Nat.reduceBEq, Nat.reduceAdd, hO.one]
    have hp0 := Hp.new (s := s1.alloc (.cells 1 [[v1]])) (H := H) (by simp only [AHeap.next_alloc]; omega) (by rw [objs_old (by omega), hE.2 H hH]; exact hobj)
    refine putOne (W := OwnW 1 rI v1 l) (p36 OwnW.stays (fun _ _ _ _ h => h.tv) hl) ((hO.alloc _).w hH) hp0 ?_ ?_ fun u s2 nv2 sv2 hp2 hst2 => ?_
    case refine_3 =>
      simp (disch := omega) only [↓CTL, VAL, Nat.reduceBEq, Nat.reduceAdd]
      refine putOne (W := WTrue) (p9 e) trivial hp2 ?_ ?_ fun u s3 nv3 sv3 hp3 hst3 => ?_
      case refine_3 =>
        have hst := hst2.trans hst3
        have hst1 := hst.1
        simp only [AHeap.next_alloc] at hst1
        have hsame : ∀ M, M < s1.next + 1 → M ≠ H → s3.objs M = (s1.alloc (.cells 1 [[v1]])).objs M := fun M hM hM2 => (hst.2 M (by simpa using hM) hM2 (fun _ _ _ _ h => by cases h) (fun _ _ _ _ h => by cases h)).1
        have hB := hsame s1.next (by omega) (by omega)
        rw [objs_new rfl] at hB
        simp (disch := omega) only [↓CTL, VAL, Nat.reduceBEq, Nat.reduceAdd]
        refine ⟨_, s1.next + 1, nv3, sv3, rfl, by omega, by simpa using hp3, fun M hM hM2 => ?_, ?_⟩
        · rw [hsame M (by omega) hM2, objs_old (by omega), hE.2 M hM]
        · refine RunV.func mixed k44 (by simp) ?_
          simp (disch := omega) only [c44, ↓CTL, VAL, Nat.reduceBEq, Nat.reduceAdd]
          refine (wipe_end (b := s1.next + 1) k38 k80 (w81 (by decide)) (r := rI) (fun _ => rfl) hO hl (by omega) (by omega) (fun M h1 h2 => by rw [hsame M (by omega) (by omega), objs_old (by omega)]) hB).mono fun o s'' ⟨⟨v, hv⟩, g2, g3⟩ => ?_
          subst hv
          simp (disch := omega) only [↓CTL, VAL, Nat.reduceBEq, Nat.reduceAdd]
          exact ⟨⟨_, rfl⟩, g2, g3⟩
      all_goals simp [sum_const]
      all_goals omega
    all_goals simp [sum_const]
    all_goals omega
  all_goals simp [sum_const]
  all_goals omega
theorem q48 (x : XA) (X : Nat) : ∃ A B, A.length ≤ 1099511627776 ∧ B.length ≤ 1099511627776 ∧ CallSpec Tryz.prog (.func (.func 48) [] [.ptr X 0 0]) X (.cells 26 [x.row]) A B := by
  obtain ⟨⟨⟨l, e⟩, hl⟩, hc⟩ := RunV.uniG (P := Tryz.prog) (f := 49) (show ∀ a ∈ [x.L.v, x.kept.v, x.spl.v, .int .i64 x.reach], Clo a from (c_cons x.L.clo (c_cons x.kept.clo (c_cons x.spl.clo (c_cons (ci _ _) c_nil))))) (fun (c : {c : List Int × Int // c.1.length ≤ 1048576}) => [.ow 1 (c.1.1.map rI), .sc (.int .i64 c.1.2)])
    (fun σ => (s49 x.L.rv x.spl.rv x.kept.rv x.L.off (by have := x.L.len; omega) (by have := x.spl.len; omega) _).mono fun o s ⟨r, e, l, ho, hE, hO, hl⟩ => ⟨⟨(l, e), hl⟩, [r, .int .i64 e], ho, ⟨hO.rp flat_rI, ⟨rfl, rfl⟩, trivial⟩, hE⟩)
  dsimp only at hl hc
  refine ⟨([] ++ ((l.length : Int) :: l.flatMap fun x => [x])) ++ [e], ([] ++ (l.flatMap fun _ => [])) ++ [], ?_, ?_, fun s H hX hxo hH hne hobj => ?_⟩
  case refine_3 =>
    refine RunV.func mixed k48 (by simp) ?_
    rw [XA.row_eq] at hxo
    simp (disch := omega) only [c48, ↓CTL, VAL, Nat.reduceBEq, Nat.reduceAdd, hxo]
    refine (hc s).mono fun o s1 ⟨vs, ho, hR, hE⟩ => ?_
    obtain ⟨v1, v2, rfl, h1, h2⟩ := hR.two
    obtain ⟨rfl, _⟩ := h2
    subst ho
    have hO := h1.own
    have e1 := hE.1
    simp (disch := omega) only [↓CTL, VAL, Nat.reduceBEq, Nat.reduceAdd, hO.one]
    have hp0 := Hp.new (s := s1.alloc (.cells 1 [[v1]])) (H := H) (by simp only [AHeap.next_alloc]; omega) (by rw [objs_old (by omega), hE.2 H hH]; exact hobj)
    refine putOne (W := OwnW 1 rI v1 l) (p36 OwnW.stays (fun _ _ _ _ h => h.tv) hl) ((hO.alloc _).w hH) hp0 ?_ ?_ fun u s2 nv2 sv2 hp2 hst2 => ?_
    case refine_3 =>
      simp (disch := omega) only [↓CTL, VAL, Nat.reduceBEq, Nat.reduceAdd]
      refine putOne (W := WTrue) (p9 e) trivial hp2 ?_ ?_ fun u s3 nv3 sv3 hp3 hst3 => ?_
      case refine_3 =>
        have hst := hst2.trans hst3
        have hst1 := hst.1
        simp only [AHeap.next_alloc] at hst1
        have hsame : ∀ M, M < s1.next + 1 → M ≠ H → s3.objs M = (s1.alloc (.cells 1 [[v1]])).objs M := fun M hM hM2 => (hst.2 M (by simpa using hM) hM2 (fun _ _ _ _ h => by cases h) (fun _ _ _ _ h => by cases h)).1
        have hB := hsame s1.next (by omega) (by omega)
        rw [objs_new rfl] at hB
        simp (disch := omega) only [↓CTL, VAL, Nat.reduceBEq, Nat.reduceAdd]
        refine ⟨_, s1.next + 1, nv3, sv3, rfl, by omega, by simpa using hp3, fun M hM hM2 => ?_, ?_⟩
        · rw [hsame M (by omega) hM2, objs_old (by omega), hE.2 M hM]
        · refine RunV.func mixed k50 (by simp) ?_
          simp (disch := omega) only [c50, ↓CTL, VAL, Nat.reduceBEq, Nat.reduceAdd]
          refine (wipe_end (b := s1.next + 1) k38 k80 (w81 (by decide)) (r := rI) (fun _ => rfl) hO hl (by omega) (by omega) (fun M h1 h2 => by rw [hsame M (by omega) (by omega), objs_old (by omega)]) hB).mono fun o s'' ⟨⟨v, hv⟩, g2, g3⟩ => ?_
          subst hv
          simp (disch := omega) only [↓CTL, VAL, Nat.reduceBEq, Nat.reduceAdd]
          exact ⟨⟨_, rfl⟩, g2, g3⟩
      all_goals simp [sum_const]
      all_goals omega
    all_goals simp [sum_const]
    all_goals omega
  all_goals simp [sum_const]
  all_goals omega
theorem q51 (x : XA) (X : Nat) : ∃ A B, A.length ≤ 1099511627776 ∧ B.length ≤ 1099511627776 ∧ CallSpec Tryz.prog (.func (.func 51) [] [.ptr X 0 0]) X (.cells 26 [x.row]) A B := by
  obtain ⟨⟨⟨l, e⟩, hl⟩, hc⟩ := RunV.uniG (P := Tryz.prog) (f := 52) (show ∀ a ∈ [x.L.v, .int .i64 x.begin_, .int .i64 x.step, .int .i64 x.many], Clo a from (c_cons x.L.clo (c_cons (ci _ _) (c_cons (ci _ _) (c_cons (ci _ _) c_nil))))) (fun (c : {c : List Int × Int // c.1.length ≤ 1048576}) => [.ow 1 (c.1.1.map rI), .sc (.int .i64 c.1.2)])
    (fun σ => (s52 x.L.rv (by have := x.L.len; omega) _ _ _).mono fun o s ⟨r, e, l, ho, hE, hO, hl⟩ => ⟨⟨(l, e), hl⟩, [r, .int .i64 e], ho, ⟨hO.rp flat_rI, ⟨rfl, rfl⟩, trivial⟩, hE⟩)
  dsimp only at hl hc
  refine ⟨([] ++ ((l.length : Int) :: l.flatMap fun x => [x])) ++ [e], ([] ++ (l.flatMap fun _ => [])) ++ [], ?_, ?_, fun s H hX hxo hH hne hobj => ?_⟩
  case refine_3 =>
    refine RunV.func mixed k51 (by simp) ?_
    rw [XA.row_eq] at hxo
    simp (disch := omega) only [c51, ↓CTL, VAL, Nat.reduceBEq, Nat.reduceAdd, hxo]
    refine (hc s).mono fun o s1 ⟨vs, ho, hR, hE⟩ => ?_
    obtain ⟨v1, v2, rfl, h1, h2⟩ := hR.two
    obtain ⟨rfl, _⟩ := h2
    subst ho
    have hO := h1.own
    have e1 := hE.1
    simp (disch := omega) only [↓CTL, VAL, Nat.reduceBEq, Nat.reduceAdd, hO.one]
    have hp0 := Hp.new (s := s1.alloc (.cells 1 [[v1]])) (H := H) (by simp only [AHeap.next_alloc]; omega) (by rw [objs_old (by omega), hE.2 H hH]; exact hobj)
    refine putOne (W := OwnW 1 rI v1 l) (p36 OwnW.stays (fun _ _ _ _ h => h.tv) hl) ((hO.alloc _).w hH) hp0 ?_ ?_ fun u s2 nv2 sv2 hp2 hst2 => ?_
    case refine_3 =>
      simp (disch := omega) only [↓CTL, VAL, Nat.reduceBEq, Nat.reduceAdd]
      refine putOne (W := WTrue) (p9 e) trivial hp2 ?_ ?_ fun u s3 nv3 sv3 hp3 hst3 => ?_
      case refine_3 =>
        have hst := hst2.trans hst3
        have hst1 := hst.1
        simp only [AHeap.next_alloc] at hst1
        have hsame : ∀ M, M < s1.next + 1 → M ≠ H → s3.objs M = (s1.alloc (.cells 1 [[v1]])).objs M := fun M hM hM2 => (hst.2 M (by simpa using hM) hM2 (fun _ _ _ _ h => by cases h) (fun _ _ _ _ h => by cases h)).1
        have hB := hsame s1.next (by omega) (by omega)
        rw [objs_new rfl] at hB
        simp (disch := omega) only [↓CTL, VAL, Nat.reduceBEq, Nat.reduceAdd]
        refine ⟨_, s1.next + 1, nv3, sv3, rfl, by omega, by simpa using hp3, fun M hM hM2 => ?_, ?_⟩
        · rw [hsame M (by omega) hM2, objs_old (by omega), hE.2 M hM]
        · refine RunV.func mixed k53 (by simp) ?_
          simp (disch := omega) only [c53, ↓CTL, VAL, Nat.reduceBEq, Nat.reduceAdd]
          refine (wipe_end (b := s1.next + 1) k38 k80 (w81 (by decide)) (r := rI) (fun _ => rfl) hO hl (by omega) (by omega) (fun M h1 h2 => by rw [hsame M (by omega) (by omega), objs_old (by omega)]) hB).mono fun o s'' ⟨⟨v, hv⟩, g2, g3⟩ => ?_
          subst hv
          simp (disch := omega) only [↓CTL, VAL, Nat.reduceBEq, Nat.reduceAdd]
          exact ⟨⟨_, rfl⟩, g2, g3⟩
      all_goals simp [sum_const]
      all_goals omega
    all_goals simp [sum_const]
    all_goals omega
  all_goals simp [sum_const]
  all_goals omega
end Go.Proofs.YtkfahdbjndihfaaGreat
namespace Go.Proofs.YtkfahdbjndihfaaGreat
open Go.Tc
set_option linter.unusedSimpArgs false
set_option maxRecDepth 20000
theorem q26 (x : XA) (X : Nat) : ∃ A B, A.length ≤ 1099511627776 ∧ B.length ≤ 1099511627776 ∧ CallSpec Tryz.prog (.func (.func 26) [] [.ptr X 0 0]) X (.cells 26 [x.row]) A B := by
  obtain ⟨⟨⟨l, a, b, c, e⟩, hl⟩, hc⟩ := RunV.uniG (P := Tryz.prog) (f := 27) (show ∀ a ∈ [x.task], Clo a from (c_cons x.task_clo c_nil)) (fun (c : {c : List Proof4 × Int × Int × Int × Int // c.1.length ≤ 1048576}) => [.sc (.agg [.int .i64 c.1.2.1, .int .i64 c.1.2.2.1, .int .i64 c.1.2.2.2.1]), .ow 4 (c.1.1.map Proof4.row), .sc (.int .i64 c.1.2.2.2.2)])
    (fun σ => (s27 x.marks.rv x.speeds.rv).mono fun o s ⟨a, b, c, r, e, l, ho, hE, hO, hl⟩ => ⟨⟨(l, a, b, c, e), hl⟩, [.agg [.int .i64 a, .int .i64 b, .int .i64 c], r, .int .i64 e], ho, ⟨⟨rfl, rfl⟩, hO.rp flat_proof4, ⟨rfl, rfl⟩, trivial⟩, hE⟩)
  dsimp only at hl hc
  refine ⟨(([] ++ ([a] ++ ([b] ++ ([c] ++ [])))) ++ ((l.length : Int) :: l.flatMap fun x => [x.a] ++ ([x.b] ++ ([x.c] ++ ([x.d] ++ []))))) ++ [e], (([] ++ ([] ++ ([] ++ ([] ++ [])))) ++ (l.flatMap fun _ => [] ++ ([] ++ ([] ++ ([] ++ []))))) ++ [], ?_, ?_, fun s H hX hxo hH hne hobj => ?_⟩
  case refine_3 =>
    refine RunV.func mixed k26 (by simp) ?_
    rw [XA.row_eq] at hxo
    simp (disch := omega) only [c26, ↓CTL, VAL, Nat.reduceBEq, Nat.reduceAdd, hxo]
    refine (hc s).mono fun o s1 ⟨vs, ho, hR, hE⟩ => ?_
    obtain ⟨v1, v2, v3, rfl, h1, h2, h3⟩ := hR.three
    obtain ⟨rfl, _⟩ := h1
    obtain ⟨rfl, _⟩ := h3
    subst ho
    have hO := h2.own
    have e1 := hE.1
    simp (disch := first | omega | (simp only [AHeap.next_alloc, AHeap.next_set]; done) | (simp only [AHeap.next_alloc, AHeap.next_set]; omega)) only [↓CTL, VAL, alloc_setN, Nat.reduceBEq, Nat.reduceAdd, hO.one]
    rw [alloc_setN (by simp only [AHeap.next_alloc])]
    have hp0 := Hp.new (s := (s1.alloc (.cells 3 [[.int .i64 a, .int .i64 b, .int .i64 c]])).alloc (.cells 1 [[v2]])) (H := H) (by simp only [AHeap.next_alloc]; omega) (by rw [objs_old (by simp only [AHeap.next_alloc]; omega), objs_old (by omega), hE.2 H hH]; exact hobj)
    refine putOne (W := WTrue) (p28 WTrue.stays a b c) trivial hp0 ?_ ?_ fun u s2 nv2 sv2 hp2 hst2 => ?_
    case refine_3 =>
      have hW2 := OwnW.stays _ _ _ _ _ _ _ (((hO.alloc (.cells 3 [[.int .i64 a, .int .i64 b, .int .i64 c]])).alloc (.cells 1 [[v2]])).w hH) hst2
      have hB2 := (hst2.2 (s1.next + 1) (by simp only [AHeap.next_alloc]; omega) (by omega) (fun _ _ _ _ h => by cases h) (fun _ _ _ _ h => by cases h)).1
      simp (disch := omega) only [VAL] at hB2
      simp (disch := omega) only [↓CTL, VAL, Nat.reduceBEq, Nat.reduceAdd, hB2]
      refine putOne (W := OwnW 4 Proof4.row v2 l) (p29 OwnW.stays (fun _ _ _ _ h => h.tv) hl) hW2 hp2 ?_ ?_ fun u s3 nv3 sv3 hp3 hst3 => ?_
      case refine_3 =>
        simp (disch := omega) only [↓CTL, VAL, Nat.reduceBEq, Nat.reduceAdd]
        refine putOne (W := WTrue) (p9 e) trivial hp3 ?_ ?_ fun u s4 nv4 sv4 hp4 hst4 => ?_
        case refine_3 =>
          have hst := hst2.trans (hst3.trans hst4)
          have hst1 := hst.1
          simp only [AHeap.next_alloc] at hst1
          have hsame : ∀ M, M < s1.next + 2 → M ≠ H → s4.objs M = ((s1.alloc (.cells 3 [[.int .i64 a, .int .i64 b, .int .i64 c]])).alloc (.cells 1 [[v2]])).objs M := fun M hM hM2 => (hst.2 M (by simpa using hM) hM2 (fun _ _ _ _ h => by cases h) (fun _ _ _ _ h => by cases h)).1
          have hold : ∀ M, M < s1.next → M ≠ H → s4.objs M = s1.objs M := fun M hM hM2 => by rw [hsame M (by omega) hM2, objs_old (by simp only [AHeap.next_alloc]; omega), objs_old (by omega)]
          have hB := hsame (s1.next + 1) (by omega) (by omega)
          rw [objs_new (by simp only [AHeap.next_alloc])] at hB
          simp (disch := omega) only [↓CTL, VAL, Nat.reduceBEq, Nat.reduceAdd]
          refine ⟨_, s1.next + 1 + 1, nv4, sv4, rfl, by omega, by simpa using hp4, fun M hM hM2 => ?_, ?_⟩
          · rw [hold M (by omega) hM2, hE.2 M hM]
          · refine RunV.func mixed k30 (by simp) ?_
            simp (disch := omega) only [c30, ↓CTL, VAL, Nat.reduceBEq, Nat.reduceAdd]
            refine (wipe_end (b := s1.next + 1 + 1) k31 k74 w75 (r := Proof4.row) (fun _ => rfl) hO hl (by omega) (by omega) (fun M h1 h2 => hold M h2 (by omega)) hB).mono fun o s'' ⟨⟨v, hv⟩, g2, g3⟩ => ?_
            subst hv
            simp (disch := omega) only [↓CTL, VAL, Nat.reduceBEq, Nat.reduceAdd]
            exact ⟨⟨_, rfl⟩, g2, g3⟩
        all_goals simp [sum_const]
        all_goals omega
      all_goals simp [sum_const]
      all_goals omega
    all_goals simp [sum_const]
    all_goals omega
  all_goals simp [sum_const]
  all_goals omega
theorem wipe_end' {f p e : FuncId} {m : Nat} (hf : compFunc Tryz.prog f = some (6, wipeLCode p e, [])) (hk : compFunc Tryz.prog p = some (16, wipesCode m, [])) (he : WipeAt Tryz.prog (.func (.func e) [] []) m 0) {α : Type} {r : α → List AVal} (hr : ∀ x, (r x).length = m) {a : Nat} {s1 s3 : AHeap} {v : AVal} {l : List α} {X : Nat}
    (hO : OwnS s1 a m r v l) (hl : l.length ≤ 1048576) (hn : s1.next ≤ s3.next) (hsame : ∀ M, a ≤ M → M < s1.next → s3.objs M = s1.objs M) (hX : s3.objs X = some (.cells 1 [[v]])) :
    RunV Tryz.prog (.func (.func f) [] []) [.ptr X 0 0] s3 (fun o s'' => (∃ v, o = .ret v) ∧ s3.next ≤ s''.next ∧ ∀ M, M < s3.next → Off v M → s''.objs M = s3.objs M) := by
  rcases hO with ⟨rfl, rfl⟩ | ⟨N, ex, rfl, h1, h2, h3⟩
  · refine (wipeL_spec mixed hf hk he (N := 0) (len := 0) (rows := []) (ex := true) hX (.inl rfl) (by omega)).mono fun o s'' ⟨g1, g2, g3⟩ => ⟨g1, g2, fun M hM _ => g3 M hM (.inr rfl)⟩
  · refine (wipeL_spec mixed hf hk he (N := N) (len := l.length) (rows := l.map r) (ex := ex) hX (.inr ⟨rfl, by omega, (hsame N h1 h2).trans h3, by simp, fun row hrow => ?_⟩) (by omega)).mono fun o s'' ⟨g1, g2, g3⟩ => ⟨g1, g2, fun M hM hc => g3 M hM (.inl fun h => hc m 0 l.length ex (by subst h; rfl))⟩
    obtain ⟨x, _, rfl⟩ := List.mem_map.1 hrow
    exact hr x
theorem q45 (x : XA) (X : Nat) : ∃ A B, A.length ≤ 1099511627776 ∧ B.length ≤ 1099511627776 ∧ CallSpec Tryz.prog (.func (.func 45) [] [.ptr X 0 0]) X (.cells 26 [x.row]) A B := by
  obtain ⟨⟨⟨l, l', e⟩, hl, hl'⟩, hc⟩ := RunV.uniD (P := Tryz.prog) (f := 46) (show ∀ a ∈ [x.L.v, x.spl.v, .int .i64 x.reach], Clo a from (c_cons x.L.clo (c_cons x.spl.clo (c_cons (ci _ _) c_nil)))) (fun (c : {c : List Int × List Int × Int // c.1.length ≤ 1048576 ∧ c.2.1.length ≤ 1048576}) => [.ow 1 (c.1.1.map rI), .ow 1 (c.1.2.1.map rI), .sc (.int .i64 c.1.2.2)])
    (fun σ => (s46 x.L.rv x.spl.rv x.L.off (by have := x.L.len; omega) (by have := x.spl.len; omega) x.reach).mono fun o s ⟨a, k, e, l, l', ho, hE, hO, hO', hd, hl, hl'⟩ => ⟨⟨(l, l', e), hl, hl'⟩, [a, k, .int .i64 e], ho, ⟨hO.rp flat_rI, hO'.rp flat_rI, ⟨rfl, rfl⟩, trivial⟩, hE, .cons (fun b hb => by
      rcases List.mem_cons.1 hb with rfl | hb
      · exact hd
      · rw [List.mem_singleton] at hb; subst hb; exact fun M _ _ _ _ _ h => by cases h) (.cons (fun b hb => by rw [List.mem_singleton] at hb; subst hb; exact fun M _ _ _ _ _ h => by cases h) (.cons (fun b hb => by simp at hb) .nil))⟩)
  dsimp only at hl hl' hc
  refine ⟨(([] ++ ((l.length : Int) :: l.flatMap fun x => [x])) ++ ((l'.length : Int) :: l'.flatMap fun x => [x])) ++ [e], (([] ++ (l.flatMap fun _ => [])) ++ (l'.flatMap fun _ => [])) ++ [], ?_, ?_, fun s H hX hxo hH hne hobj => ?_⟩
  case refine_3 =>
    refine RunV.func mixed k45 (by simp) ?_
    rw [XA.row_eq] at hxo
    simp (disch := omega) only [c45, ↓CTL, VAL, Nat.reduceBEq, Nat.reduceAdd, hxo]
    refine (hc s).mono fun o s1 ⟨vs, ho, hR, hE, hdj⟩ => ?_
    obtain ⟨v1, v2, v3, rfl, h1, h2, h3⟩ := hR.three
    obtain ⟨rfl, _⟩ := h3
    subst ho
    have hO1 := h1.own
    have hd : ∀ M, ¬ Off v1 M → Off v2 M := (List.pairwise_cons.1 hdj).1 v2 (by simp)
    have hO := h2.own
    have e1 := hE.1
    simp (disch := first | omega | (simp only [AHeap.next_alloc, AHeap.next_set]; done) | (simp only [AHeap.next_alloc, AHeap.next_set]; omega)) only [↓CTL, VAL, alloc_setN, Nat.reduceBEq, Nat.reduceAdd, hO.one, hO1.one]
    rw [alloc_setN (by simp only [AHeap.next_alloc])]
    have hp0 := Hp.new (s := (s1.alloc (.cells 1 [[v1]])).alloc (.cells 1 [[v2]])) (H := H) (by simp only [AHeap.next_alloc]; omega) (by rw [objs_old (by simp only [AHeap.next_alloc]; omega), objs_old (by omega), hE.2 H hH]; exact hobj)
    refine putOne (W := OwnW 1 rI v1 l) (p36 OwnW.stays (fun _ _ _ _ h => h.tv) hl) (((hO1.alloc (.cells 1 [[v1]])).alloc (.cells 1 [[v2]])).w hH) hp0 ?_ ?_ fun u s2 nv2 sv2 hp2 hst2 => ?_
    case refine_3 =>
      have hW2 := OwnW.stays _ _ _ _ _ _ _ (((hO.alloc (.cells 1 [[v1]])).alloc (.cells 1 [[v2]])).w hH) hst2
      have hB2 := (hst2.2 (s1.next + 1) (by simp only [AHeap.next_alloc]; omega) (by omega) (fun _ _ _ _ h => by cases h) (fun _ _ _ _ h => by cases h)).1
      simp (disch := omega) only [VAL] at hB2
      simp (disch := omega) only [↓CTL, VAL, Nat.reduceBEq, Nat.reduceAdd, hB2]
      refine putOne (W := OwnW 1 rI v2 l') (p36 OwnW.stays (fun _ _ _ _ h => h.tv) hl') hW2 hp2 ?_ ?_ fun u s3 nv3 sv3 hp3 hst3 => ?_
      case refine_3 =>
        simp (disch := omega) only [↓CTL, VAL, Nat.reduceBEq, Nat.reduceAdd]
        refine putOne (W := WTrue) (p9 e) trivial hp3 ?_ ?_ fun u s4 nv4 sv4 hp4 hst4 => ?_
        case refine_3 =>
          have hst := hst2.trans (hst3.trans hst4)
          have hst1 := hst.1
          simp only [AHeap.next_alloc] at hst1
          have hsame : ∀ M, M < s1.next + 2 → M ≠ H → s4.objs M = ((s1.alloc (.cells 1 [[v1]])).alloc (.cells 1 [[v2]])).objs M := fun M hM hM2 => (hst.2 M (by simpa using hM) hM2 (fun _ _ _ _ h => by cases h) (fun _ _ _ _ h => by cases h)).1
          have hold : ∀ M, M < s1.next → M ≠ H → s4.objs M = s1.objs M := fun M hM hM2 => by rw [hsame M (by omega) hM2, objs_old (by simp only [AHeap.next_alloc]; omega), objs_old (by omega)]
          have hA := hsame s1.next (by omega) (by omega)
          rw [objs_old (by simp only [AHeap.next_alloc]; omega), objs_new rfl] at hA
          have hB := hsame (s1.next + 1) (by omega) (by omega)
          rw [objs_new (by simp only [AHeap.next_alloc])] at hB
          simp (disch := omega) only [↓CTL, VAL, Nat.reduceBEq, Nat.reduceAdd]
          refine ⟨_, s1.next + 1 + 1, nv4, sv4, rfl, by omega, by simpa using hp4, fun M hM hM2 => ?_, ?_⟩
          · rw [hold M (by omega) hM2, hE.2 M hM]
          · refine RunV.func mixed k47 (by simp) ?_
            simp (disch := omega) only [c47, ↓CTL, VAL, Nat.reduceBEq, Nat.reduceAdd]
            refine (wipe_end' k38 k80 (w81 (by decide)) (r := rI) (fun _ => rfl) hO1 hl (by omega) (fun M h1 h2 => hold M h2 (by omega)) hA).mono fun o s5 ⟨⟨v, hv⟩, g2, g3⟩ => ?_
            subst hv
            simp (disch := omega) only [↓CTL, VAL, Nat.reduceBEq, Nat.reduceAdd]
            have hB5 := (g3 (s1.next + 1) (by omega) (hO1.off_new (by omega))).trans hB
            have hO5 : OwnS s5 s.next 1 rI v2 l' := hO.keep (by omega) fun M m1 m2 m3 => (g3 M (by omega) (Classical.byContradiction fun h => m3 (hd M h))).trans (hold M m2 (by omega))
            refine (wipe_end' k38 k80 (w81 (by decide)) (r := rI) (fun _ => rfl) hO5 hl' (Nat.le_refl _) (fun M h1 h2 => rfl) hB5).mono fun o s6 ⟨⟨v, hv⟩, g4, g5⟩ => ?_
            subst hv
            simp (disch := omega) only [↓CTL, VAL, Nat.reduceBEq, Nat.reduceAdd]
            refine ⟨⟨_, rfl⟩, by omega, fun M hM hc => ?_⟩
            have o1 : Off v1 M := by rcases hc with h | h; exact hO1.off_old h; exact hO1.off_new (by omega)
            have o2 : Off v2 M := by rcases hc with h | h; exact hO.off_old h; exact hO.off_new (by omega)
            exact (g5 M (by omega) o2).trans (g3 M hM o1)
        all_goals simp [sum_const]
        all_goals omega
      all_goals simp [sum_const]
      all_goals omega
    all_goals simp [sum_const]
    all_goals omega
  all_goals simp [sum_const]
  all_goals omega
theorem q12 (x : XA) (X : Nat) : ∃ A B, A.length ≤ 1099511627776 ∧ B.length ≤ 1099511627776 ∧ CallSpec Tryz.prog (.func (.func 12) [] [.ptr X 0 0]) X (.cells 26 [x.row]) A B := by
  obtain ⟨⟨a, b, e⟩, hc⟩ := RunV.uniG (P := Tryz.prog) (f := 13) (show ∀ a ∈ [x.task], Clo a from (c_cons x.task_clo c_nil)) (fun (c : Int × Int × Int) => [.sc (.int .i64 c.1), .sc (.int .i64 c.2.1), .sc (.int .i64 c.2.2)])
    (fun σ => (s13 σ _ _ _ _ _ _ _ x.marks.rv x.speeds.rv (Q := fun o s => ∃ a b e : Int, o = .ret (.tup [.int .i64 a, .int .i64 b, .int .i64 e]) ∧ s = σ) (fun a b e _ => ⟨a, b, e, rfl, rfl⟩)).mono fun o s ⟨a, b, e, ho, hs⟩ => ⟨⟨a, b, e⟩, [.int .i64 a, .int .i64 b, .int .i64 e], ho, ⟨⟨rfl, rfl⟩, ⟨rfl, rfl⟩, ⟨rfl, rfl⟩, trivial⟩, hs ▸ .refl _⟩)
  dsimp only at hc
  refine ⟨((([] ++ [a]) ++ [b]) ++ [e]), ((([] ++ []) ++ []) ++ []), by simp, by simp, fun s H hX hxo hH hne hobj => ?_⟩
  refine RunV.func mixed k12 (by simp) ?_
  rw [XA.row_eq] at hxo
  simp (disch := omega) only [c12, ↓CTL, VAL, Nat.reduceBEq, Nat.reduceAdd, hxo]
  refine (hc s).mono fun o s1 ⟨vs, ho, hR, hE⟩ => ?_
  obtain ⟨v1, v2, v3, rfl, ⟨rfl, _⟩, ⟨rfl, _⟩, ⟨rfl, _⟩⟩ := hR.three
  subst ho
  have e1 := hE.1
  simp (disch := omega) only [↓CTL, VAL, Nat.reduceBEq, Nat.reduceAdd]
  have hp0 := Hp.new (s := s1) (H := H) (by omega) (by rw [hE.2 H hH]; exact hobj)
  refine putOne (W := WTrue) (p14 a) trivial hp0 (by simp) (by simp) fun u s2 nv2 sv2 hp2 hst2 => ?_
  simp (disch := omega) only [↓CTL, VAL, Nat.reduceBEq, Nat.reduceAdd]
  refine putOne (W := WTrue) (p14 b) trivial hp2 (by simp) (by simp) fun u s3 nv3 sv3 hp3 hst3 => ?_
  simp (disch := omega) only [↓CTL, VAL, Nat.reduceBEq, Nat.reduceAdd]
  refine putOne (W := WTrue) (p9 e) trivial hp3 (by simp) (by simp) fun u s4 nv4 sv4 hp4 hst4 => ?_
  simp (disch := omega) only [↓CTL, VAL, Nat.reduceBEq, Nat.reduceAdd]
  have hst := (hst2.trans (hst3.trans hst4))
  have hst1 := hst.1
  have hsame : ∀ M, M < s1.next → M ≠ H → s4.objs M = s1.objs M := fun M hM hM2 => (hst.2 M hM hM2 (fun _ _ _ _ h => by cases h) (fun _ _ _ _ h => by cases h)).1
  refine ⟨_, s1.next, nv4, sv4, rfl, by omega, by simpa using hp4, fun M hM hM2 => (hsame M (by omega) hM2).trans (hE.2 M hM), ?_⟩
  exact (nothing_spec mixed k15 _).mono fun o s' ⟨h1, h2⟩ => ⟨h1, by rw [h2]; exact ⟨Nat.le_refl _, fun _ _ _ => rfl⟩⟩
theorem q24 (x : XA) (X : Nat) : ∃ A B, A.length ≤ 1099511627776 ∧ B.length ≤ 1099511627776 ∧ CallSpec Tryz.prog (.func (.func 24) [] [.ptr X 0 0]) X (.cells 26 [x.row]) A B := by
  obtain ⟨⟨a, b, e⟩, hc⟩ := RunV.uniG (P := Tryz.prog) (f := 25) (show ∀ a ∈ [x.task, .int .i64 x.speed, .int .i64 x.begin_], Clo a from (c_cons x.task_clo (c_cons (ci _ _) (c_cons (ci _ _) c_nil)))) (fun (c : Int × Int × Int) => [.sc (.int .i64 c.1), .sc (.int .i64 c.2.1), .sc (.int .i64 c.2.2)])
    (fun σ => (s25 (σ := σ) x.marks.rv x.speeds.rv x.speed x.begin_ (Q := fun o s => ∃ a b e : Int, o = .ret (.tup [.int .i64 a, .int .i64 b, .int .i64 e]) ∧ s = σ) (fun a b e => ⟨a, b, e, rfl, rfl⟩)).mono fun o s ⟨a, b, e, ho, hs⟩ => ⟨⟨a, b, e⟩, [.int .i64 a, .int .i64 b, .int .i64 e], ho, ⟨⟨rfl, rfl⟩, ⟨rfl, rfl⟩, ⟨rfl, rfl⟩, trivial⟩, hs ▸ .refl _⟩)
  dsimp only at hc
  refine ⟨((([] ++ [a]) ++ [b]) ++ [e]), ((([] ++ []) ++ []) ++ []), by simp, by simp, fun s H hX hxo hH hne hobj => ?_⟩
  refine RunV.func mixed k24 (by simp) ?_
  rw [XA.row_eq] at hxo
  simp (disch := omega) only [c24, ↓CTL, VAL, Nat.reduceBEq, Nat.reduceAdd, hxo]
  refine (hc s).mono fun o s1 ⟨vs, ho, hR, hE⟩ => ?_
  obtain ⟨v1, v2, v3, rfl, ⟨rfl, _⟩, ⟨rfl, _⟩, ⟨rfl, _⟩⟩ := hR.three
  subst ho
  have e1 := hE.1
  simp (disch := omega) only [↓CTL, VAL, Nat.reduceBEq, Nat.reduceAdd]
  have hp0 := Hp.new (s := s1) (H := H) (by omega) (by rw [hE.2 H hH]; exact hobj)
  refine putOne (W := WTrue) (p14 a) trivial hp0 (by simp) (by simp) fun u s2 nv2 sv2 hp2 hst2 => ?_
  simp (disch := omega) only [↓CTL, VAL, Nat.reduceBEq, Nat.reduceAdd]
  refine putOne (W := WTrue) (p14 b) trivial hp2 (by simp) (by simp) fun u s3 nv3 sv3 hp3 hst3 => ?_
  simp (disch := omega) only [↓CTL, VAL, Nat.reduceBEq, Nat.reduceAdd]
  refine putOne (W := WTrue) (p9 e) trivial hp3 (by simp) (by simp) fun u s4 nv4 sv4 hp4 hst4 => ?_
  simp (disch := omega) only [↓CTL, VAL, Nat.reduceBEq, Nat.reduceAdd]
  have hst := (hst2.trans (hst3.trans hst4))
  have hst1 := hst.1
  have hsame : ∀ M, M < s1.next → M ≠ H → s4.objs M = s1.objs M := fun M hM hM2 => (hst.2 M hM hM2 (fun _ _ _ _ h => by cases h) (fun _ _ _ _ h => by cases h)).1
  refine ⟨_, s1.next, nv4, sv4, rfl, by omega, by simpa using hp4, fun M hM hM2 => (hsame M (by omega) hM2).trans (hE.2 M hM), ?_⟩
  exact (nothing_spec mixed k15 _).mono fun o s' ⟨h1, h2⟩ => ⟨h1, by rw [h2]; exact ⟨Nat.le_refl _, fun _ _ _ => rfl⟩⟩
theorem q32 (x : XA) (X : Nat) : ∃ A B, A.length ≤ 1099511627776 ∧ B.length ≤ 1099511627776 ∧ CallSpec Tryz.prog (.func (.func 32) [] [.ptr X 0 0]) X (.cells 26 [x.row]) A B := by
  obtain ⟨⟨a, e⟩, hc⟩ := RunV.uniG (P := Tryz.prog) (f := 33) (show ∀ a ∈ [.int .i64 x.frames2, .int .i64 x.lead, x.cuts.v, .int .i64 x.fnum], Clo a from (c_cons (ci _ _) (c_cons (ci _ _) (c_cons x.cuts.clo (c_cons (ci _ _) c_nil))))) (fun (c : Int × Int) => [.sc (.int .i64 c.1), .sc (.int .i64 c.2)])
    (fun σ => (s33 σ _ _ _ _ _ x.cuts.rv (by have := x.cuts.len; omega) (Q := fun o s => ∃ a e : Int, o = .ret (.tup [.int .i64 a, .int .i64 e]) ∧ s = σ) (fun a e => ⟨a, e, rfl, rfl⟩)).mono fun o s ⟨a, e, ho, hs⟩ => ⟨⟨a, e⟩, [.int .i64 a, .int .i64 e], ho, ⟨⟨rfl, rfl⟩, ⟨rfl, rfl⟩, trivial⟩, hs ▸ .refl _⟩)
  dsimp only at hc
  refine ⟨(([] ++ [a]) ++ [e]), (([] ++ []) ++ []), by simp, by simp, fun s H hX hxo hH hne hobj => ?_⟩
  refine RunV.func mixed k32 (by simp) ?_
  rw [XA.row_eq] at hxo
  simp (disch := omega) only [c32, ↓CTL, VAL, Nat.reduceBEq, Nat.reduceAdd, hxo]
  refine (hc s).mono fun o s1 ⟨vs, ho, hR, hE⟩ => ?_
  obtain ⟨v1, v2, rfl, ⟨rfl, _⟩, ⟨rfl, _⟩⟩ := hR.two
  subst ho
  have e1 := hE.1
  simp (disch := omega) only [↓CTL, VAL, Nat.reduceBEq, Nat.reduceAdd]
  have hp0 := Hp.new (s := s1) (H := H) (by omega) (by rw [hE.2 H hH]; exact hobj)
  refine putOne (W := WTrue) (p14 a) trivial hp0 (by simp) (by simp) fun u s2 nv2 sv2 hp2 hst2 => ?_
  simp (disch := omega) only [↓CTL, VAL, Nat.reduceBEq, Nat.reduceAdd]
  refine putOne (W := WTrue) (p9 e) trivial hp2 (by simp) (by simp) fun u s3 nv3 sv3 hp3 hst3 => ?_
  simp (disch := omega) only [↓CTL, VAL, Nat.reduceBEq, Nat.reduceAdd]
  have hst := (hst2.trans hst3)
  have hst1 := hst.1
  have hsame : ∀ M, M < s1.next → M ≠ H → s3.objs M = s1.objs M := fun M hM hM2 => (hst.2 M hM hM2 (fun _ _ _ _ h => by cases h) (fun _ _ _ _ h => by cases h)).1
  refine ⟨_, s1.next, nv3, sv3, rfl, by omega, by simpa using hp3, fun M hM hM2 => (hsame M (by omega) hM2).trans (hE.2 M hM), ?_⟩
  exact (nothing_spec mixed k15 _).mono fun o s' ⟨h1, h2⟩ => ⟨h1, by rw [h2]; exact ⟨Nat.le_refl _, fun _ _ _ => rfl⟩⟩
theorem q21 (x : XA) (X : Nat) : ∃ A B, A.length ≤ 1099511627776 ∧ B.length ≤ 1099511627776 ∧ CallSpec Tryz.prog (.func (.func 21) [] [.ptr X 0 0]) X (.cells 26 [x.row]) A B := by
  obtain ⟨⟨a, b, e⟩, hc⟩ := RunV.uniG (P := Tryz.prog) (f := 22) (show ∀ a ∈ [x.task, .int .i64 x.fnum], Clo a from (c_cons x.task_clo (c_cons (ci _ _) c_nil))) (fun (c : Int × Int × Int) => [.sc (.agg [.int .i64 c.1, .int .i64 c.2.1]), .sc (.int .i64 c.2.2)])
    (fun σ => (s22 (σ := σ) x.marks.rv x.speeds.rv x.fnum (Q := fun o s => ∃ a b e : Int, o = .ret (.tup [.agg [.int .i64 a, .int .i64 b], .int .i64 e]) ∧ s = σ) (fun a b e => ⟨a, b, e, rfl, rfl⟩)).mono fun o s ⟨a, b, e, ho, hs⟩ => ⟨⟨a, b, e⟩, [.agg [.int .i64 a, .int .i64 b], .int .i64 e], ho, ⟨⟨rfl, rfl⟩, ⟨rfl, rfl⟩, trivial⟩, hs ▸ .refl _⟩)
  dsimp only at hc
  refine ⟨(([] ++ ([a] ++ ([b] ++ []))) ++ [e]), (([] ++ ([] ++ ([] ++ []))) ++ []), by simp, by simp, fun s H hX hxo hH hne hobj => ?_⟩
  refine RunV.func mixed k21 (by simp) ?_
  rw [XA.row_eq] at hxo
  simp (disch := omega) only [c21, ↓CTL, VAL, Nat.reduceBEq, Nat.reduceAdd, hxo]
  refine (hc s).mono fun o s1 ⟨vs, ho, hR, hE⟩ => ?_
  obtain ⟨v1, v2, rfl, ⟨rfl, _⟩, ⟨rfl, _⟩⟩ := hR.two
  subst ho
  have e1 := hE.1
  simp (disch := omega) only [↓CTL, VAL, alloc_setN, Nat.reduceBEq, Nat.reduceAdd]
  have hp0 := Hp.new (s := s1.alloc (.cells 2 [[.int .i64 a, .int .i64 b]])) (H := H) (by simp only [AHeap.next_alloc]; omega) (by rw [objs_old (by omega), hE.2 H hH]; exact hobj)
  refine putOne (W := WTrue) (p23 WTrue.stays a b) trivial hp0 (by simp) (by simp) fun u s2 nv2 sv2 hp2 hst2 => ?_
  simp (disch := omega) only [↓CTL, VAL, Nat.reduceBEq, Nat.reduceAdd]
  refine putOne (W := WTrue) (p9 e) trivial hp2 (by simp) (by simp) fun u s3 nv3 sv3 hp3 hst3 => ?_
  simp (disch := omega) only [↓CTL, VAL, Nat.reduceBEq, Nat.reduceAdd]
  have hst := (hst2.trans hst3)
  have hst1 := hst.1
  simp only [AHeap.next_alloc] at hst1
  have hsame : ∀ M, M < s1.next → M ≠ H → s3.objs M = s1.objs M := fun M hM hM2 => by
    rw [(hst.2 M (by simp only [AHeap.next_alloc]; omega) hM2 (fun _ _ _ _ h => by cases h) (fun _ _ _ _ h => by cases h)).1, objs_old (by omega)]
  refine ⟨_, s1.next + 1, nv3, sv3, rfl, by omega, by simpa using hp3, fun M hM hM2 => (hsame M (by omega) hM2).trans (hE.2 M hM), ?_⟩
  exact (nothing_spec mixed k15 _).mono fun o s' ⟨h1, h2⟩ => ⟨h1, by rw [h2]; exact ⟨Nat.le_refl _, fun _ _ _ => rfl⟩⟩
end Go.Proofs.YtkfahdbjndihfaaGreat
namespace Go.Proofs.YtkfahdbjndihfaaGreat
open Go.Tc
set_option linter.unusedSimpArgs false
set_option maxRecDepth 20000
theorem s3 (hA : ∀ {σ : AHeap} {Q : AOut → AHeap → Prop}, Q (.ret (.bool true)) σ → RunV Tryz.prog (.func (.func 55) [] []) [] σ Q) (x : XA) {σ : AHeap} {Q : AOut → AHeap → Prop} (hQ : Q (.ret (.bool true)) σ) : RunV Tryz.prog (.func (.func 3) [] []) [.agg x.row] σ Q := by
  obtain ⟨A, B, lA, lB, hall⟩ := all_puts x
  have h1 := x.one
  have hr := XA.row_eq (x := x)
  generalize hg : x.row = row at *
  refine RunV.drop (RunV.func mixed k3 (by simp) ?_)
  have hlen : row.length = 26 := by rw [hr]; rfl
  have ht : row.take 26 = row := List.take_of_length_le (by omega)
  simp (disch := omega) only [c3, ↓CTL, VAL, Nat.reduceBEq, Nat.reduceAdd, h1, hlen, ht, AHeap.next_alloc]
  refine putAll_spec mixed all_code (by omega) h1 hall (by simp [allR]) (Hp.new (H := σ.next + 1) ?a ?b) (by simp; omega) (by simp; omega) fun v s1 nv1 sv1 hp1 hst1 => ?_
  case a => simp only [AHeap.next_alloc]; omega
  case b => simp (disch := omega) only [VAL]
  have n1 := hst1.1
  simp only [AHeap.next_alloc] at n1
  have hs1 : ∀ M, M < σ.next + 3 → M ≠ σ.next + 1 → s1.objs M = _ := fun M hM hM2 => (hst1.2 M (by simp only [AHeap.next_alloc]; omega) hM2 (fun _ _ _ _ h => by cases h) (fun _ _ _ _ h => by cases h)).1
  have hX := hs1 σ.next (by omega) (by omega)
  have hB := hs1 (σ.next + 1 + 1) (by omega) (by omega)
  have hS : ∀ M, M < σ.next → s1.objs M = σ.objs M := fun M hM => by rw [hs1 M (by omega) (by omega), objs_old (by simp only [AHeap.next_alloc]; omega), objs_old (by simp only [AHeap.next_alloc]; omega), objs_old (by omega)]
  simp (disch := omega) only [VAL] at hX hB
  simp (disch := omega) only [↓CTL, VAL, Nat.reduceBEq, Nat.reduceAdd]
  have ag : ∀ {C : AVal}, (∃ A B, A.length ≤ 1099511627776 ∧ B.length ≤ 1099511627776 ∧ CallSpec Tryz.prog C σ.next (.cells 26 [row]) A B) → ∀ {Q : AOut → AHeap → Prop}, Q (.ret (.bool true)) s1 → RunV Tryz.prog (.func (.func 5) [] []) [C] s1 Q := fun ⟨_, _, l1, l2, h⟩ _ hQ => again_spec mixed k5 k54 h l1 l2 (by omega) hX hQ
  refine ag (hg ▸ q6 x _) ?_
  simp (disch := omega) only [↓CTL, VAL, Nat.reduceBEq, Nat.reduceAdd, hX, ht, hlen]
  refine ag (hg ▸ q12 x _) ?_
  simp (disch := omega) only [↓CTL, VAL, Nat.reduceBEq, Nat.reduceAdd, hX, ht, hlen]
  refine ag (hg ▸ q16 x _) ?_
  simp (disch := omega) only [↓CTL, VAL, Nat.reduceBEq, Nat.reduceAdd, hX, ht, hlen]
  refine ag (hg ▸ q21 x _) ?_
  simp (disch := omega) only [↓CTL, VAL, Nat.reduceBEq, Nat.reduceAdd, hX, ht, hlen]
  refine ag (hg ▸ q24 x _) ?_
  simp (disch := omega) only [↓CTL, VAL, Nat.reduceBEq, Nat.reduceAdd, hX, ht, hlen]
  refine ag (hg ▸ q26 x _) ?_
  simp (disch := omega) only [↓CTL, VAL, Nat.reduceBEq, Nat.reduceAdd, hX, ht, hlen]
  refine ag (hg ▸ q32 x _) ?_
  simp (disch := omega) only [↓CTL, VAL, Nat.reduceBEq, Nat.reduceAdd, hX, ht, hlen]
  refine ag (hg ▸ q34 x _) ?_
  simp (disch := omega) only [↓CTL, VAL, Nat.reduceBEq, Nat.reduceAdd, hX, ht, hlen]
  refine ag (hg ▸ q39 x _) ?_
  simp (disch := omega) only [↓CTL, VAL, Nat.reduceBEq, Nat.reduceAdd, hX, ht, hlen]
  refine ag (hg ▸ q42 x _) ?_
  simp (disch := omega) only [↓CTL, VAL, Nat.reduceBEq, Nat.reduceAdd, hX, ht, hlen]
  refine ag (hg ▸ q45 x _) ?_
  simp (disch := omega) only [↓CTL, VAL, Nat.reduceBEq, Nat.reduceAdd, hX, ht, hlen]
  refine ag (hg ▸ q48 x _) ?_
  simp (disch := omega) only [↓CTL, VAL, Nat.reduceBEq, Nat.reduceAdd, hX, ht, hlen]
  refine ag (hg ▸ q51 x _) ?_
  simp (disch := omega) only [↓CTL, VAL, Nat.reduceBEq, Nat.reduceAdd, hX, ht, hlen]
  refine putAll_spec mixed all_code (by omega) h1 hall (by simp [allR]) (Hp.new (H := σ.next + 1 + 1) ?a ?b) (by simp; omega) (by simp; omega) fun v s2 nv2 sv2 hp2 hst2 => ?_
  case a => omega
  case b => exact hB
  have n2 := hst2.1
  have hs2 : ∀ M, M < s1.next → M ≠ σ.next + 1 + 1 → s2.objs M = s1.objs M := fun M hM hM2 => (hst2.2 M hM hM2 (fun _ _ _ _ h => by cases h) (fun _ _ _ _ h => by cases h)).1
  have o1 := (hs2 (σ.next + 1) (by omega) (by omega)).trans hp1.obj
  have o2 := hp2.obj
  have b2 := hp2.bn
  have on : OwnS s2 _ 1 rI nv1 _ := hp1.n.keep (by omega) fun M h1 h2 _ => hs2 M (by omega) (by simp only [AHeap.next_alloc] at h1; omega)
  have os : OwnS s2 _ 1 rS sv1 _ := hp1.s.keep (by omega) fun M h1 h2 _ => hs2 M (by omega) (by simp only [AHeap.next_alloc] at h1; omega)
  simp (disch := omega) only [↓CTL, VAL, Nat.reduceBEq, Nat.reduceAdd, o1, o2]
  refine same_spec mixed k54 (fun s' h => (on.ext h).tv) (fun s' h => (hp2.n.ext h).tv) (fun s' h => (os.ext h).tv) (fun s' h => (hp2.s.ext h).tv) (by simp; omega) (by simp; omega) ?_
  simp (disch := omega) only [↓CTL, VAL, Nat.reduceBEq, Nat.reduceAdd]
  refine hA ?_
  simp (disch := omega) only [↓CTL, VAL, Nat.reduceBEq, Nat.reduceAdd]
  exact ⟨_, rfl, rfl, ⟨by omega, fun M hM => (hs2 M (by omega) (by omega)).trans (hS M hM)⟩, hQ⟩
end Go.Proofs.YtkfahdbjndihfaaGreat
namespace Go.Proofs.YtkfahdbjndihfaaGreat
open Go.Tc
set_option linter.unusedSimpArgs false
theorem s98x {σ : AHeap} {N : Nat} {y : Sync} {marks : List Mark} (hN : σ.objs N = some (.cells 7 [y.row])) (hl : N < σ.next) (hm : ∀ s, Ext σ s → TV s 3 Mark.row y.mv marks) {k : Int} (h0 : 0 ≤ k) (h1 : k < marks.length) (frame : Int) {Q : AOut → AHeap → Prop}
    (hQ : Q (.ret (.agg [.int .i64 (aLo y (marks.getD k.toNat default) frame), .int .i64 (aHi y (marks.getD k.toNat default) frame)])) σ) : RunV Tryz.prog (.func (.func 98) [] []) [.ptr N 0 0, .int .i64 k, .int .i64 frame] σ Q := by
  refine RunV.drop (RunV.func mixed k98 (by simp) ?_)
  rw [Sync.row_eq] at hN
  have hS := (hm (σ.alloc (.cells 2 [[.int .i64 0, .int .i64 0]])) ((Ext.refl _).alloc _)).S
  simp (disch := omega) only [c98, ↓CTL, ↓DRW, VAL, DRV, Nat.reduceBEq, Nat.reduceAdd, hS, hN, Mark.row_eq]
  refine dr_go [] [] ?_ ?_; · decide
  simp (disch := omega) only [↓CTL, ↓DRW, VAL, DRV, Nat.reduceBEq, Nat.reduceAdd, hS, hN, Mark.row_eq]
  exact ⟨_, rfl, rfl, by repeat first | exact Ext.refl _ | refine Ext.alloc ?_ _ | refine Ext.set ?_ (by omega) _, hQ⟩
theorem s101x {σ : AHeap} {N A B : Nat} {y : Sync} {marks : List Mark} (hA : σ.objs A = some (.cells 1 [[.ptr N 0 0]])) {frame : Int} (hB : σ.objs B = some (.cells 1 [[.int .i64 frame]])) (hN : σ.objs N = some (.cells 7 [y.row]))
    (lA : A < σ.next) (lB : B < σ.next) (lN : N < σ.next) (hm : ∀ s, Ext σ s → TV s 3 Mark.row y.mv marks) {k : Int} (h0 : 0 ≤ k) (h1 : k < marks.length) {Q : AOut → AHeap → Prop}
    (hQ : Q (.ret (.agg [.int .i64 (aLo y (marks.getD k.toNat default) frame), .int .i64 (aHi y (marks.getD k.toNat default) frame)])) σ) : RunV Tryz.prog (.func (.func 101) [] [.ptr A 0 0, .ptr B 0 0]) [.int .i64 k] σ Q := by
  refine RunV.drop (RunV.func mixed k101 (by simp) ?_)
  simp (disch := omega) only [c101, ↓CTL, ↓DRW, VAL, DRV, Nat.reduceBEq, Nat.reduceAdd, hA, hB]
  refine s98x (by rw [objs_old (by omega)]; exact hN) (by simp only [AHeap.next_alloc]; omega) (fun s h => hm s (((Ext.refl _).alloc _).trans h)) h0 h1 _ ?_
  simp (disch := omega) only [↓CTL, ↓DRW, VAL, DRV, Nat.reduceBEq, Nat.reduceAdd, hA, hB]
  exact ⟨_, rfl, rfl, by repeat first | exact Ext.refl _ | refine Ext.alloc ?_ _ | refine Ext.set ?_ (by omega) _, hQ⟩
theorem s69x {σ : AHeap} {N : Nat} {y : Sync} {marks : List Mark} {taken : List Int} (hN : σ.objs N = some (.cells 7 [y.row])) (lN : N < σ.next) (hm : ∀ s, Ext σ s → TV s 3 Mark.row y.mv marks)
    (ht : ∀ s, Ext σ s → TV s 1 rI y.tv taken) (hne : taken ≠ []) (hb : taken.length ≤ 1000000) (hin : ∀ k ∈ taken, 0 ≤ k ∧ k < marks.length) (frame : Int) {Q : AOut → AHeap → Prop}
    (hQ : Q (.ret (.agg [.int .i64 (nMax (fun k => aLo y (marks.getD k.toNat default) frame) taken), .int .i64 (nMin (fun k => aHi y (marks.getD k.toNat default) frame) taken)])) σ) : RunV Tryz.prog (.func (.func 69) [] []) [.ptr N 0 0, .int .i64 frame] σ Q := by
  refine RunV.drop (RunV.func mixed k69 (by simp) ?_)
  simp (disch := omega) only [c69, ↓CTL, ↓DRW, VAL, DRV, Nat.reduceBEq, Nat.reduceAdd, hN, Sync.row_eq]
  have hE : Ext σ (((σ.alloc (.cells 1 [[.ptr N 0 0]])).alloc (.cells 1 [[.int .i64 frame]])).alloc (.cells 2 [[.int .i64 0, .int .i64 0]])) := by repeat first | exact Ext.refl _ | refine Ext.alloc ?_ _
  refine s100 (ht _ hE) (fun s h => ht s (hE.trans h)) hne hb (fun k => aLo y (marks.getD k.toNat default) frame) (fun k => aHi y (marks.getD k.toNat default) frame) (fun s x h hx => ?_) ?_
  · have e0 := h.1
    simp only [AHeap.next_alloc] at e0
    have e1 := h.2 σ.next (by simp only [AHeap.next_alloc]; omega)
    have e2 := h.2 (σ.next + 1) (by simp only [AHeap.next_alloc]; omega)
    have e3 := h.2 N (by simp only [AHeap.next_alloc]; omega)
    simp (disch := omega) only [VAL, hN] at e1 e2 e3
    exact s101x e1 e2 e3 (by omega) (by omega) (by omega) (fun s' h' => hm s' (hE.trans (h.trans h'))) (hin x hx).1 (hin x hx).2 ⟨rfl, rfl⟩
  · simp (disch := omega) only [↓CTL, ↓DRW, VAL, DRV, Nat.reduceBEq, Nat.reduceAdd]
    exact ⟨_, rfl, rfl, by repeat first | exact Ext.refl _ | refine Ext.alloc ?_ _ | refine Ext.set ?_ (by omega) _, hQ⟩
def decM : List (List AVal) → Option (List Mark)
  | [] => some []
  | r :: rs => match r with
    | [.int .i64 a, .int .i64 b, .int .i64 c] => (match decM rs with | some l => some (⟨a, b, c⟩ :: l) | none => none)
    | _ => none
def decI : List (List AVal) → Option (List Int)
  | [] => some []
  | r :: rs => match r with
    | [.int .i64 a] => (match decI rs with | some l => some (a :: l) | none => none)
    | _ => none
theorem decM_spec : ∀ (rows : List (List AVal)) l, decM rows = some l → rows = l.map Mark.row := by
  intro rows
  induction rows with
  | nil => intro l h; cases h; rfl
  | cons r rs ih =>
    intro l h
    simp only [decM] at h
    split at h
    · split at h
      · rename_i l' hl
        cases h
        rw [ih _ hl]; rfl
      · cases h
    · cases h
theorem decI_spec : ∀ (rows : List (List AVal)) l, decI rows = some l → rows = l.map rI := by
  intro rows
  induction rows with
  | nil => intro l h; cases h; rfl
  | cons r rs ih =>
    intro l h
    simp only [decI] at h
    split at h
    · split at h
      · rename_i l' hl
        cases h
        rw [ih _ hl]; rfl
      · cases h
    · cases h
def atV (y : Sync) (frame : Int) (marks : List Mark) (taken : List Int) : AVal :=
  .agg [.int .i64 (nMax (fun k => aLo y (marks.getD k.toNat default) frame) taken), .int .i64 (nMin (fun k => aHi y (marks.getD k.toNat default) frame) taken)]
def inR (n : Int) : List Int → Bool
  | [] => true
  | k :: ks => decide (0 ≤ k) && (decide (k < n) && inR n ks)
theorem inR_spec {n : Int} : ∀ {l : List Int}, inR n l = true → ∀ k ∈ l, 0 ≤ k ∧ k < n
  | [], _, k, hk => by cases hk
  | a :: l, h, k, hk => by
    simp only [inR, Bool.and_eq_true, decide_eq_true_eq] at h
    rcases List.mem_cons.1 hk with rfl | hk
    · exact ⟨h.1, h.2.1⟩
    · exact inR_spec h.2.2 k hk
noncomputable def orcS (y : Sync) (frame : Int) (h : XH) : AVal → AVal → Option AVal
  | .ms m M i len _, .ms m' M' i' len' _ => match h.H.get M, h.H.get M' with
    | some (.cells m1 rows), some (.cells m1' rows') => (match decM rows, decI rows' with
      | some l0, some l1 =>
        bif (Nat.beq m 3 && (Nat.beq m' 1 && (Nat.beq m1 3 && Nat.beq m1' 1))) && (Nat.blt M h.nx && (Nat.blt M' h.nx && (Nat.ble (i + len) l0.length && (Nat.ble (i' + len') l1.length && (Nat.blt 0 len' && (Nat.ble len' 1000000 && inR len ((l1.drop i').take len'))))))) then
          some (atV y frame ((l0.drop i).take len) ((l1.drop i').take len'))
        else none
      | _, _ => none)
    | _, _ => none
  | _, _ => none
noncomputable def orcA (xs : List AVal) (h : XH) : Option AVal :=
  match xs with
  | [.ptr N i k, .int .i64 frame] => match h.H.get N with
    | some (.cells m [[.int .i64 f, .int .i64 lo, .int .i64 hi, mv, sv, tv, kv]]) => bif Nat.beq i 0 && (Nat.beq k 0 && (Nat.beq m 7 && Nat.blt N h.nx)) then orcS ⟨f, lo, hi, mv, sv, tv, kv⟩ frame h mv tv else none
    | _ => none
  | _ => none
noncomputable def orc : Orc := fun f xs h => bif Nat.beq f 69 then orcA xs h else none
theorem orc_sound : SoundO Tryz.prog orc := by
  intro f xs h v ho
  unfold orc at ho
  cases hf : Nat.beq f 69 with
  | false => rw [hf] at ho; cases ho
  | true =>
    rw [hf] at ho
    have := Nat.eq_of_beq_eq_true hf
    subst this
    simp only [cond_true] at ho
    unfold orcA at ho
    split at ho
    · rename_i N i k frame
      split at ho
      · rename_i m f lo hi mv sv tv kv hN
        cases hb : (Nat.beq i 0 && (Nat.beq k 0 && (Nat.beq m 7 && Nat.blt N h.nx))) with
        | false => rw [hb] at ho; cases ho
        | true =>
          rw [hb] at ho
          simp only [cond_true] at ho
          simp only [Bool.and_eq_true, Nat.beq_eq, Nat.blt_eq] at hb
          obtain ⟨rfl, rfl, rfl, hlt⟩ := hb
          unfold orcS at ho
          split at ho
          · rename_i m M i len _ m' M' i' len' _
            split at ho
            · rename_i m1 rows m1' rows' h1 h2
              split at ho
              · rename_i l0 l1 d0 d1
                generalize hc : ((Nat.beq m 3 && (Nat.beq m' 1 && (Nat.beq m1 3 && Nat.beq m1' 1))) && (Nat.blt M h.nx && (Nat.blt M' h.nx && (Nat.ble (i + len) l0.length && (Nat.ble (i' + len') l1.length && (Nat.blt 0 len' && (Nat.ble len' 1000000 && inR len ((l1.drop i').take len')))))))) = c at ho
                cases c with
                | false => cases ho
                | true =>
                  simp only [cond_true] at ho
                  cases ho
                  simp only [Bool.and_eq_true, Nat.beq_eq, Nat.blt_eq, Nat.ble_eq] at hc
                  obtain ⟨⟨rfl, rfl, rfl, rfl⟩, c1, c2, c3, c4, c5, c6, c7⟩ := hc
                  rw [decM_spec _ _ d0] at h1
                  rw [decI_spec _ _ d1] at h2
                  have e1 : ((l0.drop i).take len).length = len := by simp; omega
                  have e2 : ((l1.drop i').take len').length = len' := by simp; omega
                  refine s69x (y := ⟨f, lo, hi, .ms 3 M i len _, sv, .ms 1 M' i' len' _, kv⟩) hN hlt (fun s hs => .ms ((hs.2 M c1).trans h1) c3 rfl) (fun s hs => .ms ((hs.2 M' c2).trans h2) c4 rfl) ?_ (by omega) ?_ frame ⟨rfl, rfl⟩
                  · intro hn; rw [hn] at e2; simp at e2; omega
                  · rw [e1]; exact inR_spec c7
              · cases ho
            · cases ho
          · cases ho
      · cases ho
    · cases ho
end Go.Proofs.YtkfahdbjndihfaaGreat
namespace Go.Proofs.YtkfahdbjndihfaaGreat
open Go.Tc
theorem e55 : exTest Tryz.prog orc 2000 30 55 = true := by kernel_rfl
end Go.Proofs.YtkfahdbjndihfaaGreat
namespace Go.Proofs.YtkfahdbjndihfaaGreat
open Go.Tc
theorem s55 {σ : AHeap} {Q : AOut → AHeap → Prop} (hQ : Q (.ret (.bool true)) σ) : RunV Tryz.prog (.func (.func 55) [] []) [] σ Q := exTest_spec mixed orc_sound e55 hQ
theorem top (x : XA) {σ : AHeap} {Q : AOut → AHeap → Prop} (hQ : Q (.ret (.bool true)) σ) : RunV Tryz.prog (.func (.func 3) [] []) [.agg x.row] σ Q := s3 s55 x hQ
end Go.Proofs.YtkfahdbjndihfaaGreat
namespace Go.Proofs.YtkfahdbjndihfaaGreat
open Go.Tc
set_option linter.unusedSimpArgs false
theorem bulk_one {H : Type} (d : DataW H) : 1 ≤ Rows.uptoBulk d := by
  cases d with
  | lit l => cases l <;> simp [Rows.uptoBulk]
  | _ => simp [Rows.uptoBulk]
theorem bulk_len {H : Type} (l : List (DataW H)) : l.length ≤ Rows.uptoBulkAll l := by
  induction l with
  | nil => simp [Rows.uptoBulkAll]
  | cons x r ih => have := bulk_one x; simp only [Rows.uptoBulkAll, List.length_cons]; omega
theorem slOf {H : Type} {α : Type} [Inhabited α] {t e : TypeId} {m : Nat} {f : α → List AVal} {d : DataW H} {xs : List AVal} (h : Sh Tryz.prog t d xs) (ht : Tryz.prog.underlying t = some (.slice e)) (hm : Tryz.prog.cellsOf e = m)
    (hf : ∀ (d' : DataW H) r, Sh Tryz.prog e d' r → ∃ x, r = f x) (hs : ∀ x, ∀ v ∈ f x, scal v = true ∧ v.one = true) (hb : Rows.uptoBulk d ≤ 1048576) : ∃ x : Sl m f, xs = [x.v] := by
  rcases h.sl ht hm hf with ⟨rfl, rfl⟩ | ⟨elems, spare, l, rfl, rfl, hl⟩
  · exact ⟨⟨.nilS, [], .nil, .scal rfl, fun _ _ _ _ _ h => (by cases h), (by simp)⟩, rfl⟩
  · refine ⟨⟨.rs m (l.map f) 0 l.length false, l, .rs (by simp) (by simp), .rs fun row hr v hv => ?_, fun _ _ _ _ _ h => (by cases h), ?_⟩, rfl⟩
    · obtain ⟨x, _, rfl⟩ := List.mem_map.1 hr
      exact ⟨.scal (hs x v hv).1, (hs x v hv).2⟩
    · have := bulk_len elems
      simp only [Rows.uptoBulk] at hb
      omega
section
variable {H : Type}
theorem i3 {d : DataW H} {xs : List AVal} (h : Sh Tryz.prog 3 d xs) : ∃ n, xs = [.int .i64 n] := let ⟨n, _, h⟩ := h.int' Tryz.underlying3; ⟨n, h⟩
theorem ints {d : DataW H} {xs : List AVal} (h : Sh Tryz.prog 28 d xs) (hb : Rows.uptoBulk d ≤ 1048576) : ∃ x : Sl 1 rI, xs = [x.v] :=
  slOf h Tryz.underlying28 (by kernel_rfl) (fun d' r h' => let ⟨n, h⟩ := i3 h'; ⟨n, h⟩) (fun x v hv => by simp only [rI, List.mem_singleton] at hv; subst hv; exact ⟨rfl, rfl⟩) hb
theorem bytes {d : DataW H} {xs : List AVal} (h : Sh Tryz.prog 22 d xs) (hb : Rows.uptoBulk d ≤ 1048576) : ∃ x : Sl 1 rU, xs = [x.v] :=
  slOf h Tryz.underlying22 (by kernel_rfl) (fun d' r h' => let ⟨n, _, h⟩ := h'.int' Tryz.underlying5; ⟨n, h⟩) (fun x v hv => by simp only [rU, List.mem_singleton] at hv; subst hv; exact ⟨rfl, rfl⟩) hb
theorem marksR {d : DataW H} {xs : List AVal} (h : Sh Tryz.prog 103 d xs) : ∃ x : Mark, xs = x.row := by
  obtain ⟨parts, cs, rfl, rfl, hl⟩ := h.fields (ts := [3, 3, 3]) Tryz.underlying103 rfl
  obtain ⟨d1, ds, c1, cs, rfl, rfl, h1, hl⟩ := hl.cons
  obtain ⟨d2, ds, c2, cs, rfl, rfl, h2, hl⟩ := hl.cons
  obtain ⟨d3, ds, c3, cs, rfl, rfl, h3, hl⟩ := hl.cons
  obtain ⟨rfl, rfl⟩ := hl.nil
  obtain ⟨a, rfl⟩ := i3 h1
  obtain ⟨b, rfl⟩ := i3 h2
  obtain ⟨c, rfl⟩ := i3 h3
  exact ⟨⟨a, b, c⟩, rfl⟩
theorem cutsR {d : DataW H} {xs : List AVal} (h : Sh Tryz.prog 143 d xs) : ∃ x : Cut, xs = x.row := by
  obtain ⟨parts, cs, rfl, rfl, hl⟩ := h.fields (ts := [3, 3]) Tryz.underlying143 rfl
  obtain ⟨d1, ds, c1, cs, rfl, rfl, h1, hl⟩ := hl.cons
  obtain ⟨d2, ds, c2, cs, rfl, rfl, h2, hl⟩ := hl.cons
  obtain ⟨rfl, rfl⟩ := hl.nil
  obtain ⟨a, rfl⟩ := i3 h1
  obtain ⟨b, rfl⟩ := i3 h2
  exact ⟨⟨a, b⟩, rfl⟩
theorem marksS {d : DataW H} {xs : List AVal} (h : Sh Tryz.prog 27 d xs) (hb : Rows.uptoBulk d ≤ 1048576) : ∃ x : Sl 3 Mark.row, xs = [x.v] :=
  slOf h Tryz.underlying27 (by kernel_rfl) (fun d' r h' => marksR h') (fun x v hv => by simp only [Mark.row, List.mem_cons, List.not_mem_nil, or_false] at hv; rcases hv with rfl | rfl | rfl <;> exact ⟨rfl, rfl⟩) hb
theorem cutsS {d : DataW H} {xs : List AVal} (h : Sh Tryz.prog 31 d xs) (hb : Rows.uptoBulk d ≤ 1048576) : ∃ x : Sl 2 Cut.row, xs = [x.v] :=
  slOf h Tryz.underlying31 (by kernel_rfl) (fun d' r h' => cutsR h') (fun x v hv => by simp only [Cut.row, List.mem_cons, List.not_mem_nil, or_false] at hv; rcases hv with rfl | rfl <;> exact ⟨rfl, rfl⟩) hb
theorem frameS {d : DataW H} {xs : List AVal} (h : Sh Tryz.prog 24 d xs) (hb : Rows.uptoBulk d ≤ 1048576) : ∃ (w h : Int) (x : Sl 1 rU), xs = [.int .i64 w, .int .i64 h, x.v] := by
  obtain ⟨parts, cs, rfl, rfl, hl⟩ := h.fields (ts := [3, 3, 22]) Tryz.underlying24 rfl
  obtain ⟨d1, ds, c1, cs, rfl, rfl, h1, hl⟩ := hl.cons
  obtain ⟨d2, ds, c2, cs, rfl, rfl, h2, hl⟩ := hl.cons
  obtain ⟨d3, ds, c3, cs, rfl, rfl, h3, hl⟩ := hl.cons
  obtain ⟨rfl, rfl⟩ := hl.nil
  simp only [Rows.uptoBulk, Rows.uptoBulkAll] at hb
  obtain ⟨a, rfl⟩ := i3 h1
  obtain ⟨b, rfl⟩ := i3 h2
  obtain ⟨x, rfl⟩ := bytes h3 (by omega)
  exact ⟨a, b, x, rfl⟩
theorem taskS {d : DataW H} {xs : List AVal} (h : Sh Tryz.prog 30 d xs) (hb : Rows.uptoBulk d ≤ 1048576) : ∃ (f lo hi : Int) (x : Sl 3 Mark.row) (y : Sl 1 rI), xs = [.int .i64 f, .int .i64 lo, .int .i64 hi, x.v, y.v] := by
  obtain ⟨parts, cs, rfl, rfl, hl⟩ := h.fields (ts := [3, 26, 27, 28]) Tryz.underlying30 rfl
  obtain ⟨d1, ds, c1, cs, rfl, rfl, h1, hl⟩ := hl.cons
  obtain ⟨d2, ds, c2, cs, rfl, rfl, h2, hl⟩ := hl.cons
  obtain ⟨d3, ds, c3, cs, rfl, rfl, h3, hl⟩ := hl.cons
  obtain ⟨d4, ds, c4, cs, rfl, rfl, h4, hl⟩ := hl.cons
  obtain ⟨rfl, rfl⟩ := hl.nil
  simp only [Rows.uptoBulk, Rows.uptoBulkAll] at hb
  obtain ⟨a, rfl⟩ := i3 h1
  obtain ⟨x, rfl⟩ := marksS h3 (by omega)
  obtain ⟨y, rfl⟩ := ints h4 (by omega)
  obtain ⟨parts, cs, rfl, rfl, hm⟩ := h2.fields (ts := [3, 3]) Tryz.underlying26 rfl
  obtain ⟨d5, ds, c5, cs, rfl, rfl, h5, hm⟩ := hm.cons
  obtain ⟨d6, ds, c6, cs, rfl, rfl, h6, hm⟩ := hm.cons
  obtain ⟨rfl, rfl⟩ := hm.nil
  obtain ⟨b, rfl⟩ := i3 h5
  obtain ⟨c, rfl⟩ := i3 h6
  exact ⟨a, b, c, x, y, rfl⟩
set_option maxRecDepth 20000 in
theorem xaOf {d : DataW H} {xs : List AVal} (h : Sh Tryz.prog 33 d xs) (hb : Rows.uptoBulk d ≤ 1048576) : ∃ x : XA, xs = x.row := by
  obtain ⟨parts, cs, rfl, rfl, hl⟩ := h.fields (ts := [24, 24, 3, 30, 3, 3, 3, 3, 3, 31, 28, 3, 28, 28, 3, 28, 3, 3]) Tryz.underlying33 rfl
  obtain ⟨d1, ds, c1, cs, rfl, rfl, h1, hl⟩ := hl.cons
  obtain ⟨d2, ds, c2, cs, rfl, rfl, h2, hl⟩ := hl.cons
  obtain ⟨d3, ds, c3, cs, rfl, rfl, h3, hl⟩ := hl.cons
  obtain ⟨d4, ds, c4, cs, rfl, rfl, h4, hl⟩ := hl.cons
  obtain ⟨d5, ds, c5, cs, rfl, rfl, h5, hl⟩ := hl.cons
  obtain ⟨d6, ds, c6, cs, rfl, rfl, h6, hl⟩ := hl.cons
  obtain ⟨d7, ds, c7, cs, rfl, rfl, h7, hl⟩ := hl.cons
  obtain ⟨d8, ds, c8, cs, rfl, rfl, h8, hl⟩ := hl.cons
  obtain ⟨d9, ds, c9, cs, rfl, rfl, h9, hl⟩ := hl.cons
  obtain ⟨d10, ds, c10, cs, rfl, rfl, h10, hl⟩ := hl.cons
  obtain ⟨d11, ds, c11, cs, rfl, rfl, h11, hl⟩ := hl.cons
  obtain ⟨d12, ds, c12, cs, rfl, rfl, h12, hl⟩ := hl.cons
  obtain ⟨d13, ds, c13, cs, rfl, rfl, h13, hl⟩ := hl.cons
  obtain ⟨d14, ds, c14, cs, rfl, rfl, h14, hl⟩ := hl.cons
  obtain ⟨d15, ds, c15, cs, rfl, rfl, h15, hl⟩ := hl.cons
  obtain ⟨d16, ds, c16, cs, rfl, rfl, h16, hl⟩ := hl.cons
  obtain ⟨d17, ds, c17, cs, rfl, rfl, h17, hl⟩ := hl.cons
  obtain ⟨d18, ds, c18, cs, rfl, rfl, h18, hl⟩ := hl.cons
  obtain ⟨rfl, rfl⟩ := hl.nil
  simp only [Rows.uptoBulk, Rows.uptoBulkAll] at hb
  obtain ⟨w, hh, px, rfl⟩ := frameS h1 (by omega)
  obtain ⟨w2, hh2, px2, rfl⟩ := frameS h2 (by omega)
  obtain ⟨kind, rfl⟩ := i3 h3
  obtain ⟨fr, lo, hi, marks, speeds, rfl⟩ := taskS h4 (by omega)
  obtain ⟨n5, rfl⟩ := i3 h5
  obtain ⟨n6, rfl⟩ := i3 h6
  obtain ⟨n7, rfl⟩ := i3 h7
  obtain ⟨n8, rfl⟩ := i3 h8
  obtain ⟨n9, rfl⟩ := i3 h9
  obtain ⟨cuts, rfl⟩ := cutsS h10 (by omega)
  obtain ⟨L, rfl⟩ := ints h11 (by omega)
  obtain ⟨n12, rfl⟩ := i3 h12
  obtain ⟨hum, rfl⟩ := ints h13 (by omega)
  obtain ⟨spl, rfl⟩ := ints h14 (by omega)
  obtain ⟨n15, rfl⟩ := i3 h15
  obtain ⟨kept, rfl⟩ := ints h16 (by omega)
  obtain ⟨n17, rfl⟩ := i3 h17
  obtain ⟨n18, rfl⟩ := i3 h18
  exact ⟨⟨w, hh, px, w2, hh2, px2, kind, fr, lo, hi, marks, speeds, n5, n6, n7, n8, n9, cuts, L, n12, hum, spl, n15, kept, n17, n18⟩, rfl⟩
end
end Go.Proofs.YtkfahdbjndihfaaGreat
namespace Go.Proofs.YtkfahdbjndihfaaGreat
open Go.Tc Go.ChangeShapes Go.WideShapes Go.ChangeAt Go.RowKit
set_option maxRecDepth 100000 in
theorem contract (H : Type) (enc : TypeId × Value → H) (W : World) (base : Nat) (args : Array Value) (ds gs : List (DataW H)) (before : List MemPlace)
    (hval : ∀ (j : Nat) t v, Tryz.f3.params[j]? = some t → args[j]? = some v → Value.okWide Tryz.prog W .any base t v)
    (hW : DataW.Whole enc Tryz.prog Tryz.f3.params.toList Rows.topAnewSoundSpec.vars false W args.toList ds gs before) (hk : Rows.uptoSmall H (ds ++ gs) = true) :
    Calls Tryz.prog 3 args W fun e W' => ∃ v, e = .returned v ∧ Rows.topAnewSoundSpec.post enc Tryz.prog Tryz.f3 false true false false W args v W' := by
  have hW' := hW
  obtain ⟨p, q, hA0, hV, rfl, hfz, hnd⟩ := hW
  have hA : DataW.TrodAll enc Tryz.prog W 0 (fun _ => true) true Tryz.f3.params.toList args.toList ds p := hA0
  rw [Tryz.params3] at hA hval
  obtain ⟨v0, vs0, d0, ds0, p0, q0, hargs, rfl, rfl, h0, r0⟩ := trodAll_cons hA
  obtain ⟨rfl, rfl, rfl⟩ := trodAll_nil r0
  obtain rfl : args = #[v0] := by cases args; simp_all
  obtain ⟨rfl, rfl⟩ := trodVars_none hV
  obtain ⟨fuel, hf⟩ := h0
  obtain ⟨cs, rfl, hcs⟩ := okWide_struct Tryz.underlying33 (hval 0 33 v0 rfl rfl)
  obtain ⟨xs, hs, hr⟩ := trod_sh 10 33 fuel _ _ (by kernel_rfl) hf
  have hb : Rows.uptoBulkAll [d0] ≤ 1048576 := of_decide_eq_true hk
  simp only [Rows.uptoBulkAll] at hb
  obtain ⟨x, rfl⟩ := xaOf hs (by simpa using hb)
  have hVR : VRels (fun _ => none) (fun b _ => b < W.heap.size) W [.agg x.row] #[.agg cs] := by
    refine ⟨rfl, fun i v u h1 h2 => ?_⟩
    cases i with
    | zero =>
      simp at h1 h2; subst h1; subst h2
      refine .agg (by have := hr.1; simpa [Value.cells] using this.symm) fun i v u h1 h2 => hr.2.2 i v u h1 (by simpa [Value.cells] using h2)
    | succ i => simp at h1
  have hcall := RunV.calls (P := Tryz.prog) (f := 3) (by kernel_rfl) (top x rfl) hVR
  refine hcall.mono fun e W' ⟨he, hB⟩ => ⟨_, he, ?_⟩
  have ht : ∀ t ∈ Tryz.f3.params.toList, Tryz.prog.readableRec t = true ∧ t < Tryz.prog.types.size := by
    rw [Tryz.params3]
    intro t ht
    obtain rfl : t = 33 := by simpa using ht
    exact ⟨by kernel_rfl, of_decide_eq_true (by kernel_rfl)⟩
  exact post_true (f := Tryz.f3) (tb := 4) (by kernel_rfl) rfl rfl Tryz.underlying4 ht hW' ⟨rfl, rfl, rfl⟩ hB
end Go.Proofs.YtkfahdbjndihfaaGreat
namespace Go.Proofs.YtkfahdbjndihfaaGreat
open Go.Tc Go.ChangeShapes Go.WideShapes Go.ChangeAt Go.RowKit
theorem own : ownKnob Tryz.prog.godebug = none := by kernel_rfl
set_option maxRecDepth 100000 in
theorem lifted (os : Os) (started : os.Started) (H : Type) (enc : TypeId × Value → H) (F : Stop.Interp) :
    ReturnsInHanded {} Tryz.checked os 3 .any ((Rows.OpenSpec.upto Rows.topAnewSoundSpec).pre6 enc Tryz.prog Tryz.f3 Rows.topAnewSoundUptoRow.domain false) (((Rows.OpenSpec.upto Rows.topAnewSoundSpec).at F).post enc Tryz.prog Tryz.f3 false true false false) := by
  refine returnsInHanded_of_cond (C := Tryz.checked) (s := Rows.OpenSpec.upto Rows.topAnewSoundSpec) (k := Rows.uptoSmall) rfl own started (by kernel_rfl) Tryz.func3
    (OpenSpec.witness (enc := enc) (C := Tryz.checked) (s := Rows.OpenSpec.upto Rows.topAnewSoundSpec) (k := Rows.uptoSmall) rfl false ⟨#[], #[((Tryz.prog.info? 33).bind (·.zero)).getD default], []⟩ 8 (by kernel_rfl) (by kernel_rfl) (by kernel_rfl)
      (x := ((DataW.whole enc Tryz.prog (World.plainHolding Tryz.prog os ⟨#[], #[((Tryz.prog.info? 33).bind (·.zero)).getD default], []⟩).memory Tryz.f3.params.toList [] false [((Tryz.prog.info? 33).bind (·.zero)).getD default] 8).getD default)) (by kernel_rfl) rfl (by kernel_rfl)) ?_
  intro W base args ds gs before hval hW _ hk _
  exact contract H enc W base args ds gs before hval hW hk
theorem proved : Rows.TopAnewSoundUptoSaid :=
  OpenClaim.holds_of_cond 3 Tryz.f3 rfl rfl rfl rfl rfl rfl rfl ⟨rfl, rfl, rfl, rfl, rfl⟩ rfl rfl rfl rfl rfl (by kernel_rfl) Tryz.func3 (by kernel_rfl)
    (of_decide_eq_true (by kernel_rfl)) (by unfold Func.isWrapper; first | (rw [if_pos (by decide +kernel)]; kernel_rfl) | (rw [if_neg (by decide +kernel)]; exact ⟨rfl, rfl⟩))
    (fun os started H enc _ F => lifted os started H enc F)
end Go.Proofs.YtkfahdbjndihfaaGreat
