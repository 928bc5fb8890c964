/- Proved here: for every argument of bulk at most 1048576 TopAnewTitle answers true and leaves its argument as it was. (part 4 of 6.) -/
import Derived.Test.YtkfahdbjndihfacGreatDoorUp3
import Derived.RecoverIn
import Derived.Laws.Externs
import Derived.Lib.MakeNoZero
set_option linter.unusedSimpArgs false
set_option linter.unusedVariables false
set_option linter.unnecessarySimpa false
namespace Go.Tc
set_option linter.unusedSimpArgs false
set_option linter.unusedVariables false
def PanRel (ι : Nm) (ro : Ros) (w : World) : Option AVal → FrameMode → Prop
  | none, u => u = .returning
  | some v, u => ∃ x, u = .panicking [{ v := x, recovered := false }] ∧ VRel ι ro w v x
theorem PanRel.later {ι ι' : Nm} {ro ro' : Ros} {σ σ' : AHeap} {w w' : World} (R : Rel ι ro σ w) (L : Later ι ro σ w ι' ro' σ' w') : ∀ {p : Option AVal} {u : FrameMode}, PanRel ι ro w p u → PanRel ι' ro' w' p u
  | none, _, h => h
  | some _, _, ⟨x, h1, h2⟩ => ⟨x, h1, h2.later R L⟩
def tookM : FrameMode → FrameMode
  | .panicking ({ v, recovered := false, goexit := false } :: older) => .panicking ({ v, recovered := true } :: older)
  | m => m
def CallD (P : Program) (fv : AVal) (args : List AVal) (σ : AHeap) (pan : Option AVal) (took : Bool) (σ' : AHeap) : Prop :=
  ∀ ι ro w fn cap first rest u, Rel ι ro σ w → VRel ι ro w fv (.func fn first cap) → VRels ι ro w args rest → PanRel ι ro w pan u →
    ∃ f xs, (invoke (.fn fn cap) (first ++ rest)).run P w = .ok (.enter f xs) w ∧
      CallsDIn Fence.wide 0 P f xs u w (fun e u' w' => (∃ x, e = .returned x) ∧ u' = (if took then tookM u else u) ∧ ∃ ι' ro', Later ι ro σ w ι' ro' σ' w' ∧ Rel ι' ro' σ' w')
def RunD (P : Program) (fv : AVal) (args : List AVal) (σ : AHeap) (pan : Option AVal) (Q : Bool → AHeap → Prop) : Prop :=
  ∃ took σ', Q took σ' ∧ CallD P fv args σ pan took σ'
section
variable {P : Program}
theorem shut_marks {ι ι' : Nm} {ro ro' : Ros} {σ σ' : AHeap} {w : World} : ∀ (ds : List Deferred) (w' : World) (fr : Go.Frame) (cs : List Go.Frame), fr.mode ≠ .run → fr.defers = ds →
    ds.filter noMark = [] → (marksOf ds).Nodup → (∀ r ∈ marksOf ds, w.heap.size ≤ r ∧ w'.heap[r]? = some (Obj.deferred (some [])) ∧ ¬ OwnO ι' σ' r) →
    Rel ι' ro' σ' w' → Later ι ro σ w ι' ro' σ' w' →
    ∃ w'', StepsIn (Machine.fenced P Fence.wide) P (lone fr cs w') (lone { fr with defers := [] } cs w'') ∧ Rel ι' ro' σ' w'' ∧ Later ι ro σ w ι' ro' σ' w'' ∧ ∀ v x, VRel ι' ro' w' v x → VRel ι' ro' w'' v x := by
  intro ds
  induction ds with
  | nil =>
    intro w' fr cs _ hd _ _ _ R L
    refine ⟨w', ?_, R, L, fun _ _ h => h⟩
    have : ({ fr with defers := [] } : Go.Frame) = fr := by rw [← hd]
    rw [this]; exact .refl _
  | cons d ds ih =>
    intro w' fr cs hm hd hf hnd he R L
    obtain ⟨t, zs⟩ := d
    cases t with
    | collected r =>
      have hm0 : marksOf ({ target := .collected r, args := zs } :: ds) = r :: marksOf ds := rfl
      rw [hm0] at hnd he
      rw [List.nodup_cons] at hnd
      obtain ⟨h1, h2, h3⟩ := he r (by simp)
      obtain ⟨R2, L2⟩ := putObj_junk (o' := .deferred none) R L h2 rfl h1 h3
      have s1 := step_collected (P := P) (cs := cs) (calls := []) hm hd rfl (run_takeDeferred h2)
      obtain ⟨w'', s2, R3, L3, hv⟩ := ih (w'.putObj r (.deferred none)) { fr with defers := [] ++ ds } cs hm rfl (by simpa [noMark] using hf) hnd.2 (fun r' hr' => by
        obtain ⟨k1, k2, k3⟩ := he r' (by simp [hr'])
        refine ⟨k1, ?_, k3⟩
        rw [World.putObj_heap_other (by rintro rfl; exact hnd.1 hr')]
        exact k2) R2 L2
      exact ⟨w'', .head (fenced_wide _ _) s1 s2, R3, L3, fun v x hx => hv v x (hx.mono (fun _ _ h => h) (fun _ _ h => h) (fun b y z _ hc => cell_putObj h2 rfl hc))⟩
    | fn _ _ => rw [List.filter_cons_of_pos rfl] at hf; cases hf
    | nil => rw [List.filter_cons_of_pos rfl] at hf; cases hf
    | builtin _ _ _ _ => rw [List.filter_cons_of_pos rfl] at hf; cases hf
    | coroexit _ => rw [List.filter_cons_of_pos rfl] at hf; cases hf
def isRecov (o : Oper) : Bool := match o.op with
  | .call c => (match c.callee with | .builtin .recover => c.args.size == 0 | _ => false) && o.guard.isNone
  | _ => false
def compD (P : Program) (g : FuncId) : Option (Nat × Nat × Nat × ACode × List ARes) :=
  match P.funcs[g]? with
  | some fn => match fn.body with
    | some (.seq (.region _ ops false) c) => (match ops.toList with
      | [r, m] => bif isRecov r && m.guard.isNone && enters P g then
        (match r.dst, m.dst, compOp P fn.ntmps m with
        | some a, some b, some (.mv (.t a')) => bif Nat.beq a a' then
            (compCode P fn.ntmps c).bind fun ac => (compRes P fn.ntmps fn.results.toList).map fun rs => (fn.ntmps, a, b, ac, rs)
          else none
        | _, _, _ => none) else none
      | _ => none)
    | _ => none
  | none => none
theorem compD_spec {g : FuncId} {n a b : Nat} {ac : ACode} {rs : List ARes} (h : compD P g = some (n, a, b, ac, rs)) :
    ∃ fn id ops c r m, P.funcs[g]? = some fn ∧ fn.body = some (.seq (.region id ops false) c) ∧ ops.toList = [r, m] ∧ isRecov r = true ∧ m.guard = none ∧ enters P g = true ∧ r.dst = some a ∧ m.dst = some b ∧
      compOp P n m = some (.mv (.t a)) ∧ fn.ntmps = n ∧ compCode P n c = some ac ∧ compRes P n fn.results.toList = some rs := by
  unfold compD at h
  split at h
  · rename_i fn hf
    split at h
    · rename_i id ops c hb
      split at h
      · rename_i r m ho
        generalize hbb : (isRecov r && m.guard.isNone && enters P g) = bb at h
        cases bb with
        | false => cases h
        | true =>
          simp only [Bool.and_eq_true, Option.isNone_iff_eq_none] at hbb
          simp only [cond_true] at h
          split at h
          · rename_i a0 b0 a' h1 h2 h3
            by_cases haa : Nat.beq a0 a' = true
            · rw [haa] at h
              simp only [cond_true, Option.bind_eq_some_iff, Option.map_eq_some_iff] at h
              obtain ⟨ac', hac, rs', hrs, he⟩ := h
              cases he
              have : a = a' := Nat.eq_of_beq_eq_true haa
              subst this
              exact ⟨fn, id, ops, c, r, m, hf, hb, ho, hbb.1.1, hbb.1.2, hbb.2, h1, h2, h3, rfl, hac, hrs⟩
            · rw [Bool.not_eq_true] at haa; rw [haa] at h; cases h
          · cases h
      · cases h
    · cases h
  · cases h
theorem run_recov {o : Oper} (h : isRecov o = true) (ev : Operand → Value) (w : World) : o.guard = none ∧ (execOp ev o).run P w = .ok .recover w := by
  unfold isRecov at h
  split at h
  · rename_i c hc
    simp only [Bool.and_eq_true, Option.isNone_iff_eq_none] at h
    obtain ⟨h1, h2⟩ := h
    split at h1
    · rename_i hcal
      refine ⟨h2, ?_⟩
      have hz : c.args = #[] := by
        have := beq_iff_eq.1 h1
        exact Array.eq_empty_of_size_eq_zero this
      simp [execOp, hc, resolve, hcal, invoke, hz, builtin]
    · cases h1
  · cases h
theorem wpS_recov {ops : Array Oper} {Q : Exit → Act → List Go.Frame → World → Prop} {i : Nat} {rest : List Nat} {a : Act} {cs cs' : List Go.Frame} {w w' : World} {o : Oper} {x : Value} (ho : ops[i]? = some o) (hg : o.guard = none)
    (hr : (execOp a.eval o).run P w = .ok .recover w') (hd : recoverD cs = some (x, cs') ∨ (recoverD cs = none ∧ x = .nilIface ∧ cs' = cs)) (h : wpOpsSIn Fence.wide 0 P ops Q rest (a.put o.dst x) cs' w') : wpOpsSIn Fence.wide 0 P ops Q (i :: rest) a cs w := by
  simp only [wpOpsSIn, ho]
  refine ⟨fun _ _ => trivial, ?_⟩
  rw [if_pos (by simp [Region.wanted, hg]), hr]
  rcases hd with hd | ⟨hd, rfl, rfl⟩ <;> simp only [hd] <;> exact h
theorem wpS_value {ops : Array Oper} {Q : Exit → Act → List Go.Frame → World → Prop} {i : Nat} {rest : List Nat} {a : Act} {cs : List Go.Frame} {w w' : World} {o : Oper} {x : Value} (ho : ops[i]? = some o) (hg : o.guard = none)
    (hr : (execOp a.eval o).run P w = .ok (.value x) w' ∨ ((execOp a.eval o).run P w = .ok .skip w' ∧ x = undef)) (h : wpOpsSIn Fence.wide 0 P ops Q rest (a.put o.dst x) cs w') : wpOpsSIn Fence.wide 0 P ops Q (i :: rest) a cs w := by
  simp only [wpOpsSIn, ho]
  refine ⟨fun _ _ => trivial, ?_⟩
  rw [if_pos (by simp [Region.wanted, hg])]
  rcases hr with hr | ⟨hr, rfl⟩ <;> simp only [hr] <;> exact h
def retU (rs : List ARes) (Q : AHeap → Prop) : AExit → AEnv → AHeap → Prop
  | .normal, env, σ | .ret, env, σ => env.ds = [] ∧ (∃ vs, resAs env σ rs = some vs) ∧ Q σ
  | _, _, _ => False
theorem RunD.funcC {g : FuncId} {n a b : Nat} {ac : ACode} {rs : List ARes} (hcf : compD P g = some (n, a, b, ac, rs)) {first args caps : List AVal} {σ : AHeap} {pan : Option AVal} {Q : Bool → AHeap → Prop}
    {fn0 : Func} {id0 : Nat} {ops0 : Array Oper} {c0 : Code} (hf0 : P.funcs[g]? = some fn0) (hb0 : fn0.body = some (.seq (.region id0 ops0 false) c0))
    (hlen : (first ++ args ++ caps).length ≤ n) (ha : a < n)
    (h : RunC P none c0 (((env0 n (first ++ args ++ caps)).put (some a) (pan.getD .nilI)).put (some b) (pan.getD .nilI)) σ (retU rs (Q pan.isSome))) : RunD P (.func (.func g) first caps) args σ pan Q := by
  obtain ⟨fn, id, ops, c, r, m, hf, hb, hops, hr, hmg, hent, hra, hmb, hmv, rfl, hcc, hcr⟩ := compD_spec hcf
  have e0 : fn = fn0 := by rw [hf] at hf0; exact Option.some.inj hf0
  subst e0
  have e1 : c = c0 := by rw [hb] at hb0; have := Option.some.inj hb0; injection this
  subst e1
  clear hf0 hb0
  obtain ⟨e, env', σ', hq, hn', hrun⟩ := h
  obtain ⟨he, hds, ⟨vs, hvs⟩, hQ⟩ : (e = .normal ∨ e = .ret) ∧ env'.ds = [] ∧ (∃ vs, resAs env' σ' rs = some vs) ∧ Q pan.isSome σ' := by
    cases e with
    | normal => exact ⟨.inl rfl, hq⟩
    | ret => exact ⟨.inr rfl, hq⟩
    | _ => exact hq.elim
  have hn2 : env'.n = fn.ntmps := hn'
  refine ⟨pan.isSome, σ', hQ, fun ι ro w fv cap first' rest u R hfu hus hpan => ?_⟩
  cases hfu with
  | @func _ _ _ _ _ hnn h1 h2 h3 h4 =>
  refine ⟨g, first' ++ rest ++ cap, by simp only [invoke, enters_run hent], trivial, fun c₀ cs hu hroom => ?_⟩
  have hsz : (first' ++ rest ++ cap).size = (first ++ args ++ caps).length := by simp [h1, h2, hus.1]
  have hrel : ∀ (i : Nat) v u, (first ++ args ++ caps)[i]? = some v → (first' ++ rest ++ cap)[i]? = some u → VRel ι ro w v u := by
    intro i v u hv hu
    by_cases hi1 : i < (first ++ args).length
    · rw [List.getElem?_append_left hi1] at hv
      rw [Array.getElem?_append_left (by simp [h1, hus.1] at hi1 ⊢; omega)] at hu
      by_cases hi2 : i < first.length
      · rw [List.getElem?_append_left hi2] at hv
        rw [Array.getElem?_append_left (by omega)] at hu
        exact h3 i v u hv hu
      · rw [List.getElem?_append_right (by omega)] at hv
        rw [Array.getElem?_append_right (by omega)] at hu
        rw [h1] at hu
        exact hus.2 _ v u hv hu
    · rw [List.getElem?_append_right (by omega)] at hv
      rw [Array.getElem?_append_right (by simp [h1, hus.1] at hi1 ⊢; omega)] at hu
      have : (first' ++ rest).size = (first ++ args).length := by simp [h1, hus.1]
      rw [this] at hu
      exact h4 _ v u hv hu
  have E0 : EnvRel ι ro w (env0 fn.ntmps (first ++ args ++ caps)) { tmps := (first' ++ rest ++ cap) ++ Array.replicate (fn.ntmps - (first' ++ rest ++ cap).size) undef, defers := [] } := by
    refine ⟨by simp only [Array.size_append, Array.size_replicate, env0]; simp only [Array.size_append, List.length_append] at hsz hlen; omega, fun i u hu => ?_, rfl, by simp⟩
    show VRel ι ro w ((first ++ args ++ caps).getD i (.tup [])) u
    by_cases hi : i < (first ++ args ++ caps).length
    · have hv : (first ++ args ++ caps)[i]? = some (first ++ args ++ caps)[i] := List.getElem?_eq_getElem hi
      rw [Array.getElem?_append_left (by omega)] at hu
      have := hrel i _ u hv hu
      rwa [List.getD_eq_getElem?_getD, hv]
    · rw [Array.getElem?_append_right (by omega)] at hu
      rw [List.getD_eq_getElem?_getD, List.getElem?_eq_none (by omega)]
      have hlt := (Array.getElem?_eq_some_iff.1 hu).1
      rw [Array.getElem?_replicate] at hu
      split at hu
      · cases hu; exact tupNil _ _ _
      · cases hu
  generalize hact : ({ tmps := (first' ++ rest ++ cap) ++ Array.replicate (fn.ntmps - (first' ++ rest ++ cap).size) undef, defers := [] } : Act) = act0 at E0
  have hact0 : act0.defers = [] := by rw [← hact]
  obtain ⟨x, c₁, hx, hrd⟩ : ∃ x c₁, VRel ι ro w (pan.getD .nilI) x ∧ ((recoverD (c₀ :: cs) = some (x, c₁ :: cs) ∨ (recoverD (c₀ :: cs) = none ∧ x = .nilIface ∧ c₁ = c₀)) ∧ c₁ = { c₀ with mode := if pan.isSome then tookM u else u }) := by
    cases pan with
    | none =>
      cases hpan
      refine ⟨.nilIface, c₀, .nilI, .inr ⟨by simp [recoverD, hu], rfl, rfl⟩, ?_⟩
      simp [← hu]
    | some v =>
      obtain ⟨x, rfl, hx⟩ := hpan
      refine ⟨x, { c₀ with mode := .panicking [{ v := x, recovered := true }] }, hx, .inl ?_, by simp [tookM]⟩
      simp only [recoverD, hu]
  obtain ⟨hrd, hc1⟩ := hrd
  let fb : Go.Frame := { (default : Go.Frame) with fn := g, kind := .deferred, roundOf := none }
  have henter : Frame.enter P g (first' ++ rest ++ cap) .deferred = fb.atR act0 [.code (.seq (.region id ops false) c)] := by
    rw [← hact]; simp [Frame.enter, Frame.atR, hf, hb, fb]
  have o0 : ops[0]? = some r := by have : ops.toList[0]? = some r := by rw [hops]; rfl
                                   simpa using this
  have o1 : ops[1]? = some m := by have : ops.toList[1]? = some m := by rw [hops]; rfl
                                   simpa using this
  have osz : ops.size = 2 := by rw [← Array.length_toList, hops]; rfl
  have E1 : EnvRel ι ro w ((env0 fn.ntmps (first ++ args ++ caps)).put (some a) (pan.getD .nilI)) (act0.put r.dst x) := by
    rw [hra]; exact E0.put (some a) hx
  have hmvA : opA (.mv (.t a)) ((env0 fn.ntmps (first ++ args ++ caps)).put (some a) (pan.getD .nilI)) σ = some (pan.getD .nilI, σ) := by
    simp [opA, AEnv.ev, AEnv.put, AEnv.set]
  obtain ⟨ι1, ro1, w1, u1, hrun1, L1, R1, hv1⟩ := opA_rel hmv (by rw [put_n]; rfl) hmvA R E1
  have hreg : wpOpsSIn Fence.wide 0 P ops (fun e a' cs' w' => e = .normal ∧ cs' = c₁ :: cs ∧ w' = w1 ∧ a' = (act0.put r.dst x).put m.dst u1) (List.range ops.size) act0 (c₀ :: cs) w := by
    rw [osz]
    show wpOpsSIn Fence.wide 0 P ops _ [0, 1] act0 (c₀ :: cs) w
    obtain ⟨hrg, hrr⟩ := run_recov (P := P) hr act0.eval w
    refine wpS_recov o0 hrg hrr ?_ (wpS_value o1 hmg hrun1 (show wpOpsSIn _ _ _ _ _ [] _ _ _ from ⟨rfl, rfl, rfl, rfl⟩))
    rcases hrd with hrd | ⟨hrd, rfl, rfl⟩
    · exact .inl hrd
    · exact .inr ⟨hrd, rfl, rfl⟩
  obtain ⟨e1, a1, cs1, w1', hl1, ⟨rfl, rfl, rfl, rfl⟩, harr1⟩ := wpSIn_region (F := Fence.wide) (n := 0) (P := P) (id := id) hreg fb [.code c] rfl rfl trivial (room_wide _)
  have E2 : EnvRel ι1 ro1 w1' (((env0 fn.ntmps (first ++ args ++ caps)).put (some a) (pan.getD .nilI)).put (some b) (pan.getD .nilI)) ((act0.put r.dst x).put m.dst u1) := by
    rw [hmb]; exact (E1.later R L1).put (some b) hv1
  have hd2 : ((act0.put r.dst x).put m.dst u1).defers = [] := by
    rw [hra, hmb]; exact hact0
  have hrest := hrun ι1 ro1 w1' _ none w1'.heap.size trivial R1 E2 ⟨by rw [hd2]; simp [marksOf], by rw [hd2]; simp [marksOf]⟩ (Nat.le_refl _)
    (fun e'' a'' w'' => (e'' = .normal ∨ e'' = .ret) ∧ ∃ ι' ro', Later ι1 ro1 σ w1' ι' ro' σ' w'' ∧ Rel ι' ro' σ' w'' ∧ EnvRel ι' ro' w'' env' a'' ∧ Marks w1'.heap.size ι' σ' w'' a'')
    (fun ι' ro' e'' a'' w'' L' R' E' M' X' => ⟨by rcases he with rfl | rfl <;> cases X' <;> simp, ι', ro', L', R', E', M'⟩)
  obtain ⟨e2, a2, w2, ⟨he2, ι2, ro2, L2, R2, E3, M2⟩, harr2⟩ := hrest fb [] (c₁ :: cs) rfl trivial (room_wide _)
  have hfil : a2.defers.filter noMark = [] := by
    have := E3.ds.1
    rw [hds] at this
    exact List.eq_nil_of_length_eq_zero this
  have out : ∀ todo, ∃ w'' ι3 ro3 y, StepsIn (Machine.fenced P Fence.wide) P (lone { fb.atR a2 todo with mode := .returning } (c₁ :: cs) w2) (lone { fb.atR a2 todo with mode := .returning, defers := [] } (c₁ :: cs) w'') ∧
      (results fn a2.tmps).run P w'' = .ok y w'' ∧ Later ι ro σ w ι3 ro3 σ' w'' ∧ Rel ι3 ro3 σ' w'' := by
    intro todo
    obtain ⟨w'', s, R3, L3, hv⟩ := shut_marks (P := P) a2.defers w2 { fb.atR a2 todo with mode := .returning } (c₁ :: cs) (by simp) rfl hfil M2.nodup M2.each R2 L2
    obtain ⟨y, hy, _⟩ := results_rel (P := P) R3 (env := env') (tmps := a2.tmps) (fn := fn) (rs := rs) E3.size (fun i u hu => hv _ _ (E3.t i u hu)) (by rw [hn2]; exact hcr) hvs
    exact ⟨w'', ι2, ro2, y, s, hy, L1.trans L3, R3⟩
  have s0 : StepsIn (Machine.fenced P Fence.wide) P (lone (Frame.enter P g (first' ++ rest ++ cap) .deferred) (c₀ :: cs) w) (lone (fb.atR ((act0.put r.dst x).put m.dst u1) [.code c]) (c₁ :: cs) w1') := by
    rw [henter]
    exact .head (fenced_wide _ _) stepR_seq harr1
  have fin : ∀ todo, StepsIn (Machine.fenced P Fence.wide) P (lone (fb.atR ((act0.put r.dst x).put m.dst u1) [.code c]) (c₁ :: cs) w1') (lone { fb.atR a2 todo with mode := .returning } (c₁ :: cs) w2) →
      ∃ e u' w' fr, ((∃ x, e = Ending.returned x) ∧ u' = (if pan.isSome then tookM u else u) ∧ ∃ ι' ro', Later ι ro σ w ι' ro' σ' w' ∧ Rel ι' ro' σ' w') ∧
        ComesIn (Machine.fenced P Fence.wide) P (lone (Frame.enter P g (first' ++ rest ++ cap) .deferred) (c₀ :: cs) w) (lone fr ({ c₀ with mode := u' } :: cs) w') e ∧ fr.kind = .deferred ∧ fr.fn = g ∧ fr.going P w' e := by
    intro todo hs
    obtain ⟨w'', ι3, ro3, y, s, hy, L3, R3⟩ := out todo
    refine ⟨.returned y, if pan.isSome then tookM u else u, w'', { fb.atR a2 todo with mode := .returning, defers := [] }, ⟨⟨y, rfl⟩, rfl, ι3, ro3, L3, R3⟩, ?_, rfl, rfl, rfl, rfl, fn, hf, hy⟩
    rw [← hc1]
    exact s0.trans (hs.trans s)
  rcases he2 with rfl | rfl
  · exact fin [] (StepsIn.trans harr2 (.one (fenced_wide _ _) (stepR_end rfl)))
  · obtain ⟨todo, hs⟩ := harr2.1 rfl
    exact fin todo hs
theorem RunD.func (hP : P.follows .mixedOrders = true) {g : FuncId} {n a b : Nat} {ac : ACode} {rs : List ARes} (hcf : compD P g = some (n, a, b, ac, rs)) {first args caps : List AVal} {σ : AHeap} {pan : Option AVal} {Q : Bool → AHeap → Prop}
    (hlen : (first ++ args ++ caps).length ≤ n) (ha : a < n)
    (h : wpA P ac none (((env0 n (first ++ args ++ caps)).put (some a) (pan.getD .nilI)).put (some b) (pan.getD .nilI)) σ (retU rs (Q pan.isSome))) : RunD P (.func (.func g) first caps) args σ pan Q := by
  obtain ⟨fn, id, ops, c, r, m, hf, hb, _, _, _, _, _, _, _, rfl, hcc, _⟩ := compD_spec hcf
  exact RunD.funcC hcf hf hb hlen ha (wpA_sound hP c ac hcc none _ σ _ rfl h)
end
end Go.Tc
namespace Go.Tc
set_option linter.unusedSimpArgs false
set_option linter.unusedVariables false
def retD (P : Program) (rs : List ARes) (Q : AOut → AHeap → Prop) : AExit → AEnv → AHeap → Prop
  | .normal, env, σ | .ret, env, σ => (match env.ds with
    | [] => (match resAs env σ rs with | some vs => Q (.ret (tupA vs)) σ | none => False)
    | [(fv, zs)] => RunD P fv zs σ none (fun _ σ' => match resAs env σ' rs with | some vs => Q (.ret (tupA vs)) σ' | none => False)
    | _ => False)
  | .panic v, env, σ => (match env.ds with
    | [] => Q (.panic v) σ
    | [(fv, zs)] => RunD P fv zs σ (some v) (fun took σ' => if took = true then (match resAs env σ' rs with | some vs => Q (.ret (tupA vs)) σ' | none => False) else Q (.panic v) σ')
    | _ => False)
  | _, _, _ => False
section
variable {P : Program}
theorem leavesD {fn : Func} {tmps : Array Value} {Rc : Ending → World → Prop} {ι ι' : Nm} {ro ro' : Ros} {σ σ1 σ' : AHeap} {w w0 : World} {u u' : FrameMode} (hu : u ≠ .run) (hu' : settle u' ≠ .run)
    {fv : AVal} {zs : List AVal} {pan : Option AVal} {took : Bool} (hcall : CallD P fv zs σ1 pan took σ') (hut : u' = if took then tookM u else u)
    (hfin : ∀ ι2 ro2 w2, Rel ι2 ro2 σ' w2 → Later ι ro σ w ι2 ro2 σ' w2 → (∀ v x, VRel ι' ro' w0 v x → VRel ι2 ro2 w2 v x) → LeavesIn Fence.wide 0 P fn tmps Rc [] (settle u') w2) :
    ∀ (ds : List Deferred) (w' : World) (d : Deferred), ds.filter noMark = [d] → (∃ fn cap, d.target = .fn fn cap ∧ ∃ first, VRel ι' ro' w' fv (.func fn first cap) ∧ ∃ rest, d.args = first ++ rest ∧ VRels ι' ro' w' zs rest) →
      PanRel ι' ro' w' pan u → (marksOf ds).Nodup → (∀ r ∈ marksOf ds, w.heap.size ≤ r ∧ w'.heap[r]? = some (Obj.deferred (some [])) ∧ ¬ OwnO ι' σ1 r) →
      Rel ι' ro' σ1 w' → Later ι ro σ w ι' ro' σ1 w' → (∀ v x, VRel ι' ro' w0 v x → VRel ι' ro' w' v x) → LeavesInM Fence.wide 0 P fn tmps Rc ds u w' := by
  intro ds
  induction ds with
  | nil => intro w' d hf; cases hf
  | cons d0 ds ih =>
    intro w' d hf hd hp hnd he R L hv
    obtain ⟨t, args⟩ := d0
    cases t with
    | collected r =>
      have hm0 : marksOf ({ target := .collected r, args } :: ds) = r :: marksOf ds := rfl
      rw [hm0] at hnd he
      rw [List.nodup_cons] at hnd
      obtain ⟨h1, h2, h3⟩ := he r (by simp)
      obtain ⟨R2, L2⟩ := putObj_junk (o' := .deferred none) R L h2 rfl h1 h3
      have hmono : ∀ v x, VRel ι' ro' w' v x → VRel ι' ro' (w'.putObj r (.deferred none)) v x := fun v x hx => hx.mono (fun _ _ h => h) (fun _ _ h => h) (fun b y z _ hc => cell_putObj h2 rfl hc)
      obtain ⟨f, cap, ht, first, hf1, rest, ha, hz⟩ := hd
      refine ⟨hu, .inl ⟨r, _, rfl, run_takeDeferred h2, ih _ d (by simpa [noMark] using hf) ⟨f, cap, ht, first, hmono _ _ hf1, rest, ha, hz.1, fun i v x h1 h2 => hmono _ _ (hz.2 i v x h1 h2)⟩ ?_ hnd.2 (fun r' hr' => ?_) R2 L2 (fun v x hx => hmono _ _ (hv v x hx))⟩⟩
      · cases pan with
        | none => exact hp
        | some v => obtain ⟨x, h1, h2⟩ := hp; exact ⟨x, h1, hmono _ _ h2⟩
      · obtain ⟨k1, k2, k3⟩ := he r' (by simp [hr'])
        refine ⟨k1, ?_, k3⟩
        rw [World.putObj_heap_other (by rintro rfl; exact hnd.1 hr')]
        exact k2
    | fn f0 cap0 =>
      rw [List.filter_cons_of_pos rfl] at hf
      obtain ⟨h1, h2⟩ := List.cons.inj hf
      subst h1
      obtain ⟨f, cap, ht, first, hf1, rest, ha, hz⟩ := hd
      simp only [Target.fn.injEq] at ht
      obtain ⟨rfl, rfl⟩ := ht
      simp only at ha
      subst ha
      obtain ⟨g, xs, hinv, hc⟩ := hcall ι' ro' w' f0 cap0 first rest u R hf1 hz hp
      refine ⟨hu, .inr ⟨fun h => by simp [Fence.wide] at h, f0, cap0, g, xs, rfl, hinv, fun _ _ => trivial, hc.mono fun e u2 w2 hr => ?_⟩⟩
      obtain ⟨⟨x, rfl⟩, rfl, ι2, ro2, L2, R2⟩ := hr
      have hmk : marksOf ({ target := .fn f0 cap0, args := first ++ rest } :: ds) = marksOf ds := rfl
      rw [hmk] at hnd he
      rw [← hut]
      refine leavesM (w0 := w2) hu' (fun w3 R3 L3 hvv => hfin ι2 ro2 w3 R3 L3 fun v x hx => hvv v x ((hv v x hx).later R L2)) ds w2 h2 hnd (fun r hr => ?_) R2 (L.trans L2) (fun _ _ h => h)
      obtain ⟨k1, k2, k3⟩ := he r hr
      exact ⟨k1, L2.frame.objs r _ k2 rfl k3, fun h => k3 (L2.ownO r (Array.getElem?_eq_some_iff.1 k2).1 h)⟩
    | nil => rw [List.filter_cons_of_pos rfl] at hf; obtain ⟨h1, _⟩ := List.cons.inj hf; subst h1; obtain ⟨_, _, ht, _⟩ := hd; cases ht
    | builtin _ _ _ _ => rw [List.filter_cons_of_pos rfl] at hf; obtain ⟨h1, _⟩ := List.cons.inj hf; subst h1; obtain ⟨_, _, ht, _⟩ := hd; cases ht
    | coroexit _ => rw [List.filter_cons_of_pos rfl] at hf; obtain ⟨h1, _⟩ := List.cons.inj hf; subst h1; obtain ⟨_, _, ht, _⟩ := hd; cases ht
theorem RunV.funcDC {f : FuncId} {n : Nat} {ac : ACode} {rs : List ARes} (hcf : compFunc P f = some (n, ac, rs)) {first args caps : List AVal} {σ : AHeap} {Q : AOut → AHeap → Prop} {fn0 : Func} {c0 : Code} (hf0 : P.funcs[f]? = some fn0) (hb0 : fn0.body = some c0)
    (hlen : (first ++ args ++ caps).length ≤ n) (h : RunC P none c0 (env0 n (first ++ args ++ caps)) σ (retD P rs Q)) : RunV P (.func (.func f) first caps) args σ Q := by
  obtain ⟨fn, c, hf, hb, hent, rfl, hcc, hcr⟩ := compFunc_spec hcf
  have e0 : fn = fn0 := by rw [hf] at hf0; exact Option.some.inj hf0
  subst e0
  have e1 : c = c0 := by rw [hb] at hb0; exact Option.some.inj hb0
  subst e1
  clear hf0 hb0
  obtain ⟨e, env', σ1, hq, hn', hrun⟩ := h
  have hn2 : env'.n = fn.ntmps := hn'
  obtain ⟨out, σ', hQ, hout⟩ : ∃ out σ', Q out σ' ∧ (
      (env'.ds = [] ∧ σ' = σ1 ∧ (((e = .normal ∨ e = .ret) ∧ ∃ vs, resAs env' σ' rs = some vs ∧ out = .ret (tupA vs)) ∨ ∃ v, e = .panic v ∧ out = .panic v)) ∨
      ∃ fv zs pan took, env'.ds = [(fv, zs)] ∧ CallD P fv zs σ1 pan took σ' ∧ (((e = .normal ∨ e = .ret) ∧ pan = none ∧ ∃ vs, resAs env' σ' rs = some vs ∧ out = .ret (tupA vs)) ∨
        ∃ v, e = .panic v ∧ pan = some v ∧ ((took = true ∧ ∃ vs, resAs env' σ' rs = some vs ∧ out = .ret (tupA vs)) ∨ (took = false ∧ out = .panic v)))) := by
    cases e with
    | normal | ret =>
      simp only [retD] at hq
      split at hq
      · rename_i hds
        split at hq
        · rename_i vs hvs; exact ⟨_, σ1, hq, .inl ⟨hds, rfl, .inl ⟨by simp, vs, hvs, rfl⟩⟩⟩
        · exact hq.elim
      · rename_i fv zs hds
        obtain ⟨took, σ', hk, hc⟩ := hq
        split at hk
        · rename_i vs hvs; exact ⟨_, σ', hk, .inr ⟨fv, zs, none, took, hds, hc, .inl ⟨by simp, rfl, vs, hvs, rfl⟩⟩⟩
        · exact hk.elim
      · exact hq.elim
    | panic v =>
      simp only [retD] at hq
      split at hq
      · rename_i hds; exact ⟨_, σ1, hq, .inl ⟨hds, rfl, .inr ⟨v, rfl, rfl⟩⟩⟩
      · rename_i fv zs hds
        obtain ⟨took, σ', hk, hc⟩ := hq
        split at hk
        · rename_i htk
          split at hk
          · rename_i vs hvs; exact ⟨_, σ', hk, .inr ⟨fv, zs, some v, took, hds, hc, .inr ⟨v, rfl, rfl, .inl ⟨htk, vs, hvs, rfl⟩⟩⟩⟩
          · exact hk.elim
        · rename_i htk; exact ⟨_, σ', hk, .inr ⟨fv, zs, some v, took, hds, hc, .inr ⟨v, rfl, rfl, .inr ⟨by simpa using htk, rfl⟩⟩⟩⟩
      · exact hq.elim
    | exit id => exact hq.elim
    | goto l => exact hq.elim
  refine ⟨out, σ', hQ, fun ι ro w fu us R hfu hus => ?_⟩
  cases hfu with
  | @func _ _ _ first' caps' hnn h1 h2 h3 h4 =>
  simp only [Deferred.ofValue, pure_bind, invoke, enters_run hent, Upon]
  refine callsIn_of_wp_marks hf hb trivial ?_
  have hsz : (first' ++ us ++ caps').size = (first ++ args ++ caps).length := by simp [h1, h2, hus.1]
  have hrel : ∀ (i : Nat) v u, (first ++ args ++ caps)[i]? = some v → (first' ++ us ++ caps')[i]? = some u → VRel ι ro w v u := by
    intro i v u hv hu
    by_cases hi1 : i < (first ++ args).length
    · rw [List.getElem?_append_left hi1] at hv
      rw [Array.getElem?_append_left (by simp [h1, hus.1] at hi1 ⊢; omega)] at hu
      by_cases hi2 : i < first.length
      · rw [List.getElem?_append_left hi2] at hv
        rw [Array.getElem?_append_left (by omega)] at hu
        exact h3 i v u hv hu
      · rw [List.getElem?_append_right (by omega)] at hv
        rw [Array.getElem?_append_right (by omega)] at hu
        rw [h1] at hu
        exact hus.2 _ v u hv hu
    · rw [List.getElem?_append_right (by omega)] at hv
      rw [Array.getElem?_append_right (by simp [h1, hus.1] at hi1 ⊢; omega)] at hu
      have : (first' ++ us).size = (first ++ args).length := by simp [h1, hus.1]
      rw [this] at hu
      exact h4 _ v u hv hu
  have E0 : EnvRel ι ro w (env0 fn.ntmps (first ++ args ++ caps)) { tmps := (first' ++ us ++ caps') ++ Array.replicate (fn.ntmps - (first' ++ us ++ caps').size) undef, defers := [] } := by
    refine ⟨by simp only [Array.size_append, Array.size_replicate, env0]; simp only [Array.size_append, List.length_append] at hsz hlen; omega, fun i u hu => ?_, rfl, by simp⟩
    show VRel ι ro w ((first ++ args ++ caps).getD i (.tup [])) u
    by_cases hi : i < (first ++ args ++ caps).length
    · have hv : (first ++ args ++ caps)[i]? = some (first ++ args ++ caps)[i] := List.getElem?_eq_getElem hi
      rw [Array.getElem?_append_left (by omega)] at hu
      have := hrel i _ u hv hu
      rwa [List.getD_eq_getElem?_getD, hv]
    · rw [Array.getElem?_append_right (by omega)] at hu
      rw [List.getD_eq_getElem?_getD, List.getElem?_eq_none (by omega)]
      have hlt := (Array.getElem?_eq_some_iff.1 hu).1
      rw [Array.getElem?_replicate] at hu
      split at hu
      · cases hu; exact tupNil _ _ _
      · cases hu
  refine hrun ι ro w _ none w.heap.size trivial R E0 ⟨by simp [marksOf], by simp [marksOf]⟩ (Nat.le_refl _) _ ?_
  intro ι' ro' e' a' w' L' R' E' M' X'
  have fin : ∀ ι2 ro2 vs, resAs env' σ' rs = some vs → out = .ret (tupA vs) → ∀ w'', Rel ι2 ro2 σ' w'' → Later ι ro σ w ι2 ro2 σ' w'' → (∀ v u, VRel ι' ro' w' v u → VRel ι2 ro2 w'' v u) → LeavesIn Fence.wide 0 P fn a'.tmps (Met ι ro σ w out σ') [] .returning w'' := by
    intro ι2 ro2 vs hvs ho w'' R'' L'' hvv
    obtain ⟨u, hu, hv⟩ := results_rel (P := P) R'' (env := env') (tmps := a'.tmps) (fn := fn) (rs := rs) E'.size (fun i u hu => hvv _ _ (E'.t i u hu)) (by rw [hn2]; exact hcr) hvs
    exact ⟨u, hu, ι2, ro2, L'', R'', by rw [ho]; exact .ret hv⟩
  rcases hout with ⟨hds, rfl, hout⟩ | ⟨fv, zs, pan, took, hds, hcall, hout⟩
  · have hfil : a'.defers.filter noMark = [] := by
      have := E'.ds.1
      rw [hds] at this
      exact List.eq_nil_of_length_eq_zero this
    rcases hout with ⟨he, vs, hvs, ho⟩ | ⟨v, he, ho⟩
    · have := leavesM (u := .returning) (w0 := w') (by simp) (fin ι' ro' vs hvs ho) a'.defers w' hfil M'.nodup M'.each R' L' (fun _ _ h => h)
      rcases he with rfl | rfl <;> cases X' <;> exact this
    · subst he
      cases X' with
      | @panic _ u hv =>
      refine leavesM (u := .panicking [{ v := u, recovered := false }]) (w0 := w') (by simp) (fun w'' R'' L'' hvv => ?_) a'.defers w' hfil M'.nodup M'.each R' L' (fun _ _ h => h)
      exact ⟨ι', ro', L'', R'', by rw [ho]; exact .panic (hvv _ _ hv)⟩
  · obtain ⟨d, hfil, hdd⟩ : ∃ d, a'.defers.filter noMark = [d] ∧ (∃ fn cap, d.target = .fn fn cap ∧ ∃ first, VRel ι' ro' w' fv (.func fn first cap) ∧ ∃ rest, d.args = first ++ rest ∧ VRels ι' ro' w' zs rest) := by
      obtain ⟨hl, hd⟩ := E'.ds
      rw [hds] at hl hd
      simp only [List.length_singleton] at hl
      obtain ⟨d, hd'⟩ := List.length_eq_one_iff.1 hl
      refine ⟨d, hd', ?_⟩
      exact hd 0 d (fv, zs) rfl (by rw [hd']; rfl)
    rcases hout with ⟨he, rfl, vs, hvs, ho⟩ | ⟨v, he, rfl, hout⟩
    · have := leavesD (fn := fn) (tmps := a'.tmps) (Rc := Met ι ro σ w out σ') (u := .returning) (u' := .returning) (w0 := w') (by simp) (by simp [settle]) hcall (by cases took <;> rfl) (fun ι2 ro2 w2 R2 L2 hvv => fin ι2 ro2 vs hvs ho w2 R2 L2 hvv) a'.defers w' d hfil hdd rfl M'.nodup M'.each R' L' (fun _ _ h => h)
      rcases he with rfl | rfl <;> cases X' <;> exact this
    · subst he
      cases X' with
      | @panic _ u hv =>
      rcases hout with ⟨rfl, vs, hvs, ho⟩ | ⟨rfl, ho⟩
      · exact leavesD (fn := fn) (tmps := a'.tmps) (Rc := Met ι ro σ w out σ') (u := .panicking [{ v := u, recovered := false }]) (u' := .panicking [{ v := u, recovered := true }]) (w0 := w') (by simp) (by simp [settle]) hcall rfl
          (fun ι2 ro2 w2 R2 L2 hvv => fin ι2 ro2 vs hvs ho w2 R2 L2 hvv) a'.defers w' d hfil hdd ⟨u, rfl, hv⟩ M'.nodup M'.each R' L' (fun _ _ h => h)
      · refine leavesD (fn := fn) (tmps := a'.tmps) (Rc := Met ι ro σ w out σ') (u := .panicking [{ v := u, recovered := false }]) (u' := .panicking [{ v := u, recovered := false }]) (w0 := w') (by simp) (by simp [settle]) hcall rfl
          (fun ι2 ro2 w2 R2 L2 hvv => ?_) a'.defers w' d hfil hdd ⟨u, rfl, hv⟩ M'.nodup M'.each R' L' (fun _ _ h => h)
        exact ⟨ι2, ro2, L2, R2, by rw [ho]; exact .panic (hvv _ _ hv)⟩
theorem RunV.funcD (hP : P.follows .mixedOrders = true) {f : FuncId} {n : Nat} {ac : ACode} {rs : List ARes} (hcf : compFunc P f = some (n, ac, rs)) {first args caps : List AVal} {σ : AHeap} {Q : AOut → AHeap → Prop}
    (hlen : (first ++ args ++ caps).length ≤ n) (h : wpA P ac none (env0 n (first ++ args ++ caps)) σ (retD P rs Q)) : RunV P (.func (.func f) first caps) args σ Q := by
  obtain ⟨fn, c, hf, hb, hent, rfl, hcc, hcr⟩ := compFunc_spec hcf
  exact RunV.funcDC hcf hf hb hlen (wpA_sound hP c ac hcc none _ σ _ rfl h)
end
end Go.Tc
namespace Go.Tc
set_option linter.unusedSimpArgs false
set_option linter.unusedVariables false
section
variable {s : AHeap} {p : Nat → Prop} {ts : List (Bool × List Lf)} {ds : List (List Dl)} {vs : List AVal}
theorem ResT.done : ResT s p [] [] [] := trivial
theorem ResT.int {k : IntKind} {n : Int} (h : ResT s p ts ds vs) : ResT s p ((false, [.int k]) :: ts) ([.int n] :: ds) (.int k n :: vs) := ⟨⟨[.int k n], rfl, fun _ => rfl, .cons (.int k n (by simp)) .nil⟩, h⟩
theorem ResT.bool {b : Bool} (h : ResT s p ts ds vs) : ResT s p ((false, [.bool]) :: ts) ([.bool b] :: ds) (.bool b :: vs) := ⟨⟨[.bool b], rfl, fun _ => rfl, .cons (.bool b) .nil⟩, h⟩
theorem ResT.str {x : ByteArray} (h : ResT s p ts ds vs) : ResT s p ((false, [.str]) :: ts) ([.str x] :: ds) (.str x :: vs) := ⟨⟨[.str x], rfl, fun _ => rfl, .cons (.str x) .nil⟩, h⟩
theorem ResT.sl {row : List Lf} {d : Dl} {v : AVal} (hv : Tr s p false (.sl row) d v) (h : ResT s p ts ds vs) : ResT s p ((false, [.sl row]) :: ts) ([d] :: ds) (v :: vs) := ⟨⟨[v], rfl, fun _ => rfl, .cons hv .nil⟩, h⟩
theorem ResT.agg {row : List Lf} {d : List Dl} {cs : List AVal} (hv : TrR s p false row d cs) (h : ResT s p ts ds vs) : ResT s p ((true, row) :: ts) (d :: ds) (.agg cs :: vs) := ⟨⟨cs, rfl, fun h => (by cases h), hv⟩, h⟩
theorem Tr.i {k : IntKind} {n : Int} : Tr s p false (.int k) (.int n) (.int k n) := .int k n (by simp)
theorem OwnS.tr {α : Type} {b : Nat} {row : List Lf} {f : α → List AVal} {g : α → List Dl} {v : AVal} {l : List α} (h : OwnS s b row.length f v l) (hl : l.length ≤ 4611686018427387904) (hf : ∀ x ∈ l, TrR s (fun N => b ≤ N) false row (g x) (f x)) : Tr s (fun N => b ≤ N) false (.sl row) (.sl (l.map g)) v := by
  rcases h with ⟨rfl, rfl⟩ | ⟨N, ex, rfl, h1, h2, h3⟩
  · exact .nil row
  · refine .ms rfl (by simp) h1 h2 h3 (fun r hr v hv => ?_) (by simp) (by simpa using hl) (fun j d hd => ?_) (fun r hr => ?_) fun j q d r f' x v h1 h2 h3 h4 h5 => ?_
    · obtain ⟨x, hx, rfl⟩ := List.mem_map.1 hr
      have ht := hf x hx
      obtain ⟨q, hq⟩ := List.getElem?_of_mem hv
      have hlt := (List.getElem?_eq_some_iff.1 hq).1
      have e1 := ht.dl
      have e2 := ht.cl
      exact (ht.el q _ _ v (List.getElem?_eq_getElem (by omega)) (List.getElem?_eq_getElem (by omega)) hq).plain
    · rw [List.getElem?_map, Option.map_eq_some_iff] at hd
      obtain ⟨x, hx, rfl⟩ := hd
      exact (hf x (List.mem_of_getElem? hx)).dl
    · obtain ⟨x, hx, rfl⟩ := List.mem_map.1 hr
      exact (hf x hx).cl
    · rw [Nat.zero_add, List.getElem?_map, Option.map_eq_some_iff] at h2
      rw [List.getElem?_map, Option.map_eq_some_iff] at h1
      obtain ⟨x1, hx1, rfl⟩ := h1
      obtain ⟨x2, hx2, rfl⟩ := h2
      rw [hx1] at hx2; cases hx2
      exact (hf x1 (List.mem_of_getElem? hx1)).el q f' x v h3 h4 h5
theorem szDss_map {α : Type} {g : α → List Dl} {c : Nat} : ∀ (l : List α), (∀ x ∈ l, szDs (g x) ≤ c) → szDss (l.map g) ≤ l.length * c
  | [], _ => by simp [szDss]
  | x :: l, h => by
    have h1 := h x (by simp)
    have h2 := szDss_map l fun y hy => h y (by simp [hy])
    simp only [List.map_cons, szDss, List.length_cons, Nat.add_mul]
    omega
end
end Go.Tc
namespace Go.Tc
set_option linter.unusedSimpArgs false
set_option linter.unusedVariables false
def ints (k : IntKind) (l : List Int) : List AVal := l.map (AVal.int k)
theorem ints_len {k : IntKind} {l : List Int} : (ints k l).length = l.length := by simp [ints]
theorem reps_ints {n : Nat} {k : IntKind} {x : Int} : reps n (.int k x) = ints k (List.replicate n x) := by simp [reps, ints]
theorem loadO_ints {k : IntKind} {m j : Nat} {l : List Int} (h : j < l.length) : loadO (some (.cells m [ints k l])) false 1 0 j = some (.int k (l.getD j 0)) := by
  rw [loadO_row]
  simp [partA, ints, h]
theorem storeO_ints {k : IntKind} {m j : Nat} {l : List Int} {x : Int} (h : j < l.length) : storeO (some (.cells m [ints k l])) 1 0 j (.int k x) = some (.cells m [ints k (l.set j x)]) := by
  rw [storeO_row (by simp [AVal.cells]) (by simp [ints]; omega) (by simp [AVal.cells, AVal.one])]
  congr 2
  simp only [List.cons.injEq, and_true, AVal.cells, splice, ints]
  rw [List.map_set, List.set_eq_take_append_cons_drop, if_pos (by simp; exact h)]
  simp
theorem ixAV_one {len N i : Nat} {k : IntKind} {j : Int} (h0 : 0 ≤ j) (h1 : j < len) : ixAV len 1 (.ptr N i 0) (.int k j) = some (.ptr N i j.toNat) := by
  simp only [ixAV, idx]
  rw [if_pos ⟨h0, h1⟩]
  simp [addrOf]
theorem ints_get {k : IntKind} {j : Nat} {l : List Int} (h : j < l.length) : (ints k l)[j]? = some (.int k (l.getD j 0)) := by simp [ints, h]
theorem ints_set {k : IntKind} {j : Nat} {l : List Int} {x : Int} : (ints k l).set j (.int k x) = ints k (l.set j x) := by simp [ints, List.map_set]
theorem ble_t {a b : Nat} (h : a ≤ b) : Nat.ble a b = true := by rw [Nat.ble_eq]; exact h
def bitI (op : BinOp) (k : IntKind) (x y : Int) : Int := match binI op k x y with | some (.int _ n) => n | _ => 0
section
variable {e : EqT} {k : IntKind} {x y : Int}
theorem b_xor : binA .xor e (.int k x) (.int k y) = some (.int k (bitI .xor k x y)) := by simp [binA, bitI, binI]
theorem b_and : binA .and e (.int k x) (.int k y) = some (.int k (bitI .and k x y)) := by simp [binA, bitI, binI]
theorem b_or : binA .or e (.int k x) (.int k y) = some (.int k (bitI .or k x y)) := by simp [binA, bitI, binI]
end
theorem BITS : type_of% (And.intro @b_xor (And.intro @b_and @b_or)) := And.intro @b_xor (And.intro @b_and @b_or)
theorem INTS : type_of% (And.intro @ints_get (And.intro @ints_set (And.intro @ixAV_one (And.intro @ble_t @ints_len)))) := And.intro @ints_get (And.intro @ints_set (And.intro @ixAV_one (And.intro @ble_t @ints_len)))
section
variable {α : Type} {s s' : AHeap} {b m : Nat} {f : α → List AVal} {v : AVal} {l : List α}
theorem OwnS.lits (h : OwnS s b m f v l) {bytes n : Nat} {ex : Bool} {xs : List α} {rows : List (List AVal)} (hr : rows = xs.map f) (hn : n = xs.length) (hb : b ≤ s.next) (hs : sumLen l.length xs.length bytes = true) :
    ∃ v' s', appA (s.alloc (.cells m rows)) m bytes v (.ms m s.next 0 n ex) = some (v', s') ∧ OwnS s' b m f v' (l ++ xs) ∧ s.next + 1 ≤ s'.next ∧ (∀ M, M < s.next → Off v M → s'.objs M = s.objs M) ∧ (∀ M, M < s.next → Off v M → Off v' M) := by
  subst hr; subst hn
  have hw : OwnS (s.alloc (.cells m (xs.map f))) b m f (.ms m s.next 0 xs.length ex) xs := .inr ⟨s.next, ex, rfl, hb, by simp, objs_new rfl⟩
  obtain ⟨v', s', h1, h2, h3, h4, h5⟩ := (h.alloc (.cells m (xs.map f))).app hw.elems (by simp; omega) hs
  rw [AHeap.next_alloc] at h3 h4 h5
  exact ⟨v', s', h1, h2, h3, fun M hM hO => by rw [h4 M (by omega) hO, objs_old (by omega)], fun M hM hO => h5 M (by omega) hO⟩
theorem OwnS.lit (h : OwnS s b m f v l) {bytes : Nat} {ex : Bool} {x : α} {row : List AVal} (hr : row = f x) (hb : b ≤ s.next) (hs : sumLen l.length 1 bytes = true) :
    ∃ v' s', appA (s.alloc (.cells m [row])) m bytes v (.ms m s.next 0 1 ex) = some (v', s') ∧ OwnS s' b m f v' (l ++ [x]) ∧ s.next + 1 ≤ s'.next ∧ (∀ M, M < s.next → Off v M → s'.objs M = s.objs M) ∧ (∀ M, M < s.next → Off v M → Off v' M) :=
  h.lits (xs := [x]) (by rw [hr]; rfl) rfl hb hs
theorem OwnS.appE {σ t : AHeap} (h : OwnS s b m f v l) (hb : σ.next ≤ b) (hE : Ext σ s) {k : Nat} (hn : s.next + k ≤ t.next) (hk : ∀ M, M < s.next → Off v M → t.objs M = s.objs M) : Ext σ t :=
  ⟨by have := hE.1; omega, fun M hM => (hk M (by have := hE.1; omega) (h.off_old (by omega))).trans (hE.2 M hM)⟩
end
def EV {α : Type} [Inhabited α] (σ : AHeap) (m : Nat) (f : α → List AVal) (v : AVal) (l : List α) : Prop := ∀ s, Ext σ s → TV s m f v l
section
variable {α : Type} [Inhabited α] {σ s : AHeap} {b m : Nat} {f : α → List AVal} {v : AVal} {l : List α}
theorem RV.ev (h : RV m f v l) : EV σ m f v l := fun s _ => h s
theorem OwnS.ev (h : OwnS σ b m f v l) : EV σ m f v l := fun s hE => (h.ext hE).tv
theorem EV.mono (h : EV σ m f v l) (hE : Ext σ s) : EV s m f v l := fun t hT => h t (hE.trans hT)
theorem EV.at (h : EV σ m f v l) (hE : Ext σ s) : TV s m f v l := h s hE
theorem EV.tv (h : EV σ m f v l) : TV σ m f v l := h σ (.refl _)
theorem EV.one (h : EV σ m f v l) : v.one = true := h.tv.one
theorem EV.len (h : EV σ m f v l) : lenOfS v = some l.length := h.tv.len
end
theorem EV.sub {α : Type} [Inhabited α] {σ : AHeap} {m : Nat} {f : α → List AVal} {v : AVal} {l : List α} (h : EV σ m f v l) {a b : Int} (h0 : 0 ≤ a) (h1 : a ≤ b) (h2 : b ≤ l.length) : EV σ m f (slV m v a b) ((l.drop a.toNat).take (b - a).toNat) := fun s hE => (h s hE).sub h0 h1 h2
theorem getD_mem {α : Type} [Inhabited α] {l : List α} {j : Nat} (h : j < l.length) : l.getD j default ∈ l := by
  rw [List.getD_eq_getElem?_getD, List.getElem?_eq_getElem h]; exact List.getElem_mem h
theorem mid_eq {x : Int} (h0 : 0 ≤ x) (h1 : x ≤ 4611686018427387904) : IntKind.i64.wrap ((IntKind.u64.wrap x).fdiv (2 ^ min (Int.toNat 1) IntKind.u64.bits)) = x / 2 := by
  have e : (2 : Int) ^ min (Int.toNat 1) IntKind.u64.bits = 2 := by decide
  have w : IntKind.u64.wrap x = x := by
    simp only [IntKind.wrap, IntKind.signed, IntKind.bits]
    first | exact Int.emod_eq_of_lt h0 (by omega) | (simp; omega)
  rw [e, w, Int.fdiv_eq_ediv_of_nonneg _ (by omega), wrap_in (by omega) (by omega)]
def Sep (v w : AVal) : Prop := ∀ M, ¬ Off v M → Off w M
theorem Sep.symm {v w : AVal} (h : Sep v w) : Sep w v := fun M hM => Classical.byContradiction fun hv => hM (h M hv)
theorem Sep.nil {v : AVal} : Sep .nilS v := fun M hM => absurd (fun _ _ _ _ h => by cases h) hM
theorem OwnS.other {α β : Type} {s t : AHeap} {b b' m m' k : Nat} {f : α → List AVal} {g : β → List AVal} {v v' w : AVal} {l : List α} {W : List β} (h : OwnS s b m f v l) (hW : OwnS s b' m' g w W) (hs : Sep v w) (hn : s.next + k ≤ t.next)
    (hk : ∀ M, M < s.next → Off v M → t.objs M = s.objs M) (ho : ∀ M, M < s.next → Off v M → Off v' M) : OwnS t b' m' g w W ∧ Sep v' w := by
  refine ⟨hW.keep (by omega) fun M _ hM hw => hk M hM (hs.symm M hw), fun M hM => ?_⟩
  by_cases hlt : M < s.next
  · exact hs M fun hv => hM (ho M hlt hv)
  · exact hW.off_new (by omega)
theorem OwnS.sep_new {β : Type} {s : AHeap} {b' m' : Nat} {g : β → List AVal} {w : AVal} {W : List β} (hW : OwnS s b' m' g w W) {m N i len : Nat} {ex : Bool} (hN : s.next ≤ N) : Sep (.ms m N i len ex) w := fun M hM => by
  by_cases h : M = N
  · subst h; exact hW.off_new hN
  · exact absurd (fun _ _ _ _ e => by cases e; exact h rfl) hM
theorem OwnS.lift {α : Type} {s : AHeap} {m b : Nat} {f : α → List AVal} {v : AVal} {l : List α} (h : OwnS s 0 m f v l) (ho : ∀ M, M < b → Off v M) : OwnS s b m f v l := by
  rcases h with h | ⟨N, ex, rfl, h1, h2, h3⟩
  · exact .inl h
  · refine .inr ⟨N, ex, rfl, ?_, h2, h3⟩
    apply Classical.byContradiction
    intro hn
    exact ho N (by omega) _ _ _ _ rfl
end Go.Tc
namespace Go.Tc
set_option linter.unusedSimpArgs false
set_option linter.unusedVariables false
def IterX (P : Program) (gv : AVal) (X : Nat → Prop) (D P0 : AHeap → Prop) (R : AHeap → List AVal → Prop) (K : Nat) : Prop :=
  ∀ (yv : AVal) (J : Nat → AHeap → Prop) (E : AHeap → Prop), yv.one = true → (∀ k s s', J k s → Ext s s' → J k s') → (∀ k s M o, X M → J k s → J k (s.set M o)) → (∀ k s, J k s → D s) →
    (∀ k s args, k < K → J k s → R s args → RunV P yv args s (fun o s' => (∀ M, X M → s'.objs M = s.objs M) ∧ s.next ≤ s'.next ∧ ((o = .ret (.bool true) ∧ J (k + 1) s') ∨ (o = .ret (.bool false) ∧ E s')))) →
    ∀ s0, J 0 s0 → P0 s0 → RunV P gv [yv] s0 (fun o s => (∃ v, o = .ret v) ∧ ((∃ m, m ≤ K ∧ J m s) ∨ E s))
def KeepX (X : Nat → Prop) (s t : AHeap) : Prop := (∀ M, X M → t.objs M = s.objs M) ∧ s.next ≤ t.next
theorem A_rangeX {P : Program} {f : Opnd} {ps : List Nat} {a b : ACode} {rd : Option Nat} {env : AEnv} {σ : AHeap} {Q : AExit → AEnv → AHeap → Prop} {g : FuncId} {first caps : List AVal} {X : Nat → Prop} {D P0 : AHeap → Prop} {R : AHeap → List AVal → Prop} {K : Nat}
    (hf : env.ev f = .func (.func g) first caps) (hit : IterX P (.func (.func g) first caps) X D P0 R K) (I : Nat → AHeap → Prop) (Z : AExit → AHeap → Prop) (hen : enters P g = true) (hrd : ∀ L, rd = some L → ∃ lo, σ.objs L = some (.loop lo))
    (hX : ∀ M, X M → M < σ.next) (h1 : ∀ k s s', I k s → Ext s s' → I k s') (h2 : ∀ k s M o, X M ∨ M = σ.next → I k s → I k (s.set M o)) (h3 : ∀ k s, I k s → D s) (h4 : ∀ k s, I k s → σ.next < s.next) (h0 : ∀ lo, I 0 (σ.alloc (.loop lo))) (hP0 : ∀ lo, P0 (σ.alloc (.loop lo)))
    (hr : ∀ k s lo args, k < K → I k s → s.objs σ.next = some (.loop lo) → R s args → args.length = ps.length ∧
      wpA P a (some σ.next) (envPs env ps args) s (assignK σ.next lo fun env1 s1 => ∀ lo', wpA P b (some σ.next) env1 (s1.set σ.next (.loop lo')) (roundK σ.next lo' (fun t => KeepX X s t ∧ I (k + 1) t) (fun e t => KeepX X s t ∧ Z e t))))
    (hn : ∀ m s, m ≤ K → I m s → Q .normal env (s.kill σ.next)) (hz : ∀ e s, Z e s → Q e env (s.kill σ.next)) : rangeK P f ps a b {} rd env σ Q {} := by
  refine ⟨g, first, caps, hf, hen, hrd, fun assign body ha hb => ?_⟩
  let lo0 : ALoop := { size := env.n, env := env.t, params := ps.toArray, assign, body, state := .ready, pending := none }
  have := hit (.yield σ.next) (fun k s => I k s ∧ s.objs σ.next = some (.loop lo0))
    (fun s => ∃ lo, s.objs σ.next = some (.loop lo) ∧ lo.state = .done ∧ pendA lo.pending (fun e => Z e s)) rfl
    (fun k s s' h hE => ⟨h1 k s s' h.1 hE, (hE.2 _ (h4 k s h.1)).trans h.2⟩) (fun k s M o hM h => ⟨h2 k s M o (.inl hM) h.1, by
      have := hX M hM
      rw [AHeap.objs_set, if_neg (by omega)]; exact h.2⟩) (fun k s h => h3 k s h.1) ?_ (σ.alloc (.loop lo0)) ⟨h0 _, objs_new rfl⟩ (hP0 _)
  · refine this.mono fun o s ⟨⟨v, hv⟩, h⟩ => ?_
    subst hv
    rcases h with ⟨m, hm, hI, hL⟩ | ⟨lo, hL, hst, hp⟩
    · exact ⟨lo0, hL, by simp [lo0], show Q .normal env _ from hn m s hm hI⟩
    · refine ⟨lo, hL, by rw [hst]; simp, pendA_mono (fun e he => hz e s he) hp⟩
  · rintro k s args hk ⟨hI, hL⟩ hR
    obtain ⟨hlen, hw⟩ := hr k s lo0 args hk hI hL hR
    refine RunV.yield hL (by simpa [lo0] using hlen) ?_
    have hA := ha (some σ.next) (envPs env ps args) s _ rfl hw
    refine RunC.mono hA fun e env1 s1 hn1 hq => ?_
    cases e with
    | normal =>
      obtain ⟨hq1, hq2⟩ := hq
      refine ⟨rfl, lo0, hq1, rfl, ?_⟩
      have hB := hb (some σ.next) env1 (s1.set σ.next (.loop { lo0 with state := .busy })) _ (by rw [hn1]) (hq2 _)
      refine RunC.mono hB fun e2 env2 s2 _ hq3 => ?_
      cases e2 with
      | normal =>
        obtain ⟨⟨k1, k2⟩, hI'⟩ := hq3.2 lo0
        exact ⟨_, hq3.1, k1, k2, .inl ⟨rfl, hI', by rw [AHeap.objs_set, if_pos rfl]⟩⟩
      | panic v => exact hq3.elim
      | ret =>
        obtain ⟨⟨k1, k2⟩, hZ⟩ := hq3.2 { lo0 with state := .done, pending := some .ret }
        exact ⟨_, hq3.1, k1, k2, .inr ⟨rfl, { lo0 with state := .done, pending := some .ret }, by rw [AHeap.objs_set, if_pos rfl], rfl, show Z .ret _ from hZ⟩⟩
      | exit i =>
        obtain ⟨⟨k1, k2⟩, hZ⟩ := hq3.2 { lo0 with state := .done, pending := some (.exit i) }
        exact ⟨_, hq3.1, k1, k2, .inr ⟨rfl, { lo0 with state := .done, pending := some (.exit i) }, by rw [AHeap.objs_set, if_pos rfl], rfl, show Z (.exit i) _ from hZ⟩⟩
      | goto i =>
        obtain ⟨⟨k1, k2⟩, hZ⟩ := hq3.2 { lo0 with state := .done, pending := some (.goto i) }
        exact ⟨_, hq3.1, k1, k2, .inr ⟨rfl, { lo0 with state := .done, pending := some (.goto i) }, by rw [AHeap.objs_set, if_pos rfl], rfl, show Z (.goto i) _ from hZ⟩⟩
    | panic v => exact hq.elim
    | ret => exact hq.elim
    | exit i => exact hq.elim
    | goto i => exact hq.elim
def slV3 (m : Nat) (v : AVal) (a b : Int) : AVal := (sliceA m v (some (.int .i64 a)) (some (.int .i64 b)) (some (.int .i64 b))).getD .junk
section
variable {α : Type} [Inhabited α] {σ : AHeap} {m : Nat} {f : α → List AVal} {v : AVal} {l : List α}
theorem TV.sl3 (h : TV σ m f v l) {k k' k3 : IntKind} {a b : Int} (h0 : 0 ≤ a) (h1 : a ≤ b) (h2 : b ≤ l.length) :
    sliceA m v (some (.int k a)) (some (.int k' b)) (some (.int k3 b)) = some (slV3 m v a b) ∧ TV σ m f (slV3 m v a b) ((l.drop a.toNat).take (b - a).toNat) := by
  have e1 : ∀ (q : IntKind) (d : Nat), bound (some (.int q a)) d b.toNat = some a.toNat := fun q d => bound_in h0 (by omega)
  have e2 : ∀ (q : IntKind) (d : Nat), bound (some (.int q b)) d l.length = some b.toNat := fun q d => bound_in (by omega) h2
  have hd : b.toNat - a.toNat = (b - a).toNat := by omega
  rcases h.shn with ⟨rfl, hl⟩ | ⟨N, i, ex, rfl⟩ | ⟨rows, i, ex, rfl⟩
  · have : l = [] := List.length_eq_zero_iff.1 hl
    subst this
    have ha : a = 0 := by simp at h2; omega
    have hb : b = 0 := by simp at h2; omega
    subst ha; subst hb
    exact ⟨rfl, .nil⟩
  · simp only [slV3, sliceA, if_true, e1, e2, Option.bind_some, Option.getD_some, hd]
    exact ⟨trivial, h.of_ms (by omega)⟩
  · simp only [slV3, sliceA, if_true, e1, e2, Option.bind_some, Option.getD_some, hd]
    exact ⟨trivial, h.of_rs (by omega)⟩
end
theorem EV.sl3 {α : Type} [Inhabited α] {σ : AHeap} {m : Nat} {f : α → List AVal} {v : AVal} {l : List α} (h : EV σ m f v l) {a b : Int} (h0 : 0 ≤ a) (h1 : a ≤ b) (h2 : b ≤ l.length) : EV σ m f (slV3 m v a b) ((l.drop a.toNat).take (b - a).toNat) := fun s hE => ((h s hE).sl3 (k := .i64) (k' := .i64) (k3 := .i64) h0 h1 h2).2
theorem indexFunc_fst {P : Program} (hP : P.follows .mixedOrders = true) {f : FuncId} {g : Bool} {m : Nat} (hk : compFunc P f = some (19, idxFunc g m, [.t 4])) {σ : AHeap} {v fv : AVal} {α : Type} [Inhabited α] {l : List α} {r : α → List AVal}
    (hv : TV σ m r v l) (hl : l.length ≤ 4611686018427387904) (el : α → AVal) (he : ∀ x, partA g m 0 (r x) = some (el x)) (p : α → Bool) (hf : ∀ x ∈ l, RunV P fv [el x] σ (fun o s => o = .ret (.bool (p x)) ∧ s = σ))
    {Q : AOut → AHeap → Prop} (hQ : Q (.ret (.int .i64 (if l.findIdx p < l.length then (l.findIdx p : Int) else -1))) σ) :
    RunV P (.func (.func f) [] []) [v, fv] σ Q := by
  refine RunV.func hP hk (by simp) ?_
  simp (disch := omega) only [idxFunc, ↓CTL, VAL, Nat.reduceBEq, Nat.reduceAdd, hv.S]
  refine A_loopV (α := Nat) [5, 8, 9, 10, 11, 12, 13, 14, 15, 16, 17, 4, 18] (fun i => [(8, .int .i64 i)]) (fun i s => s = σ ∧ i ≤ l.length ∧ ∀ j, j < i → p (l.getD j default) = false) (fun i => l.length - i) rfl (fun _ => rfl) ⟨0, ?_, rfl, Nat.zero_le _, fun j hj => absurd hj (Nat.not_lt_zero _)⟩ ?_
  · simp only [↓CTL, VAL, Nat.reduceBEq]; rfl
  · rintro i f _ ⟨rfl, hi, hpi⟩
    have get : ∀ j (hj : j < l.length), l.getD j default = l[j] := fun j hj => by rw [List.getD_eq_getElem?_getD, List.getElem?_eq_getElem hj]; rfl
    simp (disch := omega) only [↓CTL, VAL, Nat.reduceBEq, Nat.reduceAdd, hv.S]
    refine B_if (fun h1 => ?_) (fun h1 => ?_)
    · simp (disch := omega) only [↓CTL, VAL, Nat.reduceBEq, Nat.reduceAdd, hv.S, he, Int.toNat_natCast]
      refine (hf _ (getD_mem (by omega))).mono fun o s h => ?_
      obtain ⟨rfl, rfl⟩ := h
      simp (disch := omega) only [↓CTL, VAL, Nat.reduceBEq, Nat.reduceAdd]
      refine B_ifb (fun h2 => ?_) (fun h2 => ?_)
      · simp (disch := omega) only [↓CTL, VAL, Nat.reduceBEq, Nat.reduceAdd]
        have hx : l.findIdx p = i := by
          rw [List.findIdx_eq (by omega)]
          refine ⟨by rw [← get i (by omega)]; exact h2, fun j hj => ?_⟩
          have := hpi j hj
          rw [get j (by omega)] at this
          simpa using this
        rw [hx, if_pos (by omega)] at hQ
        exact hQ
      · simp (disch := omega) only [↓CTL, VAL, Nat.reduceBEq, Nat.reduceAdd]
        refine ⟨i + 1, rfl, ⟨by omega, fun j hj => ?_⟩, by omega⟩
        rcases Nat.lt_or_eq_of_le (Nat.le_of_lt_succ hj) with h | rfl
        · exact hpi j h
        · exact h2
    · simp (disch := omega) only [↓CTL, VAL, Nat.reduceBEq, Nat.reduceAdd]
      have hx : ¬ l.findIdx p < l.length := by
        rw [List.findIdx_lt_length]
        rintro ⟨x, hx, hp⟩
        obtain ⟨j, hj, rfl⟩ := List.getElem_of_mem hx
        have := hpi j (by omega)
        rw [get j hj, hp] at this
        cases this
      rw [if_neg hx] at hQ
      exact hQ
end Go.Tc
namespace Go.Tc
set_option linter.unusedSimpArgs false
set_option linter.unusedVariables false
theorem alloc_blank {ι : Nm} {ro : Ros} {σ : AHeap} {w : World} (R : Rel ι ro σ w) (cs : Array Value) (t : TypeId) :
    Rel (upd ι σ.next (.cells 1 w.heap.size 0 cs.size)) ro (σ.alloc (.cells 1 [])) (w.alloc (.cells cs t)) ∧ Later ι ro σ w (upd ι σ.next (.cells 1 w.heap.size 0 cs.size)) ro (σ.alloc (.cells 1 [])) (w.alloc (.cells cs t)) :=
  alloc_cells R 1 [] cs t (by simp) (by simp) (fun j q v h => by simp [cellAt] at h)
theorem RunV.mnz {P : Program} {f : FuncId} {fn : Func} {t e : TypeId} (hf : P.funcs[f]? = some fn) (hname : (fn.name == "runtime.NumGoroutine") = false) (hb : fn.body.isNone = true) (hn : Extern.findNext fn = none) {ps : Array TypeId} (he : Extern.find fn = some (Extern.BytealgMakeNoZero.makeNoZero ps #[t]))
    (ht : P.underlying t = some (.slice e)) {n : Int} (h0 : 0 ≤ n) (h1 : n ≤ 281474976710656) {σ : AHeap} {Q : AOut → AHeap → Prop} (hQ : Q (.ret (.ms 1 σ.next 0 n.toNat false)) (σ.alloc (.cells 1 []))) :
    RunV P (.func (.func f) [] []) [.int .i64 n] σ Q := by
  refine ⟨_, _, hQ, fun ι ro w fu us R hfu hus => ?_⟩
  cases hfu with
  | @func _ _ _ first caps hy q1 q2 _ _ =>
  have e1 : first = #[] := Array.eq_empty_of_size_eq_zero (by simpa using q1)
  have e2 : caps = #[] := Array.eq_empty_of_size_eq_zero (by simpa using q2)
  subst e1; subst e2
  have hus1 : us.size = 1 := by simpa using hus.1
  have hu0 : us[0]? = some (.int .i64 n) := by
    have hx : us[0]? = some us[0] := Array.getElem?_eq_getElem (by omega)
    have := hus.2 0 (.int .i64 n) us[0] rfl hx
    cases hh : us[0]
    all_goals (rw [hh] at this; cases this)
    rw [hx, hh]
  have hus' : us = #[.int .i64 n] := by
    apply Array.ext
    · simpa using hus1
    · intro i h1 h2
      have : i = 0 := by simp at h2; omega
      subst this
      have := (Array.getElem?_eq_some_iff.1 hu0).2
      simpa using this
  subst hus'
  obtain ⟨cs, hrun, hle, _⟩ := Lib.run_makeNoZero (P := P) w ps t e ht n.toNat (by omega)
  rw [show ((n.toNat : Nat) : Int) = n by omega] at hrun
  have hcall : (callFunc f #[.int .i64 n]).run P w = .ok (.value (.slice (some ⟨w.heap.size, 0, none⟩) n.toNat cs.size)) (w.drew.drew.alloc (.cells cs e)) := by
    rw [run_callFunc_extern hf hname hb hn he, hrun]; rfl
  have hrun2 : ((do let d ← Deferred.ofValue (.func (.func f) #[] #[]) #[.int .i64 n]; invoke d.target d.args : Sem Next)).run P w = .ok (.value (.slice (some ⟨w.heap.size, 0, none⟩) n.toNat cs.size)) (w.drew.drew.alloc (.cells cs e)) := by
    simp only [Deferred.ofValue, pure_bind, invoke]
    simpa using hcall
  rw [hrun2]
  have R2 : Rel ι ro σ w.drew.drew := R.drew.drew
  have L2 : Later ι ro σ w ι ro σ w.drew.drew := (Later.drew ι ro σ w).trans (.drew _ _ _ _)
  have hsz : w.drew.drew.heap.size = w.heap.size := rfl
  obtain ⟨R3, L3⟩ := alloc_blank R2 cs e
  rw [hsz] at R3 L3
  refine ⟨_, _, L2.trans L3, R3, .ret (.ms (upd_same _ _ _) hle (by simp) (.inr ⟨by simp, by simp⟩))⟩
end Go.Tc
namespace Go.Tc
set_option linter.unusedSimpArgs false
set_option linter.unusedVariables false
section
variable {P : Program} {rd : Option Nat} {os : List AOper} {d : Option Nat} {a : List Nat} {env : AEnv} {σ : AHeap} {Q : AExit → AEnv → AHeap → Prop} {K X : AVal → AHeap → Prop} {v : AVal}
theorem L_panic {x : Opnd} {t : TypeId} {u : AVal} (h : env.ev x = .iface t u) : Go.Tc.wpOps P rd (⟨d, .panic x, none, a⟩ :: os) env σ Q = Q (.panic (.iface t u)) env σ := by
  simp only [wpOps, gOk, wpOne, OpW, h]
theorem blk_panic {i : Nat} : blockA i Q (.panic v) env σ = Q (.panic v) env σ := id rfl
def dsK (ds : List (AVal × List AVal)) (p : Prop) : Prop := ds = [] ∧ p
theorem retA_panic {rs : List ARes} {Q : AOut → AHeap → Prop} : retA rs Q (.panic v) env σ = dsK env.ds (Q (.panic v) σ) := id rfl
theorem dsK_nil {p : Prop} : dsK [] p = p := by simp [dsK]
end
section
variable {P : Program} {rd : Option Nat} {q st : List Nat} {ps : Nat → Nat → Bool} {i : Nat} {os : List AOper} {d : Option Nat} {a : List Nat} {env : AEnv} {σ : AHeap} {past : List (Nat × AHeap)} {pend : List (Nat × AOp × AEnv × AVal)} {K : AEnv → AHeap → Prop} {X : Nat → AVal → AHeap → Prop} {Q : AExit → AEnv → AHeap → Prop}
theorem p_tas {t : TypeId} {z : AVal} {x : Opnd} {ok : Bool} : opA (.tas t z x ok) env σ = (tasA t z (env.ev x) ok).map (·, σ) := id rfl
theorem L_tas {t : TypeId} {z : AVal} {x : Opnd} {ok : Bool} : Go.Tc.wpOps P rd (⟨d, .tas t z x ok, none, a⟩ :: os) env σ Q = k1 (tasA t z (env.ev x) ok) σ (fun v σ' => Go.Tc.wpOps P rd os (env.put d v) σ' Q) {} := by
  rw [L_op pl_tas, p_tas, m2_k1]
theorem D_tas' {t : TypeId} {z : AVal} {x : Opnd} {ok : Bool} : dK P q st ps {} i (⟨d, .tas t z x ok, none, a⟩ :: os) env σ past pend K X = k1 (tasA t z (env.ev x) ok) σ (fun v σ' => dK P q st ps {} (i + 1) os (env.put d v) σ' past pend K X) {} :=
  DD_no pl_tas rfl (by rw [p_tas])
end
def pushD (env : AEnv) (fv : AVal) (zs : List AVal) : AEnv := { env with ds := (fv, zs) :: env.ds }
theorem pushD_t {env : AEnv} {fv : AVal} {zs : List AVal} {i : Nat} : (pushD env fv zs).t i = env.t i := id rfl
theorem pushD_ds {env : AEnv} {fv : AVal} {zs : List AVal} : (pushD env fv zs).ds = (fv, zs) :: env.ds := id rfl
theorem L_dfr {P : Program} {os : List AOper} {d : Option Nat} {a : List Nat} {env : AEnv} {σ : AHeap} {Q : AExit → AEnv → AHeap → Prop} {f : Opnd} {args : List Opnd} {g : FuncId} {first caps : List AVal} (h : env.ev f = .func (.func g) first caps)
    (hw : Go.Tc.wpOps P none os ((pushD env (.func (.func g) first caps) (args.map env.ev)).put d (.tup [])) σ Q) : Go.Tc.wpOps P none (⟨d, .dfr f args, none, a⟩ :: os) env σ Q := by
  simp only [wpOps, gOk, wpOne, h]
  exact ⟨by simp, hw⟩
theorem DFR : type_of% (And.intro @pushD_t @pushD_ds) := And.intro @pushD_t @pushD_ds
theorem TAS : type_of% (And.intro @L_tas @D_tas') := And.intro @L_tas @D_tas'
theorem PAN : type_of% (And.intro @outK_panic (And.intro @outK_ret (And.intro @th_panic (And.intro @blk_panic (And.intro @dsK_nil @retA_panic))))) := And.intro @outK_panic (And.intro @outK_ret (And.intro @th_panic (And.intro @blk_panic (And.intro @dsK_nil @retA_panic))))
theorem retD_ret0 {P : Program} {rs : List ARes} {vs : List AVal} {env : AEnv} {σ : AHeap} {Q : AOut → AHeap → Prop} (h : env.ds = []) (hr : resAs env σ rs = some vs) (hQ : Q (.ret (tupA vs)) σ) : retD P rs Q .ret env σ := by
  simp only [retD, h, hr]; exact hQ
theorem retD_ret1 {P : Program} {rs : List ARes} {env : AEnv} {σ : AHeap} {Q : AOut → AHeap → Prop} {fv : AVal} {zs : List AVal} (h : env.ds = [(fv, zs)]) (hR : RunD P fv zs σ none (fun _ σ' => ∃ vs, resAs env σ' rs = some vs ∧ Q (.ret (tupA vs)) σ')) : retD P rs Q .ret env σ := by
  simp only [retD, h]
  obtain ⟨b, s, ⟨vs, h1, h2⟩, h3⟩ := hR
  exact ⟨b, s, by simp only [h1]; exact h2, h3⟩
theorem retD_pan1 {P : Program} {rs : List ARes} {env : AEnv} {σ : AHeap} {Q : AOut → AHeap → Prop} {fv v : AVal} {zs : List AVal} (h : env.ds = [(fv, zs)]) (hR : RunD P fv zs σ (some v) (fun took σ' => took = true ∧ ∃ vs, resAs env σ' rs = some vs ∧ Q (.ret (tupA vs)) σ')) : retD P rs Q (.panic v) env σ := by
  simp only [retD, h]
  obtain ⟨b, s, ⟨hb, vs, h1, h2⟩, h3⟩ := hR
  exact ⟨b, s, by simp only [hb, if_true, h1]; exact h2, h3⟩
theorem OwnS.app_new {α : Type} {s : AHeap} {b m : Nat} {f : α → List AVal} {v : AVal} {l xs : List α} (h : OwnS s b m f v l) {bytes : Nat} {w : AVal} (hw : Go.Tc.elems s m w = some (xs.map f)) (hx : xs.length ≠ 0) (hs : sumLen l.length xs.length bytes = true) :
    ∃ v' s', appA s m bytes v w = some (v', s') ∧ OwnS s' s.next m f v' (l ++ xs) ∧ s.next + 1 ≤ s'.next ∧ (∀ M, M < s.next → Off v M → s'.objs M = s.objs M) := by
  have hel := h.elems
  have hxm : (xs.map f).length ≠ 0 := by simpa using hx
  rcases h with ⟨rfl, rfl⟩ | ⟨N, ex, rfl, h1, h2, h3⟩
  · have hs' : sumLen 0 (xs.map f).length bytes = true := by simpa using hs
    refine ⟨.ms m s.next 0 (xs.map f).length false, s.alloc (.cells m (xs.map f)), by simp only [appA, hw, if_neg hxm, hs', if_true], .inr ⟨s.next, false, by simp, Nat.le_refl _, by simp, by rw [objs_new rfl]; simp⟩, by simp,
      fun M hM _ => objs_old (by omega)⟩
  · have hs' : sumLen l.length (xs.map f).length bytes = true := by simpa using hs
    cases ex with
    | true =>
      refine ⟨.ms m s.next 0 (l.length + (xs.map f).length) false, s.alloc (.cells m (l.map f ++ xs.map f)), by simp only [appA, hw, if_neg hxm, h3, hel, hs', and_self, if_true], .inr ⟨s.next, false, by simp, Nat.le_refl _, by simp, by rw [objs_new rfl]; simp⟩, by simp,
        fun M hM _ => objs_old (by omega)⟩
    | false =>
      refine ⟨.ms m s.next 0 (l.length + (xs.map f).length) false, (s.kill N).alloc (.cells m (l.map f ++ xs.map f)), by simp only [appA, hw, if_neg hxm, h3, hel, hs', and_self, if_true]; rfl, .inr ⟨s.next, false, by simp, Nat.le_refl _, by simp, by rw [objs_new (σ := s.kill N) (N := s.next) rfl]; simp⟩, by simp,
        fun M hM hO => ?_⟩
      rw [objs_old (by simpa using Nat.ne_of_lt hM), AHeap.objs_kill, if_neg]
      rintro rfl
      exact hO _ _ _ _ rfl
theorem OwnS.lit_new {α : Type} {s : AHeap} {b m : Nat} {f : α → List AVal} {v : AVal} {l : List α} (h : OwnS s b m f v l) {bytes : Nat} {ex : Bool} {x : α} {row : List AVal} (hr : row = f x) (hs : sumLen l.length 1 bytes = true) :
    ∃ v' s', appA (s.alloc (.cells m [row])) m bytes v (.ms m s.next 0 1 ex) = some (v', s') ∧ OwnS s' (s.next + 1) m f v' (l ++ [x]) ∧ s.next + 1 + 1 ≤ s'.next ∧ ∀ M, M < s.next → Off v M → s'.objs M = s.objs M := by
  have hw : OwnS (s.alloc (.cells m [row])) 0 m f (.ms m s.next 0 1 ex) [x] := .inr ⟨s.next, ex, rfl, Nat.zero_le _, by simp, by rw [hr]; exact objs_new rfl⟩
  obtain ⟨v', s', h1, h2, h3, h4⟩ := (h.alloc (.cells m [row])).app_new hw.elems (by simp) hs
  rw [AHeap.next_alloc] at h2 h3 h4
  exact ⟨v', s', h1, h2, h3, fun M hM hO => by rw [h4 M (by omega) hO, objs_old (by omega)]⟩
end Go.Tc
namespace Go.Tc
set_option linter.unusedSimpArgs false
set_option linter.unusedVariables false
theorem RunV.pureX {P : Program} {fv : AVal} {args : List AVal} {σ : AHeap} {Q : AOut → AHeap → Prop}
    (h : RunV P fv args σ (fun out σ' => (∃ u v, out = .ret u ∧ Frz σ' σ.next u v ∧ (∀ N o, N < σ.next → σ.objs N = some o → σ'.objs N = some o) ∧ Q (.ret v) σ) ∨ ∃ v, out = .panic v ∧ Q (.panic v) σ')) : RunV P fv args σ Q := by
  obtain ⟨out, σ', hq, hc⟩ := h
  rcases hq with ⟨u, v, rfl, hz, hk, hQ⟩ | ⟨v, rfl, hQ⟩
  · exact ⟨.ret v, σ, hQ, hc.pure hz hk⟩
  · exact ⟨.panic v, σ', hQ, hc⟩
theorem RunV.dropX {P : Program} {fv : AVal} {args : List AVal} {σ : AHeap} {Q : AOut → AHeap → Prop}
    (h : RunV P fv args σ (fun o s => (∃ v, o = .ret v ∧ scal v = true ∧ Ext σ s ∧ Q (.ret v) σ) ∨ ∃ v, o = .panic v ∧ Q (.panic v) s)) : RunV P fv args σ Q :=
  RunV.pureX (h.mono fun _ _ h => h.imp (fun ⟨v, h1, h2, h3, h4⟩ => ⟨v, v, h1, scal_frz v h2, fun N _ hN hx => (h3.2 N hN).trans hx, h4⟩) id)
def slStrV (x : AVal) (lo hi : Option AVal) : Option AVal := match x with
  | .str s => (bound hi s.size s.size).bind fun h => (bound lo 0 h).map fun l => .str (s.extract l h)
  | _ => none
def rngV (x : AVal) (σ : AHeap) : Option (AVal × AHeap) := match x with
  | .str s => some (.iter σ.next, σ.alloc (.siter s 0))
  | _ => none
def nextO (o : Option AObj) (N : Nat) (σ : AHeap) : Option (AVal × AHeap) := match o with
  | some (.siter s pos) => if pos < s.size then some (.tup [.bool true, .int .i64 pos, .int .i32 (Utf8.decode s pos).1], σ.set N (.siter s (pos + (Utf8.decode s pos).2))) else some (.tup [.bool false], σ)
  | _ => none
def nextV (x : AVal) (σ : AHeap) : Option (AVal × AHeap) := match x with
  | .iter N => nextO (σ.objs N) N σ
  | _ => none
section
variable {env : AEnv} {σ : AHeap} {s : ByteArray} {k k' : IntKind} {a b : Int} {N pos : Nat}
theorem p_slStr {x : Opnd} {lo hi : Option Opnd} : opA (.slStr x lo hi) env σ = (slStrV (env.ev x) (lo.map env.ev) (hi.map env.ev)).map (·, σ) := by
  simp only [opA, slStrV]; cases env.ev x <;> rfl
theorem p_rngStr {x : Opnd} : opA (.rngStr x) env σ = rngV (env.ev x) σ := by
  simp only [opA, rngV]; cases env.ev x <;> rfl
theorem p_nextStr {x : Opnd} : opA (.nextStr x) env σ = nextV (env.ev x) σ := by
  simp only [opA, nextV, nextO]
  cases env.ev x with
  | iter N => simp only; cases σ.objs N with
    | none => rfl
    | some o => cases o <;> rfl
  | _ => rfl
theorem lenStr_str : lenStrV (.str s) = some (.int .i64 (s.size : Int)) := id rfl
theorem slStr_lo (h0 : 0 ≤ a) (h1 : a ≤ s.size) : slStrV (.str s) (some (.int k a)) none = some (.str (s.extract a.toNat s.size)) := by
  simp only [slStrV, show bound none s.size s.size = some s.size from rfl, Option.bind_some, bound_in h0 h1, Option.map_some]
theorem slStr_hi (h0 : 0 ≤ b) (h1 : b ≤ s.size) : slStrV (.str s) none (some (.int k b)) = some (.str (s.extract 0 b.toNat)) := by
  simp only [slStrV, bound_in h0 h1, Option.bind_some, show bound none 0 b.toNat = some 0 from rfl, Option.map_some]
theorem slStr_both (h0 : 0 ≤ a) (h1 : a ≤ b) (h2 : b ≤ s.size) : slStrV (.str s) (some (.int k a)) (some (.int k' b)) = some (.str (s.extract a.toNat b.toNat)) := by
  simp only [slStrV, bound_in (show 0 ≤ b by omega) h2, Option.bind_some, bound_in h0 (show a ≤ (b.toNat : Nat) by omega), Option.map_some]
theorem rng_str : rngV (.str s) σ = some (.iter σ.next, σ.alloc (.siter s 0)) := id rfl
theorem next_iter : nextV (.iter N) σ = nextO (σ.objs N) N σ := id rfl
theorem next_more (h : pos < s.size) : nextO (some (.siter s pos)) N σ = some (.tup [.bool true, .int .i64 pos, .int .i32 (Utf8.decode s pos).1], σ.set N (.siter s (pos + (Utf8.decode s pos).2))) := by simp only [nextO, h, if_true]
theorem next_end (h : ¬ pos < s.size) : nextO (some (.siter s pos)) N σ = some (.tup [.bool false], σ) := by simp only [nextO, h, if_false]
theorem width_pos : 1 ≤ (Utf8.decode s pos).2 := by
  unfold Utf8.decode
  simp only [Utf8.runeError]
  repeat' split
  all_goals first | exact Nat.le_refl _ | (simp only; omega) | simp
end
section
variable {P : Program} {rd : Option Nat} {q st : List Nat} {ps : Nat → Nat → Bool} {i : Nat} {os : List AOper} {d : Option Nat} {a : List Nat} {env : AEnv} {σ : AHeap} {past : List (Nat × AHeap)} {pend : List (Nat × AOp × AEnv × AVal)} {K : AEnv → AHeap → Prop} {X : Nat → AVal → AHeap → Prop} {Q : AExit → AEnv → AHeap → Prop}
theorem L_slStr {x : Opnd} {lo hi : Option Opnd} : Go.Tc.wpOps P rd (⟨d, .slStr x lo hi, none, a⟩ :: os) env σ Q = k1 (slStrV (env.ev x) (lo.map env.ev) (hi.map env.ev)) σ (fun v σ' => Go.Tc.wpOps P rd os (env.put d v) σ' Q) {} := by
  rw [L_op pl_slStr, p_slStr, m2_k1]
theorem D_slStr' {x : Opnd} {lo hi : Option Opnd} : dK P q st ps {} i (⟨d, .slStr x lo hi, none, a⟩ :: os) env σ past pend K X = k1 (slStrV (env.ev x) (lo.map env.ev) (hi.map env.ev)) σ (fun v σ' => dK P q st ps {} (i + 1) os (env.put d v) σ' past pend K X) {} :=
  DD_no pl_slStr rfl (by rw [p_slStr])
theorem L_rngStr {x : Opnd} : Go.Tc.wpOps P rd (⟨d, .rngStr x, none, a⟩ :: os) env σ Q = k2 (rngV (env.ev x) σ) (fun v σ' => Go.Tc.wpOps P rd os (env.put d v) σ' Q) {} := by
  rw [L_op pl_rngStr, p_rngStr, m2_k2]
theorem L_nextStr {x : Opnd} : Go.Tc.wpOps P rd (⟨d, .nextStr x, none, a⟩ :: os) env σ Q = k2 (nextV (env.ev x) σ) (fun v σ' => Go.Tc.wpOps P rd os (env.put d v) σ' Q) {} := by
  rw [L_op pl_nextStr, p_nextStr, m2_k2]
end
theorem STR : type_of% (And.intro @L_slStr (And.intro @D_slStr' (And.intro @L_rngStr (And.intro @L_nextStr (And.intro @slStr_lo (And.intro @slStr_hi (And.intro @slStr_both (And.intro @rng_str (And.intro @next_iter (And.intro @next_more (And.intro @next_end (And.intro @lenStr_str @b_andb)))))))))))) :=
  And.intro @L_slStr (And.intro @D_slStr' (And.intro @L_rngStr (And.intro @L_nextStr (And.intro @slStr_lo (And.intro @slStr_hi (And.intro @slStr_both (And.intro @rng_str (And.intro @next_iter (And.intro @next_more (And.intro @next_end (And.intro @lenStr_str @b_andb)))))))))))
end Go.Tc
namespace Go.Tc
set_option linter.unusedSimpArgs false
set_option linter.unusedVariables false
inductive FrzL (s : AHeap) (n : Nat) : List AVal → List AVal → Prop
  | nil : FrzL s n [] []
  | cons {v v' : AVal} {l l' : List AVal} (h : Frz s n v v') (t : FrzL s n l l') : FrzL s n (v :: l) (v' :: l')
theorem FrzL.len {s : AHeap} {n : Nat} {l l' : List AVal} (h : FrzL s n l l') : l'.length = l.length := by
  induction h with
  | nil => rfl
  | cons _ _ ih => simp [ih]
theorem FrzL.at {s : AHeap} {n : Nat} {l l' : List AVal} (h : FrzL s n l l') : ∀ (i : Nat) v v', l[i]? = some v → l'[i]? = some v' → Frz s n v v' := by
  induction h with
  | nil => intro i v v' h; simp at h
  | cons h _ ih =>
    intro i v v' h1 h2
    cases i with
    | zero => simp at h1 h2; subst h1; subst h2; exact h
    | succ i => exact ih i v v' (by simpa using h1) (by simpa using h2)
theorem FrzL.tup {s : AHeap} {n : Nat} {l l' : List AVal} (h : FrzL s n l l') : Frz s n (.tup l) (.tup l') := .tup h.len h.at
theorem FrzL.agg {s : AHeap} {n : Nat} {l l' : List AVal} (h : FrzL s n l l') : Frz s n (.agg l) (.agg l') := .agg h.len h.at
def Fz (v : AVal) : Prop := ∀ s n, Frz s n v v
theorem Fz.scal {v : AVal} (h : Go.Tc.scal v = true) : Fz v := fun _ _ => scal_frz v h
theorem Fz.rs {m : Nat} {rows : List (List AVal)} {i len : Nat} {ex : Bool} (hf : ∀ row ∈ rows, ∀ v ∈ row, Fz v ∧ v.one = true) : Fz (.rs m rows i len ex) := by
  intro s n
  refine .rs (fun _ => rfl) (fun h => h) (fun j q v v' h1 h2 => ?_) (fun j q v' h => ?_)
  · rw [h1] at h2; cases h2
    simp only [cellAt, Option.bind_eq_some_iff] at h1
    obtain ⟨row, hr, hv⟩ := h1
    exact (hf row (List.mem_of_getElem? hr) v (List.mem_of_getElem? hv)).1 s n
  · simp only [cellAt, Option.bind_eq_some_iff] at h
    obtain ⟨row, hr, hv⟩ := h
    exact (hf row (List.mem_of_getElem? hr) v' (List.mem_of_getElem? hv)).2
theorem Fz.list {s : AHeap} {n : Nat} : ∀ {l : List AVal}, (∀ v ∈ l, Fz v) → FrzL s n l l
  | [], _ => .nil
  | v :: l, h => .cons (h v (by simp) s n) (Fz.list fun w hw => h w (by simp [hw]))
theorem OwnS.frzR {α : Type} [Inhabited α] {s : AHeap} {n b m : Nat} {f : α → List AVal} {v : AVal} {l : List α} (h : OwnS s b m f v l) (hf : ∀ x ∈ l, ∀ v ∈ f x, Fz v ∧ v.one = true) (hn : n ≤ b) :
    ∃ v', Frz s n v v' ∧ RV m f v' l ∧ Fz v' := by
  rcases h with ⟨rfl, rfl⟩ | ⟨N, ex, rfl, h1, h2, h3⟩
  · exact ⟨.nilS, .nilS, RV.nil, .scal rfl⟩
  · have hrow : ∀ row ∈ l.map f, ∀ v ∈ row, Fz v ∧ v.one = true := by
      intro row hr
      obtain ⟨x, hx, rfl⟩ := List.mem_map.1 hr
      exact hf x hx
    refine ⟨.rs m (l.map f) 0 l.length ex, .ms (by omega) h3 (fun _ => rfl) (fun j q v v' h1 h2 => ?_) (fun j q v' h => ?_), RV.rs (by omega) (by simp), .rs hrow⟩
    · rw [h1] at h2; cases h2
      simp only [cellAt, Option.bind_eq_some_iff] at h1
      obtain ⟨row, hr, hv⟩ := h1
      exact (hrow row (List.mem_of_getElem? hr) v (List.mem_of_getElem? hv)).1 s n
    · simp only [cellAt, Option.bind_eq_some_iff] at h
      obtain ⟨row, hr, hv⟩ := h
      exact (hrow row (List.mem_of_getElem? hr) v' (List.mem_of_getElem? hv)).2
theorem OwnS.frz {α : Type} [Inhabited α] {s : AHeap} {n b m : Nat} {f : α → List AVal} {v : AVal} {l : List α} (h : OwnS s b m f v l) (hf : ∀ x, ∀ v ∈ f x, scal v = true ∧ v.one = true) (hn : n ≤ b) :
    ∃ v', Frz s n v v' ∧ RV m f v' l ∧ Fz v' := h.frzR (fun x _ v hv => ⟨.scal (hf x v hv).1, (hf x v hv).2⟩) hn
theorem rI_scal : ∀ x : Int, ∀ v ∈ rI x, scal v = true ∧ v.one = true := by
  intro x v hv
  simp only [rI, List.mem_singleton] at hv
  subst hv
  exact ⟨rfl, rfl⟩
theorem neq_nil_ms {m N i len : Nat} {ex : Bool} : binA .neq .slice (.ms m N i len ex) .nilS = some (.bool true) := id rfl
theorem neq_nil_rs {m i len : Nat} {rows : List (List AVal)} {ex : Bool} : binA .neq .slice (.rs m rows i len ex) .nilS = some (.bool true) := id rfl
theorem neq_nil_nil : binA .neq .slice .nilS .nilS = some (.bool false) := id rfl
end Go.Tc
namespace Go.Tc
set_option linter.unusedSimpArgs false
set_option linter.unusedVariables false
theorem RunV.ofCalls {P : Program} {f : FuncId} (hent : enters P f = true) {args : List AVal} {us : Array Value} {v : AVal} {u : Value} (hu : ∀ ι ro w us', VRels ι ro w args us' → us' = us) (hv : ∀ ι ro w, VRel ι ro w v u)
    (h : ∀ w, Calls P f us w fun e w' => e = .returned u ∧ w' = w) {σ : AHeap} {Q : AOut → AHeap → Prop} (hQ : Q (.ret v) σ) : RunV P (.func (.func f) [] []) args σ Q := by
  refine ⟨_, _, hQ, fun ι ro w fu us' R hfu hus => ?_⟩
  cases hfu with
  | @func _ _ _ first caps hy q1 q2 _ _ =>
  have e1 : first = #[] := Array.eq_empty_of_size_eq_zero (by simpa using q1)
  have e2 : caps = #[] := Array.eq_empty_of_size_eq_zero (by simpa using q2)
  subst e1; subst e2
  have := hu _ _ _ _ hus
  subst this
  simp only [Deferred.ofValue, pure_bind, invoke, enters_run hent, Upon, Array.empty_append, Array.append_empty]
  refine callsIn_wide.2 ((h w).mono ?_)
  rintro e w' ⟨rfl, rfl⟩
  exact ⟨ι, ro, .refl _ _ _ _, R, .ret (hv _ _ _)⟩
theorem arr2 {a b : Value} {us : Array Value} (h : us.size = 2) (h0 : us[0]? = some a) (h1 : us[1]? = some b) : us = #[a, b] := by
  apply Array.ext
  · simpa using h
  · intro i k1 k2
    have : i = 0 ∨ i = 1 := by simp at k2; omega
    rcases this with rfl | rfl
    · have := (Array.getElem?_eq_some_iff.1 h0).2; simpa using this
    · have := (Array.getElem?_eq_some_iff.1 h1).2; simpa using this
theorem strs2 {a b : ByteArray} : ∀ ι ro w us', VRels ι ro w [.str a, .str b] us' → us' = #[.string a, .string b] := by
  intro ι ro w us h
  have h2 : us.size = 2 := by simpa using h.1
  have k0 : us[0]? = some us[0] := Array.getElem?_eq_getElem (by omega)
  have k1 : us[1]? = some us[1] := Array.getElem?_eq_getElem (by omega)
  refine arr2 h2 ?_ ?_
  · rw [k0]
    have := h.2 0 (.str a) us[0] rfl k0
    generalize us[0] = x at this
    cases this; rfl
  · rw [k1]
    have := h.2 1 (.str b) us[1] rfl k1
    generalize us[1] = x at this
    cases this; rfl
end Go.Tc
namespace Go.Tc
set_option linter.unusedSimpArgs false
set_option linter.unusedVariables false
def GrowX (X : Nat → Prop) (s s' : AHeap) : Nat → Prop := fun M => X M ∨ (s.next ≤ M ∧ M < s'.next)
structure Loose (J : (Nat → Prop) → AHeap → Prop) : Prop where
  ext : ∀ X s s', J X s → Ext s s' → J (GrowX X s s') s'
  set : ∀ X s M o, X M → J X s → J X (s.set M o)
  kill : ∀ X s M, X M → J X s → J X (s.kill M)
def IterZ (P : Program) (gv : AVal) (D : AHeap → Prop) (R : Nat → List AVal → Prop) (C : Nat → Prop) : Prop :=
  ∀ (yv : AVal) (J : Nat → (Nat → Prop) → AHeap → Prop) (E : (Nat → Prop) → AHeap → Prop), yv.one = true → (∀ k, Loose (J k)) → Loose E → (∀ k X s, J k X s → D s) →
    (∀ k X s args, J k X s → R k args → RunV P yv args s (fun o s' => (∀ M, X M → s'.objs M = s.objs M) ∧ s.next ≤ s'.next ∧ ((o = .ret (.bool true) ∧ J (k + 1) X s') ∨ (o = .ret (.bool false) ∧ E X s')))) →
    ∀ s0, J 0 (fun _ => False) s0 → RunV P gv [yv] s0 (fun o s => (∃ v, o = .ret v) ∧ ((∃ m X, C m ∧ J m X s) ∨ ∃ X, E X s))
theorem ig_mv {a0 : _} : isGh (.mv a0) = none := id rfl
theorem ig_pick {a0 : _} {a1 : _} {a2 : _} : isGh (.pick a0 a1 a2) = none := id rfl
theorem ig_box {a0 : _} : isGh (.box a0) = none := id rfl
theorem ig_build {a0 : _} {a1 : _} : isGh (.build a0 a1) = none := id rfl
theorem ig_buildS {a0 : _} {a1 : _} {a2 : _} {a3 : _} : isGh (.buildS a0 a1 a2 a3) = none := id rfl
theorem ig_load {a0 : _} {a1 : _} {a2 : _} : isGh (.load a0 a1 a2) = none := id rfl
theorem ig_store {a0 : _} {a1 : _} {a2 : _} : isGh (.store a0 a1 a2) = none := id rfl
theorem ig_nilck {a0 : _} : isGh (.nilck a0) = none := id rfl
theorem ig_bin {a0 : _} {a1 : _} {a2 : _} {a3 : _} : isGh (.bin a0 a1 a2 a3) = none := id rfl
theorem ig_un {a0 : _} {a1 : _} : isGh (.un a0 a1) = none := id rfl
theorem ig_conv {a0 : _} {a1 : _} : isGh (.conv a0 a1) = none := id rfl
theorem ig_mkI {a0 : _} {a1 : _} : isGh (.mkI a0 a1) = none := id rfl
theorem ig_mkF {a0 : _} {a1 : _} {a2 : _} : isGh (.mkF a0 a1 a2) = none := id rfl
theorem ig_mkM {a0 : _} : isGh (.mkM a0) = none := id rfl
theorem ig_mkS {a0 : _} {a1 : _} {a2 : _} {a3 : _} : isGh (.mkS a0 a1 a2 a3) = none := id rfl
theorem ig_slS {a0 : _} {a1 : _} {a2 : _} {a3 : _} {a4 : _} : isGh (.slS a0 a1 a2 a3 a4) = none := id rfl
theorem ig_slStr {a0 : _} {a1 : _} {a2 : _} : isGh (.slStr a0 a1 a2) = none := id rfl
theorem ig_slA {a0 : _} {a1 : _} {a2 : _} {a3 : _} {a4 : _} : isGh (.slA a0 a1 a2 a3 a4) = none := id rfl
theorem ig_fa {a0 : _} {a1 : _} : isGh (.fa a0 a1) = none := id rfl
theorem ig_fld {a0 : _} {a1 : _} {a2 : _} {a3 : _} : isGh (.fld a0 a1 a2 a3) = none := id rfl
theorem ig_ixA {a0 : _} {a1 : _} {a2 : _} {a3 : _} : isGh (.ixA a0 a1 a2 a3) = none := id rfl
theorem ig_ixS {a0 : _} {a1 : _} {a2 : _} : isGh (.ixS a0 a1 a2) = none := id rfl
theorem ig_ixV {a0 : _} {a1 : _} {a2 : _} {a3 : _} {a4 : _} : isGh (.ixV a0 a1 a2 a3 a4) = none := id rfl
theorem ig_ixStr {a0 : _} {a1 : _} : isGh (.ixStr a0 a1) = none := id rfl
theorem ig_look {a0 : _} {a1 : _} {a2 : _} {a3 : _} {a4 : _} : isGh (.look a0 a1 a2 a3 a4) = none := id rfl
theorem ig_upd {a0 : _} {a1 : _} {a2 : _} {a3 : _} : isGh (.upd a0 a1 a2 a3) = none := id rfl
theorem ig_del {a0 : _} {a1 : _} {a2 : _} : isGh (.del a0 a1 a2) = none := id rfl
theorem ig_rngStr {a0 : _} : isGh (.rngStr a0) = none := id rfl
theorem ig_nextStr {a0 : _} : isGh (.nextStr a0) = none := id rfl
theorem ig_tas {a0 : _} {a1 : _} {a2 : _} {a3 : _} : isGh (.tas a0 a1 a2 a3) = none := id rfl
theorem ig_ext {a0 : _} {a1 : _} : isGh (.ext a0 a1) = none := id rfl
theorem ig_b2s {a0 : _} : isGh (.b2s a0) = none := id rfl
theorem ig_lenStr {a0 : _} : isGh (.lenStr a0) = none := id rfl
theorem ig_lenS {a0 : _} : isGh (.lenS a0) = none := id rfl
theorem ig_lenM {a0 : _} : isGh (.lenM a0) = none := id rfl
theorem ig_lenA {a0 : _} : isGh (.lenA a0) = none := id rfl
theorem ig_app {a0 : _} {a1 : _} {a2 : _} {a3 : _} : isGh (.app a0 a1 a2 a3) = none := id rfl
theorem ig_cpy {a0 : _} {a1 : _} {a2 : _} : isGh (.cpy a0 a1 a2) = none := id rfl
theorem ig_mx {a0 : _} : isGh (.mx a0) = none := id rfl
theorem ig_mn {a0 : _} : isGh (.mn a0) = none := id rfl
theorem ig_panic {a0 : _} : isGh (.panic a0) = none := id rfl
theorem ig_callF {a0 : _} {a1 : _} : isGh (.callF a0 a1) = none := id rfl
theorem ig_callV {a0 : _} {a1 : _} : isGh (.callV a0 a1) = none := id rfl
theorem ig_callI {a0 : _} {a1 : _} {a2 : _} : isGh (.callI a0 a1 a2) = none := id rfl
theorem ig_dfr {a0 : _} {a1 : _} : isGh (.dfr a0 a1) = none := id rfl
theorem ig_recov : isGh .recov = none := id rfl
theorem ig_alloc {z : List AVal} : isGh (.alloc z) = bif bares z then some z else none := id rfl
theorem bs_nil : bares [] = true := id rfl
theorem bs_cons {v : AVal} {vs : List AVal} : bares (v :: vs) = bif v.bare then bares vs else false := id rfl
theorem ba_bool {b : Bool} : (AVal.bool b).bare = true := id rfl
theorem ba_int {k : IntKind} {x : Int} : (AVal.int k x).bare = true := id rfl
theorem ba_str {s : ByteArray} : (AVal.str s).bare = true := id rfl
theorem ba_nilP : AVal.nilP.bare = true := id rfl
theorem ba_nilS : AVal.nilS.bare = true := id rfl
theorem ba_nilM : AVal.nilM.bare = true := id rfl
theorem ba_nilF : AVal.nilF.bare = true := id rfl
theorem ba_nilI : AVal.nilI.bare = true := id rfl
def glK (n : Nat) (d : Option Nat) (op : AOp) (g : Option (Nat × Bool)) (a : List Nat) (os : List AOper) : Option (List AVal) → List AOper
  | some _ => ⟨d, .mv (.c (.ptr n 0 0)), g, a⟩ :: ghL (n + 1) os
  | none => ⟨d, op, g, a⟩ :: ghL n os
theorem gl_cons {n : Nat} {d : Option Nat} {op : AOp} {g : Option (Nat × Bool)} {a : List Nat} {os : List AOper} : ghL n (⟨d, op, g, a⟩ :: os) = glK n d op g a os (isGh op) := by
  simp only [ghL, glK]; cases isGh op <;> rfl
theorem gl_none {n : Nat} {d : Option Nat} {op : AOp} {g : Option (Nat × Bool)} {a : List Nat} {os : List AOper} : glK n d op g a os none = ⟨d, op, g, a⟩ :: ghL n os := id rfl
theorem gl_some {n : Nat} {d : Option Nat} {op : AOp} {g : Option (Nat × Bool)} {a : List Nat} {os : List AOper} {z : List AVal} : glK n d op g a os (some z) = ⟨d, .mv (.c (.ptr n 0 0)), g, a⟩ :: ghL (n + 1) os := id rfl
def ghK (σ : AHeap) (os : List AOper) : Option (List AVal) → AHeap
  | some z => ghH (σ.alloc (.cells z.length [z])) os
  | none => ghH σ os
theorem gh_cons {σ : AHeap} {d : Option Nat} {op : AOp} {g : Option (Nat × Bool)} {a : List Nat} {os : List AOper} : ghH σ (⟨d, op, g, a⟩ :: os) = ghK σ os (isGh op) := by
  simp only [ghH, ghK]; cases isGh op <;> rfl
theorem gh_none {σ : AHeap} {os : List AOper} : ghK σ os none = ghH σ os := id rfl
theorem gh_some {σ : AHeap} {os : List AOper} {z : List AVal} : ghK σ os (some z) = ghH (σ.alloc (.cells z.length [z])) os := id rfl
theorem gl_c1 {α : Type} {a b : α} : (bif true then a else b) = a := id rfl
theorem gl_len0 {α : Type} : ([] : List α).length = 0 := id rfl
theorem gl_len {α : Type} {a : α} {l : List α} : (a :: l).length = l.length + 1 := id rfl
theorem GHL : type_of% (And.intro @ig_mv (And.intro @ig_pick (And.intro @ig_box (And.intro @ig_build (And.intro @ig_buildS (And.intro @ig_load (And.intro @ig_store (And.intro @ig_nilck (And.intro @ig_bin (And.intro @ig_un (And.intro @ig_conv (And.intro @ig_mkI (And.intro @ig_mkF (And.intro @ig_mkM (And.intro @ig_mkS (And.intro @ig_slS (And.intro @ig_slStr (And.intro @ig_slA (And.intro @ig_fa (And.intro @ig_fld (And.intro @ig_ixA (And.intro @ig_ixS (And.intro @ig_ixV (And.intro @ig_ixStr (And.intro @ig_look (And.intro @ig_upd (And.intro @ig_del (And.intro @ig_rngStr (And.intro @ig_nextStr (And.intro @ig_tas (And.intro @ig_ext (And.intro @ig_b2s (And.intro @ig_lenStr (And.intro @ig_lenS (And.intro @ig_lenM (And.intro @ig_lenA (And.intro @ig_app (And.intro @ig_cpy (And.intro @ig_mx (And.intro @ig_mn (And.intro @ig_panic (And.intro @ig_callF (And.intro @ig_callV (And.intro @ig_callI (And.intro @ig_dfr (And.intro @ig_recov (And.intro @ig_alloc (And.intro @bs_nil (And.intro @bs_cons (And.intro @ba_bool (And.intro @ba_int (And.intro @ba_str (And.intro @ba_nilP (And.intro @ba_nilS (And.intro @ba_nilM (And.intro @ba_nilF (And.intro @ba_nilI (And.intro @gl_cons (And.intro @gl_none (And.intro @gl_some (And.intro @gh_cons (And.intro @gh_none (And.intro @gh_some (And.intro @ghL_nil @ghH_nil)))))))))))))))))))))))))))))))))))))))))))))))))))))))))))))))) := (And.intro @ig_mv (And.intro @ig_pick (And.intro @ig_box (And.intro @ig_build (And.intro @ig_buildS (And.intro @ig_load (And.intro @ig_store (And.intro @ig_nilck (And.intro @ig_bin (And.intro @ig_un (And.intro @ig_conv (And.intro @ig_mkI (And.intro @ig_mkF (And.intro @ig_mkM (And.intro @ig_mkS (And.intro @ig_slS (And.intro @ig_slStr (And.intro @ig_slA (And.intro @ig_fa (And.intro @ig_fld (And.intro @ig_ixA (And.intro @ig_ixS (And.intro @ig_ixV (And.intro @ig_ixStr (And.intro @ig_look (And.intro @ig_upd (And.intro @ig_del (And.intro @ig_rngStr (And.intro @ig_nextStr (And.intro @ig_tas (And.intro @ig_ext (And.intro @ig_b2s (And.intro @ig_lenStr (And.intro @ig_lenS (And.intro @ig_lenM (And.intro @ig_lenA (And.intro @ig_app (And.intro @ig_cpy (And.intro @ig_mx (And.intro @ig_mn (And.intro @ig_panic (And.intro @ig_callF (And.intro @ig_callV (And.intro @ig_callI (And.intro @ig_dfr (And.intro @ig_recov (And.intro @ig_alloc (And.intro @bs_nil (And.intro @bs_cons (And.intro @ba_bool (And.intro @ba_int (And.intro @ba_str (And.intro @ba_nilP (And.intro @ba_nilS (And.intro @ba_nilM (And.intro @ba_nilF (And.intro @ba_nilI (And.intro @gl_cons (And.intro @gl_none (And.intro @gl_some (And.intro @gh_cons (And.intro @gh_none (And.intro @gh_some (And.intro @ghL_nil @ghH_nil))))))))))))))))))))))))))))))))))))))))))))))))))))))))))))))))
theorem dg_go' {P : Program} {rd : Option Nat} {l l' : List AOper} {env : AEnv} {σ σ' : AHeap} {Q : AExit → AEnv → AHeap → Prop} (q st : List Nat) (h : drOk q st (ghS l) = true) (hl : ghL σ.next l = l') (hh : ghH σ l = σ')
    (hw : dK P q st (psOf q (ghS l)) {} 0 l' env σ' [(0, σ')] [] (fun env' σ' => Q .normal env' σ') (fun i v σ' => panOk q (ghS l) i = true ∧ Q (.panic v) (env.junk (dstsOf l)) σ')) : drK P l {} rd env σ Q {} := by
  subst hl; subst hh
  exact dg_go q st h hw
theorem A_rangeZ {P : Program} {f : Opnd} {ps : List Nat} {a b : ACode} {rd : Option Nat} {env : AEnv} {σ : AHeap} {Q : AExit → AEnv → AHeap → Prop} {g : FuncId} {first caps : List AVal} {D : AHeap → Prop} {R : Nat → List AVal → Prop} {C : Nat → Prop}
    (hf : env.ev f = .func (.func g) first caps) (hit : IterZ P (.func (.func g) first caps) D R C) (I : Nat → (Nat → Prop) → AHeap → Prop) (Z : AExit → (Nat → Prop) → AHeap → Prop) (hen : enters P g = true) (hrd : ∀ L, rd = some L → ∃ lo, σ.objs L = some (.loop lo))
    (h1 : ∀ k, Loose (I k)) (h1z : ∀ e, Loose (Z e)) (h2 : ∀ k X s o, I k X s → I k X (s.set σ.next o))
    (h3 : ∀ k X s, I k X s → D s) (h4 : ∀ k X s, I k X s → σ.next < s.next ∧ ¬ X σ.next) (h4z : ∀ e X s, Z e X s → σ.next < s.next ∧ ¬ X σ.next) (h0 : ∀ lo, I 0 (fun _ => False) (σ.alloc (.loop lo)))
    (hr : ∀ k X s lo args, I k X s → s.objs σ.next = some (.loop lo) → R k args → args.length = ps.length ∧
      wpA P a (some σ.next) (envPs env ps args) s (assignK σ.next lo fun env1 s1 => ∀ lo', wpA P b (some σ.next) env1 (s1.set σ.next (.loop lo')) (roundK σ.next lo' (fun t => KeepX X s t ∧ I (k + 1) X t) (fun e t => KeepX X s t ∧ Z e X t))))
    (hn : ∀ m X s, C m → I m X s → Q .normal env (s.kill σ.next)) (hz : ∀ e X s, Z e X s → Q e env (s.kill σ.next)) : rangeK P f ps a b {} rd env σ Q {} := by
  refine ⟨g, first, caps, hf, hen, hrd, fun assign body ha hb => ?_⟩
  let lo0 : ALoop := { size := env.n, env := env.t, params := ps.toArray, assign, body, state := .ready, pending := none }
  have lift : ∀ {J : (Nat → Prop) → AHeap → Prop} {p : AHeap → Prop}, Loose J → (∀ X s, J X s → σ.next < s.next ∧ ¬ X σ.next) → (∀ X s s', J X s → p s → s'.objs σ.next = s.objs σ.next → p s') → Loose (fun X s => J X s ∧ p s) := fun hJ h4 hp =>
    ⟨fun X s s' h hE => ⟨hJ.ext X s s' h.1 hE, hp X s s' h.1 h.2 (hE.2 _ (h4 X s h.1).1)⟩, fun X s M o hM h => ⟨hJ.set X s M o hM h.1, hp X s _ h.1 h.2 (by
      have := (h4 X s h.1).2
      rw [AHeap.objs_set, if_neg (by rintro rfl; exact this hM)])⟩, fun X s M hM h => ⟨hJ.kill X s M hM h.1, hp X s _ h.1 h.2 (by
      have := (h4 X s h.1).2
      rw [AHeap.objs_kill, if_neg (by rintro rfl; exact this hM)])⟩⟩
  have := hit (.yield σ.next) (fun k X s => I k X s ∧ s.objs σ.next = some (.loop lo0))
    (fun X s => ∃ lo e, (Z e X s) ∧ (s.objs σ.next = some (.loop lo) ∧ lo.state = .done ∧ (∀ K : AExit → Prop, K e → pendA lo.pending K))) rfl
    (fun k => lift (h1 k) (h4 k) (fun X s s' _ h he => he.trans h)) ?_ (fun k X s h => h3 k X s h.1) ?_ (σ.alloc (.loop lo0)) ⟨h0 _, objs_new rfl⟩
  rotate_left
  · have hl : ∀ lo e, Loose (fun X s => Z e X s ∧ (s.objs σ.next = some (.loop lo) ∧ lo.state = .done ∧ (∀ K : AExit → Prop, K e → pendA lo.pending K))) := fun lo e => lift (h1z e) (h4z e) (fun X s s' _ h he => ⟨he.trans h.1, h.2⟩)
    exact ⟨fun X s s' ⟨lo, e, h⟩ hE => ⟨lo, e, (hl lo e).ext X s s' h hE⟩, fun X s M o hM ⟨lo, e, h⟩ => ⟨lo, e, (hl lo e).set X s M o hM h⟩, fun X s M hM ⟨lo, e, h⟩ => ⟨lo, e, (hl lo e).kill X s M hM h⟩⟩
  rotate_left
  · refine this.mono fun o s ⟨⟨v, hv⟩, h⟩ => ?_
    subst hv
    rcases h with ⟨m, X, hm, hI, hL⟩ | ⟨X, lo, e, hZ, hL, hst, hp⟩
    · exact ⟨lo0, hL, by simp [lo0], show Q .normal env _ from hn m X s hm hI⟩
    · exact ⟨lo, hL, by rw [hst]; simp, hp _ (hz e X s hZ)⟩
  · rintro k X s args ⟨hI, hL⟩ hR
    obtain ⟨hlen, hw⟩ := hr k X s lo0 args hI hL hR
    refine RunV.yield hL (by simpa [lo0] using hlen) ?_
    have hA := ha (some σ.next) (envPs env ps args) s _ rfl hw
    refine RunC.mono hA fun e env1 s1 hn1 hq => ?_
    cases e with
    | normal =>
      obtain ⟨hq1, hq2⟩ := hq
      refine ⟨rfl, lo0, hq1, rfl, ?_⟩
      have hB := hb (some σ.next) env1 (s1.set σ.next (.loop { lo0 with state := .busy })) _ (by rw [hn1]) (hq2 _)
      refine RunC.mono hB fun e2 env2 s2 _ hq3 => ?_
      cases e2 with
      | normal =>
        obtain ⟨⟨k1, k2⟩, hI'⟩ := hq3.2 lo0
        exact ⟨_, hq3.1, k1, k2, .inl ⟨rfl, hI', by rw [AHeap.objs_set, if_pos rfl]⟩⟩
      | panic v => exact hq3.elim
      | ret =>
        obtain ⟨⟨k1, k2⟩, hZ⟩ := hq3.2 { lo0 with state := .done, pending := some .ret }
        exact ⟨_, hq3.1, k1, k2, .inr ⟨rfl, { lo0 with state := .done, pending := some .ret }, .ret, hZ, by rw [AHeap.objs_set, if_pos rfl], rfl, fun K hK => hK⟩⟩
      | exit i =>
        obtain ⟨⟨k1, k2⟩, hZ⟩ := hq3.2 { lo0 with state := .done, pending := some (.exit i) }
        exact ⟨_, hq3.1, k1, k2, .inr ⟨rfl, { lo0 with state := .done, pending := some (.exit i) }, (.exit i), hZ, by rw [AHeap.objs_set, if_pos rfl], rfl, fun K hK => hK⟩⟩
      | goto i =>
        obtain ⟨⟨k1, k2⟩, hZ⟩ := hq3.2 { lo0 with state := .done, pending := some (.goto i) }
        exact ⟨_, hq3.1, k1, k2, .inr ⟨rfl, { lo0 with state := .done, pending := some (.goto i) }, (.goto i), hZ, by rw [AHeap.objs_set, if_pos rfl], rfl, fun K hK => hK⟩⟩
    | panic v => exact hq.elim
    | ret => exact hq.elim
    | exit i => exact hq.elim
    | goto i => exact hq.elim
end Go.Tc
namespace Go.Tc
set_option linter.unusedSimpArgs false
set_option linter.unusedVariables false
noncomputable section
inductive Trie (α : Type) where
  | nil
  | node (v : Option α) (l r : Trie α)
def pathF : Nat → Nat → List Bool
  | 0, _ => []
  | k + 1, n => bif Nat.beq n 0 then [] else bif Nat.beq (Nat.mod n 2) 1 then true :: pathF k (Nat.div n 2) else false :: pathF k (Nat.sub (Nat.div n 2) 1)
def path (n : Nat) : List Bool := pathF (Nat.succ n) n
def unpath : List Bool → Nat
  | [] => 0
  | true :: p => 2 * unpath p + 1
  | false :: p => 2 * unpath p + 2
theorem unpath_path : ∀ (k n : Nat), n < k → unpath (pathF k n) = n := by
  intro k
  induction k with
  | zero => intro n h; omega
  | succ k ih =>
    intro n h
    have e1 : Nat.mod n 2 = n % 2 := rfl
    have e2 : Nat.div n 2 = n / 2 := rfl
    simp only [pathF, e1, e2, Nat.sub_eq, cond_eq_ite, Nat.beq_eq]
    split
    · rename_i h0; simp [unpath, h0]
    · split
      · simp only [unpath]; rw [ih _ (by omega)]; omega
      · simp only [unpath]; rw [ih _ (by omega)]; omega
theorem path_inj {i j : Nat} (h : path i = path j) : i = j := by
  have := congrArg unpath h
  rwa [path, path, unpath_path _ _ (Nat.lt_succ_self _), unpath_path _ _ (Nat.lt_succ_self _)] at this
namespace Trie
variable {α : Type}
def getP (t : Trie α) : List Bool → Option α :=
  Trie.rec (motive := fun _ => List Bool → Option α) (fun _ => none)
    (fun v _ _ ihl ihr p => List.rec (motive := fun _ => Option α) v (fun b p' _ => Bool.rec (motive := fun _ => Option α) (ihr p') (ihl p') b) p) t
theorem getP_nil {p : List Bool} : getP (.nil : Trie α) p = none := rfl
theorem getP_node {v : Option α} {l r : Trie α} : getP (.node v l r) [] = v := rfl
theorem getP_l {v : Option α} {l r : Trie α} {p : List Bool} : getP (.node v l r) (true :: p) = getP l p := rfl
theorem getP_r {v : Option α} {l r : Trie α} {p : List Bool} : getP (.node v l r) (false :: p) = getP r p := rfl
def setP (x : Option α) : List Bool → Trie α → Trie α
  | [], t => (match t with | .nil => .node x .nil .nil | .node _ l r => .node x l r)
  | b :: p, t => (match t with
    | .nil => (match b with | true => .node none (setP x p .nil) .nil | false => .node none .nil (setP x p .nil))
    | .node v l r => (match b with | true => .node v (setP x p l) r | false => .node v l (setP x p r)))
def setO (x : Option α) (p : List Bool) : Trie α → Option (Trie α) :=
  List.rec (motive := fun _ => Trie α → Option (Trie α))
    (fun t => Trie.rec (motive := fun _ => Option (Trie α)) (some (.node x .nil .nil)) (fun _ l r _ _ => some (.node x l r)) t)
    (fun b _ ih t => Trie.rec (motive := fun _ => Option (Trie α))
      (Bool.rec (motive := fun _ => Option (Trie α)) (Option.rec (motive := fun _ => Option (Trie α)) none (fun r => some (.node none .nil r)) (ih .nil)) (Option.rec (motive := fun _ => Option (Trie α)) none (fun l => some (.node none l .nil)) (ih .nil)) b)
      (fun v l r _ _ => Bool.rec (motive := fun _ => Option (Trie α)) (Option.rec (motive := fun _ => Option (Trie α)) none (fun r' => some (.node v l r')) (ih r)) (Option.rec (motive := fun _ => Option (Trie α)) none (fun l' => some (.node v l' r)) (ih l)) b) t) p
theorem setO_eq {x : Option α} : ∀ (p : List Bool) (t : Trie α), setO x p t = some (setP x p t) := by
  intro p
  induction p with
  | nil => intro t; cases t <;> rfl
  | cons b p ih =>
    intro t
    cases t with
    | nil =>
      cases b
      · show Option.rec (motive := fun _ => Option (Trie α)) none (fun r => some (.node none .nil r)) (setO x p .nil) = _
        rw [ih]; rfl
      · show Option.rec (motive := fun _ => Option (Trie α)) none (fun l => some (.node none l .nil)) (setO x p .nil) = _
        rw [ih]; rfl
    | node v l r =>
      cases b
      · show Option.rec (motive := fun _ => Option (Trie α)) none (fun r' => some (.node v l r')) (setO x p r) = _
        rw [ih]; rfl
      · show Option.rec (motive := fun _ => Option (Trie α)) none (fun l' => some (.node v l' r)) (setO x p l) = _
        rw [ih]; rfl
theorem setP_getP {x : Option α} : ∀ (p : List Bool) (t : Trie α) (q : List Bool), getP (setP x p t) q = if q = p then x else getP t q := by
  intro p
  induction p with
  | nil =>
    intro t q
    cases t <;> cases q <;> simp [setP, getP_nil, getP_node]
    · rename_i b q; cases b <;> simp [getP_nil, getP_l, getP_r]
    · rename_i b q; cases b <;> simp [getP_l, getP_r]
  | cons b p ih =>
    intro t q
    cases t <;> cases q <;> cases b <;> simp [setP, getP_nil, getP_node]
    all_goals
      rename_i b' q
      cases b' <;> simp [ih, getP_nil, getP_l, getP_r]
def get (t : Trie α) (i : Nat) : Option α := getP t (path i)
def set (k : Nat) (t : Trie α) (i : Nat) (x : Option α) : Option (Trie α) := setO x (path i) t
theorem set_get (k : Nat) (t : Trie α) (i : Nat) (x : Option α) (t' : Trie α) (h : set k t i x = some t') (j : Nat) : t'.get j = if j = i then x else t.get j := by
  simp only [set, setO_eq] at h
  cases h
  simp only [get, setP_getP]
  by_cases h : j = i
  · rw [if_pos h, if_pos (by rw [h])]
  · rw [if_neg h, if_neg (fun hh => h (path_inj hh))]
end Trie
structure XE where
  tr : Trie AVal
  base : Nat → AVal
  ds : List (AVal × List AVal)
def XE.t (E : XE) (i : Nat) : AVal := match E.tr.get i with | some v => v | none => E.base i
def envX (n : Nat) (E : XE) : AEnv := { n, t := E.t, ds := E.ds }
def XE.put (E : XE) : Option Nat → AVal → Option XE
  | none, _ => some E
  | some d, v => match E.tr.set 64 d (some v) with | some tr => some ⟨tr, E.base, E.ds⟩ | none => none
theorem XE.put_env {n : Nat} {E E' : XE} {d : Option Nat} {v : AVal} (h : E.put d v = some E') : envX n E' = (envX n E).put d v := by
  cases d with
  | none => cases h; rfl
  | some d =>
    simp only [XE.put] at h
    split at h
    · rename_i tr ht
      cases h
      simp only [envX, AEnv.put, AEnv.set]
      congr 1
      funext i
      simp only [XE.t, Trie.set_get _ _ _ _ _ ht]
      by_cases hi : i = d <;> simp [hi]
    · cases h
structure XH where
  H : Trie AObj
  nx : Nat
  lo : Nat
def XH.toA (h : XH) : AHeap := { objs := fun N => h.H.get N, next := h.nx }
def updK (H : Trie AObj) (nx lo N : Nat) : Option XH := Bool.rec (motive := fun _ => Option XH) (some ⟨H, nx, lo⟩) (some ⟨H, nx, N⟩) (Nat.ble (Nat.succ N) lo)
def XH.upd (h : XH) (N : Nat) (o : Option AObj) : Option XH :=
  match h with
  | ⟨H0, nx, lo⟩ => match H0.set 64 N o with
    | some H => updK H nx lo N
    | none => none
def Pres (h h' : XH) : Prop := h.nx ≤ h'.nx ∧ h'.lo ≤ h.lo ∧ ∀ N, N < h.nx → N < h'.lo → h'.toA.objs N = h.toA.objs N
theorem Pres.refl (h : XH) : Pres h h := ⟨Nat.le_refl _, Nat.le_refl _, fun _ _ _ => rfl⟩
theorem Pres.trans {a b c : XH} (h : Pres a b) (k : Pres b c) : Pres a c :=
  ⟨Nat.le_trans h.1 k.1, Nat.le_trans k.2.1 h.2.1, fun N h1 h2 => (k.2.2 N (Nat.lt_of_lt_of_le h1 h.1) h2).trans (h.2.2 N h1 (Nat.lt_of_lt_of_le h2 k.2.1))⟩
theorem XH.upd_spec {h h' : XH} {N : Nat} {o : Option AObj} (hu : h.upd N o = some h') : h'.nx = h.nx ∧ (∀ M, h'.toA.objs M = if M = N then o else h.toA.objs M) ∧ h'.lo ≤ h.lo ∧ h'.lo ≤ N := by
  obtain ⟨H0, nx, lo⟩ := h
  simp only [XH.upd] at hu
  split at hu
  · rename_i H hH
    have hg := Trie.set_get _ _ _ _ _ hH
    unfold updK at hu
    cases hb : Nat.ble (Nat.succ N) lo with
    | true =>
      rw [hb] at hu; cases hu
      have : N < lo := by rw [Nat.ble_eq] at hb; exact hb
      exact ⟨rfl, hg, Nat.le_of_lt this, Nat.le_refl _⟩
    | false =>
      rw [hb] at hu; cases hu
      have : ¬ N < lo := fun x => by rw [Nat.ble_eq_true_of_le (show N.succ ≤ lo from x)] at hb; cases hb
      exact ⟨rfl, hg, Nat.le_refl _, by show lo ≤ N; omega⟩
  · cases hu
theorem XH.upd_pres {h h' : XH} {N : Nat} {o : Option AObj} (hu : h.upd N o = some h') : Pres h h' := by
  obtain ⟨h1, h2, h3, h4⟩ := XH.upd_spec hu
  exact ⟨by omega, h3, fun M _ hM => by rw [h2, if_neg (by omega)]⟩
def XH.new (h : XH) (o : Option AObj) : Option XH :=
  match h with
  | ⟨H0, nx, lo⟩ => match H0.set 64 nx o with
    | some H => some ⟨H, Nat.succ nx, lo⟩
    | none => none
def pureOp : AOp → Bool
  | .alloc _ | .box _ | .buildS .. | .store .. | .mkM _ | .mkS .. | .upd .. | .rngStr _ | .nextStr _ | .app .. | .cpy .. => false
  | _ => true
def nameV (d : Nat) : AVal → Nat
  | .ptr N _ _ | .ms _ N _ _ _ | .map N | .iter N => N
  | _ => d
def nmOf (d : Nat) (env : AEnv) : AOp → Nat
  | .store _ a _ => nameV d (env.ev a)
  | .upd _ m _ _ => nameV d (env.ev m)
  | .nextStr x => nameV d (env.ev x)
  | .app _ _ s _ => nameV d (env.ev s)
  | .cpy _ d' _ => nameV d (env.ev d')
  | _ => d
theorem opA_pure {o : AOp} {env : AEnv} {σ σ1 : AHeap} {v : AVal} (hp : pureOp o = true) (h : opA o env σ = some (v, σ1)) : σ1 = σ := by
  cases o <;> simp only [pureOp] at hp <;> first | (cases hp; done) | skip
  all_goals
    simp only [opA] at h
    first
    | (cases h; rfl)
    | (simp only [Option.map_eq_some_iff, Prod.mk.injEq] at h; obtain ⟨_, _, _, rfl⟩ := h; rfl)
    | (repeat' split at h) <;> first | (cases h; done) | (cases h; rfl) | (simp only [Option.map_eq_some_iff, Prod.mk.injEq] at h; obtain ⟨_, _, _, rfl⟩ := h; rfl)
theorem opA_delta {o : AOp} {env : AEnv} {σ σ1 : AHeap} {v : AVal} (h : opA o env σ = some (v, σ1)) : σ.next ≤ σ1.next ∧ ∀ M, M ≠ nmOf σ.next env o → M ≠ σ.next → σ1.objs M = σ.objs M := by
  by_cases hp : pureOp o = true
  · rw [opA_pure hp h]; exact ⟨Nat.le_refl _, fun _ _ _ => rfl⟩
  have al : ∀ o', (σ.alloc o').next = σ.next + 1 := fun _ => rfl
  cases o <;> simp only [pureOp, not_true_eq_false] at hp <;> simp only [opA] at h
  case alloc => cases h; exact ⟨by simp, fun M _ h2 => by rw [AHeap.objs_alloc, if_neg h2]⟩
  case box => split at h <;> cases h; exact ⟨by simp, fun M _ h2 => by rw [AHeap.objs_alloc, if_neg h2]⟩
  case buildS => split at h <;> cases h; exact ⟨by simp, fun M _ h2 => by rw [AHeap.objs_alloc, if_neg h2]⟩
  case mkM => cases h; exact ⟨by simp, fun M _ h2 => by rw [AHeap.objs_alloc, if_neg h2]⟩
  case mkS =>
    split at h
    · split at h <;> cases h; exact ⟨by simp, fun M _ h2 => by rw [AHeap.objs_alloc, if_neg h2]⟩
    · cases h
  case rngStr => split at h <;> cases h; exact ⟨by simp, fun M _ h2 => by rw [AHeap.objs_alloc, if_neg h2]⟩
  case store n a x =>
    simp only [Option.map_eq_some_iff, Prod.mk.injEq] at h
    obtain ⟨s, hs, _, rfl⟩ := h
    unfold storeA at hs
    simp only [nmOf]
    split at hs
    · rename_i N i k he
      rw [he]; simp only [nameV]
      (repeat' split at hs) <;> cases hs
      exact ⟨Nat.le_refl _, fun M h1 _ => by rw [AHeap.objs_set, if_neg h1]⟩
    · cases hs
  case upd K m i x =>
    simp only [nmOf]
    split at h
    · rename_i N k he hk
      rw [he]; simp only [nameV]
      (repeat' split at h) <;> cases h <;> exact ⟨Nat.le_refl _, fun M h1 _ => by rw [AHeap.objs_set, if_neg h1]⟩
    · cases h
  case nextStr x =>
    simp only [nmOf]
    split at h
    · rename_i N he
      rw [he]; simp only [nameV]
      (repeat' split at h) <;> cases h
      · exact ⟨Nat.le_refl _, fun M h1 _ => by rw [AHeap.objs_set, if_neg h1]⟩
      · exact ⟨Nat.le_refl _, fun M h1 _ => rfl⟩
    · cases h
  case app m b s x =>
    simp only [nmOf]
    unfold appA at h
    split at h
    · cases h
    · split at h
      · (repeat' split at h) <;> cases h
        · exact ⟨Nat.le_refl _, fun M h1 _ => rfl⟩
        · exact ⟨by simp, fun M _ h2 => by rw [AHeap.objs_alloc, if_neg h2]⟩
      · rename_i N _ len ex he
        rw [he]; simp only [nameV]
        (repeat' split at h) <;> cases h
        · exact ⟨Nat.le_refl _, fun M h1 _ => rfl⟩
        · exact ⟨by simp, fun M _ h2 => by rw [AHeap.objs_alloc, if_neg h2]⟩
        · exact ⟨by simp, fun M h1 h2 => by rw [AHeap.objs_alloc, if_neg (by simpa using h2), AHeap.objs_kill, if_neg h1]⟩
      all_goals
        (repeat' split at h) <;> cases h
        all_goals first
          | exact ⟨Nat.le_refl _, fun M h1 _ => rfl⟩
          | exact ⟨by simp, fun M _ h2 => by rw [AHeap.objs_alloc, if_neg h2]⟩
  case cpy m d s =>
    simp only [nmOf]
    unfold cpyA at h
    split at h
    · cases h
    · split at h
      · cases h; exact ⟨Nat.le_refl _, fun M h1 _ => rfl⟩
      · rename_i N i len _ he
        rw [he]; simp only [nameV]
        (repeat' split at h) <;> cases h
        · exact ⟨Nat.le_refl _, fun M h1 _ => rfl⟩
        · exact ⟨Nat.le_refl _, fun M h1 _ => by rw [AHeap.objs_set, if_neg h1]⟩
      · cases h
end
end Go.Tc
namespace Go.Tc
set_option linter.unusedSimpArgs false
set_option linter.unusedVariables false
noncomputable section
abbrev CT := AVal → List AVal → XH → Option (AVal × XH)
structure OpR where
  run : AEnv → AHeap → Option (AVal × AHeap)
def opW (o : AOp) : OpR :=
  match o with
  | .mv x => ⟨fun env σ => let e := env.ev; some (e x, σ)⟩
  | .pick c a b => ⟨fun env σ => let e := env.ev; (match e c with | .bool t => some (if t then e a else e b, σ) | _ => none)⟩
  | .alloc z => ⟨fun env σ => some (.ptr σ.next 0 0, σ.alloc (.cells z.length [z]))⟩
  | .box x => ⟨fun env σ => let e := env.ev; if (e x).cells.all AVal.one then some (.ptr σ.next 0 0, σ.alloc (.cells (e x).cells.length [(e x).cells])) else none⟩
  | .build z parts => ⟨fun env σ => let e := env.ev; let v (x : Option AVal) : Option (AVal × AHeap) := x.map (·, σ); v ((fillA z (parts.map fun p => (p.1, p.2.1, e p.2.2))).map .agg)⟩
  | .buildS m z len parts => ⟨fun env σ => let e := env.ev; match fillRows m (List.replicate len z) (parts.map fun p => (p.1, e p.2)) with
    | some rows => some (.ms m σ.next 0 len true, σ.alloc (.cells m rows))
    | none => none⟩
  | .load agg n x => ⟨fun env σ => let e := env.ev; let v (x : Option AVal) : Option (AVal × AHeap) := x.map (·, σ); v (loadA σ agg n (e x))⟩
  | .store n a x => ⟨fun env σ => let e := env.ev; (storeA σ n (e a) (e x)).map (.tup [], ·)⟩
  | .nilck x => ⟨fun env σ => let e := env.ev; (match e x with | .ptr .. | .rptr .. | .func (.func _) .. | .iface .. => some (e x, σ) | _ => none)⟩
  | .bin op q x y => ⟨fun env σ => let e := env.ev; let v (x : Option AVal) : Option (AVal × AHeap) := x.map (·, σ); v (binA op q (e x) (e y))⟩
  | .un op x => ⟨fun env σ => let e := env.ev; let v (x : Option AVal) : Option (AVal × AHeap) := x.map (·, σ); v (unA op (e x))⟩
  | .conv c x => ⟨fun env σ => let e := env.ev; (match c, e x with
    | .int k, .int _ n => some (.int k (k.wrap n), σ)
    | .id, .str s => some (.str s, σ)
    | .strOfInt, .int _ n => some (.str (Utf8.encode n), σ)
    | _, _ => none)⟩
  | .mkI t x => ⟨fun env σ => let e := env.ev; some (.iface t (e x), σ)⟩
  | .mkF fn a b => ⟨fun env σ => let e := env.ev; some (.func fn (a.map e) (b.map e), σ)⟩
  | .mkM K => ⟨fun env σ => some (.map σ.next, σ.alloc (.map K (fun _ => none) 0))⟩
  | .mkS z bytes l c => ⟨fun env σ => let e := env.ev; (match e l, e c with
    | .int _ l, .int _ c => if 0 ≤ l ∧ l ≤ c ∧ c * bytes ≤ 70368744177664 ∧ c ≤ 70368744177664 then
        some (.ms z.length σ.next 0 l.toNat (l == c), σ.alloc (.cells z.length (List.replicate l.toNat z))) else none
    | _, _ => none)⟩
  | .slS m x lo hi mx => ⟨fun env σ => let e := env.ev; let v (x : Option AVal) : Option (AVal × AHeap) := x.map (·, σ); v (sliceA m (e x) (lo.map e) (hi.map e) (mx.map e))⟩
  | .slStr x lo hi => ⟨fun env σ => let e := env.ev; let v (x : Option AVal) : Option (AVal × AHeap) := x.map (·, σ); (match e x with
    | .str s => v ((bound (hi.map e) s.size s.size).bind fun h => (bound (lo.map e) 0 h).map fun l => .str (s.extract l h))
    | _ => none)⟩
  | .slA n m x lo hi => ⟨fun env σ => let e := env.ev; let v (x : Option AVal) : Option (AVal × AHeap) := x.map (·, σ); if lo.isSome || hi.isSome then none else v (slAA n m (e x))⟩
  | .fa off x => ⟨fun env σ => let e := env.ev; let v (x : Option AVal) : Option (AVal × AHeap) := x.map (·, σ); v (addrOf off (e x))⟩
  | .fld agg n off x => ⟨fun env σ => let e := env.ev; let v (x : Option AVal) : Option (AVal × AHeap) := x.map (·, σ); (match e x with | .agg cs => v (partA agg n off cs) | _ => none)⟩
  | .ixA len m x i => ⟨fun env σ => let e := env.ev; let v (x : Option AVal) : Option (AVal × AHeap) := x.map (·, σ); (match e i with
    | .int _ i => v ((idx i len).bind fun j => addrOf (j * m) (e x))
    | _ => none)⟩
  | .ixS m x i => ⟨fun env σ => let e := env.ev; let v (x : Option AVal) : Option (AVal × AHeap) := x.map (·, σ); (match e i with | .int _ i => v (ixSA m (e x) i) | _ => none)⟩
  | .ixV len agg m x i => ⟨fun env σ => let e := env.ev; let v (x : Option AVal) : Option (AVal × AHeap) := x.map (·, σ); (match e x, e i with
    | .agg cs, .int _ i => v ((idx i len).bind fun j => partA agg m (j * m) cs)
    | _, _ => none)⟩
  | .ixStr x i => ⟨fun env σ => let e := env.ev; let v (x : Option AVal) : Option (AVal × AHeap) := x.map (·, σ); (match e x, e i with
    | .str s, .int _ i => v (if 0 ≤ i then (s[i.toNat]?).map fun b => .int .u8 b.toNat else none)
    | _, _ => none)⟩
  | .look K z x i ok => ⟨fun env σ => let e := env.ev; (match mapAt σ K (e x), toKey K (e i) with
    | some (f, _), some k => some (if ok then .tup [(f k).getD z, .bool (f k).isSome] else (f k).getD z, σ)
    | _, _ => none)⟩
  | .upd K m i x => ⟨fun env σ => let e := env.ev; (match e m, toKey K (e i) with
    | .map N, some k => (match σ.objs N with
      | some (.map K' f n) => if K' = K then some (.tup [], σ.set N (.map K (mput f k (e x)) (if (f k).isSome then n else n + 1))) else none
      | _ => none)
    | _, _ => none)⟩
  | .rngStr x => ⟨fun env σ => let e := env.ev; (match e x with
    | .str s => some (.iter σ.next, σ.alloc (.siter s 0))
    | _ => none)⟩
  | .nextStr x => ⟨fun env σ => let e := env.ev; (match e x with
    | .iter N => (match σ.objs N with
      | some (.siter s pos) => if pos < s.size then
          some (.tup [.bool true, .int .i64 pos, .int .i32 (Utf8.decode s pos).1], σ.set N (.siter s (pos + (Utf8.decode s pos).2)))
        else some (.tup [.bool false], σ)
      | _ => none)
    | _ => none)⟩
  | .tas t z x ok => ⟨fun env σ => let e := env.ev; let v (x : Option AVal) : Option (AVal × AHeap) := x.map (·, σ); v (tasA t z (e x) ok)⟩
  | .ext x i => ⟨fun env σ => let e := env.ev; let v (x : Option AVal) : Option (AVal × AHeap) := x.map (·, σ); (match e x with | .tup vs => v (vs[i]?) | _ => none)⟩
  | .b2s x => ⟨fun env σ => let e := env.ev; let v (x : Option AVal) : Option (AVal × AHeap) := x.map (·, σ); v ((b2sA σ (e x)).map .str)⟩
  | .lenStr x => ⟨fun env σ => let e := env.ev; (match e x with | .str s => some (.int .i64 s.size, σ) | _ => none)⟩
  | .lenS x => ⟨fun env σ => let e := env.ev; let v (x : Option AVal) : Option (AVal × AHeap) := x.map (·, σ); v ((lenOfS (e x)).map fun n : Nat => .int .i64 (n : Int))⟩
  | .lenM x => ⟨fun env σ => let e := env.ev; let v (x : Option AVal) : Option (AVal × AHeap) := x.map (·, σ); v ((mapLen σ (e x)).map fun n : Nat => .int .i64 (n : Int))⟩
  | .lenA n => ⟨fun env σ => some (.int .i64 n, σ)⟩
  | .app m bytes s x => ⟨fun env σ => let e := env.ev; appA σ m bytes (e s) (e x)⟩
  | .cpy m d s => ⟨fun env σ => let e := env.ev; cpyA σ m (e d) (e s)⟩
  | .mx xs => ⟨fun env σ => let e := env.ev; let v (x : Option AVal) : Option (AVal × AHeap) := x.map (·, σ); (match xs with | [] => none | x :: rest => v (foldO maxI (rest.map e) (e x)))⟩
  | .mn xs => ⟨fun env σ => let e := env.ev; let v (x : Option AVal) : Option (AVal × AHeap) := x.map (·, σ); (match xs with | [] => none | x :: rest => v (foldO minI (rest.map e) (e x)))⟩
  | _ => ⟨fun _ _ => none⟩
theorem opW_eq {o : AOp} {env : AEnv} {σ : AHeap} : (opW o).run env σ = opA o env σ := by cases o <;> rfl
structure NmR where
  run : Nat → AEnv → Nat
def nmW (o : AOp) : NmR :=
  match o with
  | .store _ a _ => ⟨fun d env => nameV d (env.ev a)⟩
  | .upd _ m _ _ => ⟨fun d env => nameV d (env.ev m)⟩
  | .nextStr x => ⟨fun d env => nameV d (env.ev x)⟩
  | .app _ _ s _ => ⟨fun d env => nameV d (env.ev s)⟩
  | .cpy _ d' _ => ⟨fun d env => nameV d (env.ev d')⟩
  | _ => ⟨fun d _ => d⟩
theorem nmW_eq {o : AOp} {d : Nat} {env : AEnv} : (nmW o).run d env = nmOf d env o := by cases o <;> rfl
def exOpI (σ1 : AHeap) (v : AVal) (N : Nat) (h : XH) : Option (AVal × XH) :=
  match h with
  | ⟨H0, nx, lo⟩ => match XH.upd ⟨H0, nx, lo⟩ N (σ1.objs N) with
    | none => none
    | some ⟨H1, _, lo1⟩ => match H1.set 64 nx (σ1.objs nx) with
      | none => none
      | some H2 => some (v, ⟨H2, Bool.rec (motive := fun _ => Nat) σ1.next nx (Nat.beq σ1.next nx), lo1⟩)
theorem exOpI_eq {σ1 : AHeap} {v : AVal} {N : Nat} {h : XH} : exOpI σ1 v N h = (match h.upd N (σ1.objs N) with
    | none => none
    | some h1 => match h1.H.set 64 h.nx (σ1.objs h.nx) with
      | none => none
      | some H2 => some (v, ⟨H2, σ1.next, h1.lo⟩)) := by
  obtain ⟨H0, nx, lo⟩ := h
  have e : ∀ a b : Nat, Bool.rec (motive := fun _ => Nat) a b (Nat.beq a b) = a := by
    intro a b
    cases hb : Nat.beq a b with
    | true => exact (Nat.eq_of_beq_eq_true hb).symm
    | false => rfl
  simp only [exOpI, e]
  cases XH.upd ⟨H0, nx, lo⟩ N (σ1.objs N) with
  | none => rfl
  | some h1 => rfl
def exOpA (p : Bool) (o : AOp) (env : AEnv) (h : XH) : Option (AVal × AHeap) → Option (AVal × XH)
  | none => none
  | some (v, σ1) => Bool.rec (motive := fun _ => Option (AVal × XH)) (exOpI σ1 v ((nmW o).run h.nx env) h) (some (v, h)) p
def exOp (o : AOp) (n : Nat) (E : XE) (h : XH) : Option (AVal × XH) :=
  exOpA (pureOp o) o (envX n E) h ((opW o).run (envX n E) h.toA)
theorem exOp_eq {o : AOp} {n : Nat} {E : XE} {h : XH} : exOp o n E h = (match opA o (envX n E) h.toA with
  | none => none
  | some (v, σ1) => bif pureOp o then some (v, h) else
    match h.upd (nmOf h.nx (envX n E) o) (σ1.objs (nmOf h.nx (envX n E) o)) with
    | none => none
    | some h1 => match h1.H.set 64 h.nx (σ1.objs h.nx) with
      | none => none
      | some H2 => some (v, ⟨H2, σ1.next, h1.lo⟩)) := by
  unfold exOp
  rw [opW_eq]
  cases opA o (envX n E) h.toA with
  | none => rfl
  | some r =>
    obtain ⟨v, σ1⟩ := r
    simp only [exOpA, nmW_eq, exOpI_eq]
    cases pureOp o <;> rfl
theorem exOp_spec {o : AOp} {n : Nat} {E : XE} {h h' : XH} {v : AVal} (hx : exOp o n E h = some (v, h')) : opA o (envX n E) h.toA = some (v, h'.toA) ∧ Pres h h' ∧ (pureOp o = true → h' = h) := by
  rw [exOp_eq] at hx
  split at hx
  · cases hx
  · rename_i v1 σ1 ho
    by_cases hp : pureOp o = true
    · rw [hp] at hx; cases hx
      refine ⟨by rw [ho, opA_pure hp ho], .refl _, fun _ => rfl⟩
    · rw [Bool.not_eq_true] at hp
      rw [hp] at hx
      simp only [cond_false] at hx
      split at hx
      · cases hx
      · rename_i h1 hu
        split at hx
        · cases hx
        · rename_i H2 hH
          cases hx
          obtain ⟨d1, d2⟩ := opA_delta ho
          obtain ⟨u1, u2, u3, u4⟩ := XH.upd_spec hu
          have g := Trie.set_get _ _ _ _ _ hH
          have hob : ∀ M, H2.get M = σ1.objs M := fun M => by
            rw [g]
            by_cases hM : M = h.nx
            · rw [if_pos hM, hM]
            · rw [if_neg hM]
              have : h1.H.get M = h1.toA.objs M := rfl
              rw [this, u2]
              by_cases hN : M = nmOf h.nx (envX n E) o
              · rw [if_pos hN, hN]
              · rw [if_neg hN]; exact (d2 M hN hM).symm
          refine ⟨?_, ⟨d1, u3, fun N hN hlo => ?_⟩, fun h => by rw [hp] at h; cases h⟩
          · rw [ho]
            have : (⟨H2, σ1.next, h1.lo⟩ : XH).toA = σ1 := by
              show AHeap.mk (fun N => H2.get N) σ1.next = σ1
              have e : (fun N => H2.get N) = σ1.objs := funext hob
              rw [e]
            rw [this]
          · show H2.get N = _
            have hlo' : N < h1.lo := hlo
            rw [hob]
            exact d2 N (show N ≠ nmOf h.nx (envX n E) o by omega) (show N ≠ h.nx by omega)
structure TgR where
  run : AEnv → Option (AVal × List AVal)
def tgW (P : Program) (o : AOp) : TgR :=
  match o with
  | .callF f xs => ⟨fun env => some (.func (.func f) [] [], xs.map env.ev)⟩
  | .callV f xs => ⟨fun env => some (env.ev f, xs.map env.ev)⟩
  | .callI x m xs => ⟨fun env => match env.ev x with
    | .iface t v => match methOf P t m with | some f => some (.func (.func f) [] [], v :: xs.map env.ev) | none => none
    | _ => none⟩
  | _ => ⟨fun _ => none⟩
def callTgt (P : Program) (o : AOp) (env : AEnv) : Option (AVal × List AVal) := (tgW P o).run env
theorem callTgt_spec {P : Program} {o : AOp} {env : AEnv} {f : AVal} {zs : List AVal} {σ : AHeap} {K X : AVal → AHeap → Prop} (h : callTgt P o env = some (f, zs)) (hr : RunV P f zs σ (outK K X)) : OpW P o env σ K X := by
  cases o <;> simp only [callTgt, tgW] at h <;> first | (cases h; done) | skip
  case callF => cases h; exact hr
  case callV => cases h; exact hr
  case callI x m xs =>
    split at h
    · rename_i t v he
      split at h
      · rename_i g hg
        cases h
        simp only [OpW]
        rw [he]
        exact RunI.meth hg hr
      · cases h
    · cases h
theorem OpW_opA {P : Program} {o : AOp} {env : AEnv} {σ σ' : AHeap} {v : AVal} {K X : AVal → AHeap → Prop} (h : opA o env σ = some (v, σ')) (hk : K v σ') : OpW P o env σ K X := by
  cases o <;> first | (simp only [opA] at h; cases h; done) | (simp only [OpW, h]; exact hk)
def exOpK (call : CT) (h : XH) : Option (AVal × List AVal) → Option (AVal × XH)
  | some (f, zs) => call f zs h
  | none => none
def exOpC (P : Program) (call : CT) (o : AOp) (n : Nat) (E : XE) (h : XH) : Option (AVal × XH) :=
  Bool.rec (motive := fun _ => Option (AVal × XH)) (exOp o n E h) (exOpK call h (callTgt P o (envX n E))) (isCall o)
def mapO (f : AVal → Option AVal) : List AVal → Option (List AVal)
  | [] => some []
  | v :: vs => match f v with
    | some v' => (match mapO f vs with | some vs' => some (v' :: vs') | none => none)
    | none => none
def rowsO (f : AVal → Option AVal) : List (List AVal) → Option (List (List AVal))
  | [] => some []
  | r :: rs => match mapO f r with
    | some r' => (match rowsO f rs with | some rs' => some (r' :: rs') | none => none)
    | none => none
def oneO : Option AVal → Option AVal
  | some v => bif v.one then some v else none
  | none => none
def frzV (h : XH) (n0 : Nat) : Nat → AVal → Option AVal
  | 0, _ => none
  | d + 1, v => bif scal v then some v else (match v with
    | .agg cs => (match mapO (frzV h n0 d) cs with | some cs' => some (.agg cs') | none => none)
    | .tup cs => (match mapO (frzV h n0 d) cs with | some cs' => some (.tup cs') | none => none)
    | .ms m N i len ex => bif Nat.ble n0 N then (match h.H.get N with
      | some (.cells m' rows) => bif Nat.beq m' m then (match rowsO (fun x => oneO (frzV h n0 d x)) rows with | some rows' => some (.rs m rows' i len ex) | none => none) else none
      | _ => none) else none
    | _ => none)
theorem mapO_spec {f : AVal → Option AVal} : ∀ (l l' : List AVal), mapO f l = some l' → l'.length = l.length ∧ ∀ (i : Nat) v v', l[i]? = some v → l'[i]? = some v' → f v = some v' := by
  intro l
  induction l with
  | nil => intro l' h; cases h; exact ⟨rfl, fun i v v' h => by simp at h⟩
  | cons a l ih =>
    intro l' h
    simp only [mapO] at h
    split at h
    · rename_i a' ha
      split at h
      · rename_i t ht
        cases h
        obtain ⟨h1, h2⟩ := ih _ ht
        refine ⟨by simp [h1], fun i v v' hv hv' => ?_⟩
        cases i with
        | zero => simp at hv hv'; subst hv; subst hv'; exact ha
        | succ i => exact h2 i v v' (by simpa using hv) (by simpa using hv')
      · cases h
    · cases h
theorem rowsO_spec {f : AVal → Option AVal} : ∀ (l l' : List (List AVal)), rowsO f l = some l' → (∀ j : Nat, (l'[j]?).map List.length = (l[j]?).map List.length) ∧ ∀ j q v v', cellAt l j q = some v → cellAt l' j q = some v' → f v = some v' := by
  intro l
  induction l with
  | nil => intro l' h; cases h; exact ⟨fun j => rfl, fun j q v v' h => by simp [cellAt] at h⟩
  | cons a l ih =>
    intro l' h
    simp only [rowsO] at h
    split at h
    · rename_i a' ha
      split at h
      · rename_i t ht
        cases h
        obtain ⟨h1, h2⟩ := ih _ ht
        obtain ⟨g1, g2⟩ := mapO_spec _ _ ha
        refine ⟨fun j => ?_, fun j q v v' hv hv' => ?_⟩
        · cases j with
          | zero => simp [g1]
          | succ j => simpa using h1 j
        · cases j with
          | zero => simp [cellAt] at hv hv'; exact g2 q v v' hv hv'
          | succ j => exact h2 j q v v' (by simpa [cellAt] using hv) (by simpa [cellAt] using hv')
      · cases h
    · cases h
theorem oneO_spec {o : Option AVal} {v : AVal} (h : oneO o = some v) : o = some v ∧ v.one = true := by
  cases o with
  | none => cases h
  | some w =>
    cases hb : w.one with
    | true => simp only [oneO, hb, cond_true] at h; cases h; exact ⟨rfl, hb⟩
    | false => simp only [oneO, hb, cond_false] at h; cases h
theorem rowsO_at {f : AVal → Option AVal} {l l' : List (List AVal)} (h : rowsO f l = some l') {j q : Nat} {v' : AVal} (hv : cellAt l' j q = some v') : ∃ v, cellAt l j q = some v ∧ f v = some v' := by
  obtain ⟨h1, h2⟩ := rowsO_spec _ _ h
  have : ∃ v, cellAt l j q = some v := by
    simp only [cellAt, Option.bind_eq_some_iff] at hv ⊢
    obtain ⟨r', hr', hq⟩ := hv
    have := h1 j
    rw [hr'] at this
    cases hr : l[j]? with
    | none => rw [hr] at this; simp at this
    | some r =>
      rw [hr] at this
      simp at this
      have hlt := (List.getElem?_eq_some_iff.1 hq).1
      exact ⟨r[q], r, rfl, List.getElem?_eq_getElem (by omega)⟩
  obtain ⟨v, hv1⟩ := this
  exact ⟨v, hv1, h2 _ _ _ _ hv1 hv⟩
theorem frzV_spec {h : XH} {n0 : Nat} : ∀ (d : Nat) (v v' : AVal), frzV h n0 d v = some v' → Frz h.toA n0 v v' := by
  intro d
  induction d with
  | zero => intro v v' h; cases h
  | succ d ih =>
    intro v v' hx
    unfold frzV at hx
    cases hs : scal v with
    | true => rw [hs] at hx; cases hx; exact scal_frz v hs
    | false =>
      rw [hs] at hx
      simp only [cond_false] at hx
      split at hx
      · split at hx
        · rename_i cs' hm
          cases hx
          obtain ⟨h1, h2⟩ := mapO_spec _ _ hm
          exact .agg h1 fun i v v' a b => ih _ _ (h2 i v v' a b)
        · cases hx
      · split at hx
        · rename_i cs' hm
          cases hx
          obtain ⟨h1, h2⟩ := mapO_spec _ _ hm
          exact .tup h1 fun i v v' a b => ih _ _ (h2 i v v' a b)
        · cases hx
      · rename_i m N i len ex
        by_cases hn : Nat.ble n0 N = true
        · rw [hn] at hx
          simp only [cond_true] at hx
          split at hx
          · rename_i m' rows hg
            by_cases hm : Nat.beq m' m = true
            · rw [hm] at hx
              simp only [cond_true] at hx
              split at hx
              · rename_i rows' hr
                cases hx
                obtain rfl := Nat.eq_of_beq_eq_true hm
                obtain ⟨h1, h2⟩ := rowsO_spec _ _ hr
                refine .ms (by rwa [Nat.ble_eq] at hn) (show h.H.get N = _ from hg) h1 (fun j q v v' a b => ih _ _ (oneO_spec (h2 j q v v' a b)).1) (fun j q v' hv => ?_)
                obtain ⟨v, _, hv2⟩ := rowsO_at hr hv
                exact (oneO_spec hv2).2
              · cases hx
            · rw [Bool.not_eq_true] at hm; rw [hm] at hx; cases hx
          · cases hx
        · rw [Bool.not_eq_true] at hn; rw [hn] at hx; cases hx
      · cases hx
def exOpQ (P : Program) (call : CT) (q : Bool) (o : AOp) (n : Nat) (E : XE) (h : XH) : Option (AVal × XH) :=
  bif q && isCall o then
    match callTgt P o (envX n E) with
    | some (f, zs) => (match call f zs ⟨h.H, h.nx, h.nx⟩ with
      | some (v, h') => bif Nat.ble h.nx h'.lo then (match frzV h' h.nx 20 v with | some v' => some (v', h) | none => none) else none
      | none => none)
    | none => none
  else exOpC P call o n E h
def SoundCT (P : Program) (call : CT) : Prop := ∀ f zs h v h', call f zs h = some (v, h') → Pres h h' ∧ RunV P f zs h.toA (fun o s => o = .ret v ∧ s = h'.toA)
section
variable {P : Program} {call : CT} (hcall : SoundCT P call) {n : Nat}
include hcall
theorem exOpC_sound {o : AOp} {E : XE} {h h' : XH} {v : AVal} (hx : exOpC P call o n E h = some (v, h')) : Pres h h' ∧ ∀ K X, K v h'.toA → OpW P o (envX n E) h.toA K X := by
  unfold exOpC at hx
  cases hi : isCall o with
  | true =>
    rw [hi] at hx
    have hx' : exOpK call h (callTgt P o (envX n E)) = some (v, h') := hx
    unfold exOpK at hx'
    split at hx'
    · rename_i f zs ht
      obtain ⟨h1, h2⟩ := hcall _ _ _ _ _ hx'
      exact ⟨h1, fun K X hk => callTgt_spec ht (h2.mono fun o s ⟨ho, hs⟩ => by subst ho; subst hs; exact hk)⟩
    · cases hx'
  | false =>
    rw [hi] at hx
    obtain ⟨h1, h2, _⟩ := exOp_spec (show exOp o n E h = some (v, h') from hx)
    exact ⟨h2, fun K X hk => OpW_opA h1 hk⟩
theorem exOpQ_sound {q : Bool} {o : AOp} {E : XE} {h h' : XH} {v : AVal} (hx : exOpQ P call q o n E h = some (v, h')) : Pres h h' ∧ (effOf q o = .rd → h' = h) ∧ ∀ K X, K v h'.toA → OpW P o (envX n E) h.toA K X := by
  unfold exOpQ at hx
  by_cases hq : (q && isCall o) = true
  · rw [hq] at hx
    simp only [cond_true] at hx
    split at hx
    · rename_i f zs ht
      split at hx
      · rename_i v1 h1 hc
        by_cases hb : Nat.ble h.nx h1.lo = true
        · rw [hb] at hx
          simp only [cond_true] at hx
          split at hx
          · rename_i v2 hf
            cases hx
            rw [Nat.ble_eq] at hb
            obtain ⟨p, r⟩ := hcall _ _ _ _ _ hc
            refine ⟨.refl _, fun _ => rfl, fun K X hk => callTgt_spec ht (RunV.pure (r.mono fun o s ⟨ho, hs⟩ => ?_))⟩
            subst ho; subst hs
            exact ⟨_, _, rfl, frzV_spec _ _ _ hf, fun N o hN hx => (p.2.2 N hN (Nat.lt_of_lt_of_le hN hb)).trans hx, hk⟩
          · cases hx
        · rw [Bool.not_eq_true] at hb; rw [hb] at hx; cases hx
      · cases hx
    · cases hx
  · have hq' := hq
    rw [Bool.not_eq_true] at hq
    rw [hq] at hx
    simp only [cond_false] at hx
    obtain ⟨h1, h2⟩ := exOpC_sound hcall hx
    refine ⟨h1, fun he => ?_, h2⟩
    unfold exOpC at hx
    cases hi : isCall o with
    | true =>
      exfalso
      cases o <;> simp only [isCall] at hi <;> first | (cases hi; done) | skip
      all_goals
        simp only [isCall, Bool.and_true, Bool.not_eq_true] at hq'
        subst hq'
        cases he
    | false =>
      rw [hi] at hx
      refine (exOp_spec (show exOp o n E h = some (v, h') from hx)).2.2 ?_
      cases o <;> simp only [effOf] at he <;> first | rfl | (cases he; done) | (split at he <;> cases he; done) | skip
end
def stepB (ih : XE → XH → Option (XE × XH)) (h1 : XH) : Option XE → Option (XE × XH)
  | some E1 => ih E1 h1
  | none => none
def stepA (d : Option Nat) (ih : XE → XH → Option (XE × XH)) (E : XE) : Option (AVal × XH) → Option (XE × XH)
  | some (v, h1) => stepB ih h1 (E.put d v)
  | none => none
def stepG (P : Program) (call : CT) (n : Nat) (o : AOper) (ih : XE → XH → Option (XE × XH)) (E : XE) (h : XH) : Option Bool → Option (XE × XH)
  | some b => Bool.rec (motive := fun _ => Option (XE × XH)) (stepB ih h (E.put o.dst (.tup []))) (stepA o.dst ih E (exOpC P call o.op n E h)) b
  | none => none
def exOps (P : Program) (call : CT) (n : Nat) (l : List AOper) : XE → XH → Option (XE × XH) :=
  List.rec (motive := fun _ => XE → XH → Option (XE × XH)) (fun E h => some (E, h))
    (fun o _ ih E h => stepG P call n o ih E h (gOk o.guard (envX n E))) l
theorem exOps_cons {P : Program} {call : CT} {n : Nat} {o : AOper} {os : List AOper} {E : XE} {h : XH} : exOps P call n (o :: os) E h = (match gOk o.guard (envX n E) with
    | some true => (match exOpC P call o.op n E h with
      | some (v, h1) => (match E.put o.dst v with | some E1 => exOps P call n os E1 h1 | none => none)
      | none => none)
    | some false => (match E.put o.dst (.tup []) with | some E1 => exOps P call n os E1 h | none => none)
    | none => none) := by
  show stepG P call n o (exOps P call n os) E h (gOk o.guard (envX n E)) = _
  cases gOk o.guard (envX n E) with
  | none => rfl
  | some b =>
    cases b with
    | false => simp only [stepG]; cases E.put o.dst (.tup []) <;> rfl
    | true =>
      simp only [stepG]
      cases exOpC P call o.op n E h with
      | none => rfl
      | some r => obtain ⟨v, h1⟩ := r; simp only [stepA]; cases E.put o.dst v <;> rfl
def exDr (P : Program) (call : CT) (n : Nat) (q : List Nat) : Nat → List AOper → XE → XH → Option (XE × XH)
  | _, [], E, h => some (E, h)
  | i, o :: os, E, h => match gOk o.guard (envX n E) with
    | some true => (match exOpQ P call (q.contains i) o.op n E h with
      | some (v, h1) => (match E.put o.dst v with | some E1 => exDr P call n q (i + 1) os E1 h1 | none => none)
      | none => none)
    | some false => (match E.put o.dst (.tup []) with | some E1 => exDr P call n q (i + 1) os E1 h | none => none)
    | none => none
section
variable {P : Program} {call : CT} (hcall : SoundCT P call) {n : Nat}
include hcall
theorem exOps_sound {rd : Option Nat} : ∀ (l : List AOper) (E : XE) (h : XH) (E' : XE) (h' : XH), exOps P call n l E h = some (E', h') →
    Pres h h' ∧ ∀ Q : AExit → AEnv → AHeap → Prop, Q .normal (envX n E') h'.toA → wpOps P rd l (envX n E) h.toA Q := by
  intro l
  induction l with
  | nil => intro E h E' h' hx; cases hx; exact ⟨.refl _, fun Q hQ => hQ⟩
  | cons o os ih =>
    intro E h E' h' hx
    rw [exOps_cons] at hx
    split at hx
    · rename_i hg
      split at hx
      · rename_i v h1 ho
        split at hx
        · rename_i E1 hE
          obtain ⟨p2, w2⟩ := ih _ _ _ _ hx
          obtain ⟨p1, w1⟩ := exOpC_sound hcall ho
          refine ⟨p1.trans p2, fun Q hQ => ?_⟩
          simp only [wpOps, hg]
          have hnd : ∀ f args, o.op ≠ .dfr f args := fun f args hd => by
            rw [hd] at ho
            simp [exOpC, exOpK, callTgt, tgW, exOp_eq, opA, isCall] at ho
          have hgoal := w1 (fun v σ' => wpOps P rd os ((envX n E).put o.dst v) σ' Q) (fun v σ' => Q (.panic v) (envX n E) σ') (by rw [← XE.put_env hE]; exact w2 Q hQ)
          unfold wpOne
          split
          · rename_i f args hd; exact absurd hd (hnd f args)
          · exact hgoal
        · cases hx
      · cases hx
    · rename_i hg
      split at hx
      · rename_i E1 hE
        obtain ⟨p2, w2⟩ := ih _ _ _ _ hx
        refine ⟨p2, fun Q hQ => ?_⟩
        simp only [wpOps, hg]
        rw [← XE.put_env hE]
        exact w2 Q hQ
      · cases hx
    · cases hx
theorem exDr_sound {q : List Nat} {ps : Nat → Nat → Bool} : ∀ (l : List AOper) (i : Nat) (E : XE) (h : XH) (E' : XE) (h' : XH), exDr P call n q i l E h = some (E', h') →
    Pres h h' ∧ ∀ (past : List (Nat × AHeap)) (K : AEnv → AHeap → Prop) (X : Nat → AVal → AHeap → Prop), K (envX n E') h'.toA → wpDr P q [] ps i l (envX n E) h.toA past [] K X := by
  intro l
  induction l with
  | nil => intro i E h E' h' hx; cases hx; exact ⟨.refl _, fun _ K X hK => hK⟩
  | cons o os ih =>
    intro i E h E' h' hx
    have hst : isSt q [] i o = false := rfl
    simp only [exDr] at hx
    split at hx
    · rename_i hg
      split at hx
      · rename_i v h1 ho
        split at hx
        · rename_i E1 hE
          obtain ⟨p2, w2⟩ := ih _ _ _ _ _ hx
          obtain ⟨p1, k1, w1⟩ := exOpQ_sound hcall ho
          refine ⟨p1.trans p2, fun past K X hK => ?_⟩
          simp only [wpDr, hg]
          refine w1 _ _ ⟨fun he => by rw [k1 he], fun h => (by rw [hst] at h; cases h), fun _ p hp => (by cases hp), ?_⟩
          rw [hst, ← XE.put_env hE]
          exact w2 _ K X hK
        · cases hx
      · cases hx
    · rename_i hg
      split at hx
      · rename_i E1 hE
        obtain ⟨p2, w2⟩ := ih _ _ _ _ _ hx
        refine ⟨p2, fun past K X hK => ?_⟩
        simp only [wpDr, hg]
        refine ⟨fun _ p hp => (by cases hp), ?_⟩
        rw [← XE.put_env hE]
        exact w2 _ K X hK
      · cases hx
    · cases hx
end
end
end Go.Tc
namespace Go.Tc
set_option linter.unusedSimpArgs false
set_option linter.unusedVariables false
noncomputable section
mutual
def eqV : AVal → AVal → Bool
  | .bool a, .bool b => a == b
  | .int k n, .int k' n' => decide (k = k') && decide (n = n')
  | .str s, .str t => decide (s = t)
  | .nilP, .nilP => true
  | .nilS, .nilS => true
  | .nilM, .nilM => true
  | .nilF, .nilF => true
  | .nilI, .nilI => true
  | .ptr N i k, .ptr N' i' k' => Nat.beq N N' && (Nat.beq i i' && Nat.beq k k')
  | .ms m N i l e, .ms m' N' i' l' e' => Nat.beq m m' && (Nat.beq N N' && (Nat.beq i i' && (Nat.beq l l' && (e == e'))))
  | .map N, .map N' => Nat.beq N N'
  | .iter N, .iter N' => Nat.beq N N'
  | .iface t v, .iface t' v' => decide (t = t') && eqV v v'
  | .func (.func f) a b, .func (.func f') a' b' => decide (f = f') && (eqVs a a' && eqVs b b')
  | .agg a, .agg b => eqVs a b
  | .tup a, .tup b => eqVs a b
  | _, _ => false
def eqVs : List AVal → List AVal → Bool
  | [], [] => true
  | a :: zs, b :: bs => eqV a b && eqVs zs bs
  | _, _ => false
end
mutual
theorem eqV_spec : ∀ a b, eqV a b = true → a = b
  | .bool a, b, h => by cases b <;> simp only [eqV] at h <;> first | (cases h; done) | (rw [eq_of_beq h])
  | .int k n, b, h => by cases b <;> simp only [eqV, Bool.and_eq_true, decide_eq_true_eq] at h <;> first | (cases h; done) | (rw [h.1, h.2])
  | .str s, b, h => by cases b <;> simp only [eqV, decide_eq_true_eq] at h <;> first | (cases h; done) | (rw [h])
  | .nilP, b, h => by cases b <;> simp only [eqV] at h <;> first | (cases h; done) | rfl
  | .nilS, b, h => by cases b <;> simp only [eqV] at h <;> first | (cases h; done) | rfl
  | .nilM, b, h => by cases b <;> simp only [eqV] at h <;> first | (cases h; done) | rfl
  | .nilF, b, h => by cases b <;> simp only [eqV] at h <;> first | (cases h; done) | rfl
  | .nilI, b, h => by cases b <;> simp only [eqV] at h <;> first | (cases h; done) | rfl
  | .ptr N i k, b, h => by
    cases b <;> simp only [eqV, Bool.and_eq_true, Nat.beq_eq] at h <;> first | (cases h; done) | (obtain ⟨rfl, rfl, rfl⟩ := h; rfl)
  | .ms m N i l e, b, h => by
    cases b <;> simp only [eqV, Bool.and_eq_true, Nat.beq_eq, beq_iff_eq] at h <;> first | (cases h; done) | (obtain ⟨rfl, rfl, rfl, rfl, rfl⟩ := h; rfl)
  | .map N, b, h => by cases b <;> simp only [eqV, Nat.beq_eq] at h <;> first | (cases h; done) | (rw [h])
  | .iter N, b, h => by cases b <;> simp only [eqV, Nat.beq_eq] at h <;> first | (cases h; done) | (rw [h])
  | .iface t v, b, h => by
    cases b <;> simp only [eqV, Bool.and_eq_true, decide_eq_true_eq] at h <;> first | (cases h; done) | skip
    rw [h.1, eqV_spec _ _ h.2]
  | .func fn x y, b, h => by
    cases fn with
    | func f => cases b with
      | func fn' x' y' => cases fn' with
        | func f' =>
          simp only [eqV, Bool.and_eq_true, decide_eq_true_eq] at h
          rw [h.1, eqVs_spec _ _ h.2.1, eqVs_spec _ _ h.2.2]
        | _ => unfold eqV at h; cases h
      | _ => unfold eqV at h; cases h
    | _ => unfold eqV at h; cases h
  | .agg a, b, h => by
    cases b <;> simp only [eqV] at h <;> first | (cases h; done) | skip
    rw [eqVs_spec _ _ h]
  | .tup a, b, h => by
    cases b <;> simp only [eqV] at h <;> first | (cases h; done) | skip
    rw [eqVs_spec _ _ h]
  | .rptr .., b, h => by cases b <;> simp only [eqV] at h <;> cases h
  | .rs .., b, h => by cases b <;> simp only [eqV] at h <;> cases h
  | .mi .., b, h => by cases b <;> simp only [eqV] at h <;> cases h
  | .ri .., b, h => by cases b <;> simp only [eqV] at h <;> cases h
  | .yield _, b, h => by cases b <;> simp only [eqV] at h <;> cases h
  | .junk, b, h => by cases b <;> simp only [eqV] at h <;> cases h
theorem eqVs_spec : ∀ a b, eqVs a b = true → a = b
  | [], [], _ => rfl
  | [], _ :: _, h => by simp only [eqVs] at h; cases h
  | _ :: _, [], h => by simp only [eqVs] at h; cases h
  | a :: zs, b :: bs, h => by
    simp only [eqVs, Bool.and_eq_true] at h
    rw [eqV_spec _ _ h.1, eqVs_spec _ _ h.2]
end
def sameX (P : Program) (call : CT) (q : Bool) (o : AOp) (n : Nat) (E : XE) (h : XH) (v : AVal) : Bool :=
  match effOf q o with
  | .rd => (match exOpQ P call q o n E h with | some (v', _) => eqV v' v | none => false)
  | _ => false
theorem sameX_spec {P : Program} {call : CT} (hcall : SoundCT P call) {q : Bool} {o : AOp} {n : Nat} {E : XE} {h : XH} {v : AVal} (hx : sameX P call q o n E h v = true) : Same P o (envX n E) h.toA v := by
  unfold sameX at hx
  split at hx
  · rename_i he
    split at hx
    · rename_i v' h' ho
      obtain ⟨_, k, w⟩ := exOpQ_sound hcall ho
      exact w _ _ ⟨eqV_spec _ _ hx, by rw [k he]⟩
    · cases hx
  · cases hx
def isWr (q : Bool) (o : AOp) : Bool := match effOf q o with | .wr => true | _ => false
theorem isWr_spec {q : Bool} {o : AOp} : isWr q o = true ↔ effOf q o = .wr := by
  unfold isWr
  split
  · rename_i h; simp [h]
  · rename_i h; simp; exact h
abbrev Pend := List (Nat × AOp × XE × AVal)
def pendOk (P : Program) (call : CT) (n : Nat) (q : List Nat) (ps : Nat → Nat → Bool) (k : Nat) (h : XH) (pend : Pend) : Bool :=
  pend.all fun p => bif ps p.1 k then sameX P call (q.contains p.1) p.2.1 n p.2.2.1 h p.2.2.2 else true
def exDs (P : Program) (call : CT) (n : Nat) (q st : List Nat) (ps : Nat → Nat → Bool) : Nat → List AOper → XE → XH → List (Nat × XH) → Pend → Option (XE × XH)
  | _, [], E, h, _, _ => some (E, h)
  | i, o :: os, E, h, past, pend => match gOk o.guard (envX n E) with
    | some true => (match exOpQ P call (q.contains i) o.op n E h with
      | some (v, h1) => bif (bif isSt q st i o then past.all (fun p => bif ps i p.1 then sameX P call (q.contains i) o.op n E p.2 v else true) else true) &&
            (bif isWr (q.contains i) o.op then pendOk P call n q ps (i + 1) h1 pend else true) then
          (match E.put o.dst v with
          | some E1 => exDs P call n q st ps (i + 1) os E1 h1 (bif isWr (q.contains i) o.op then (i + 1, h1) :: past else past) (bif isSt q st i o then (i, o.op, E, v) :: pend else pend)
          | none => none)
        else none
      | none => none)
    | some false => bif (bif isWr (q.contains i) o.op then pendOk P call n q ps (i + 1) h pend else true) then
        (match E.put o.dst (.tup []) with
        | some E1 => exDs P call n q st ps (i + 1) os E1 h (bif isWr (q.contains i) o.op then (i + 1, h) :: past else past) pend
        | none => none)
      else none
    | none => none
def pastA (past : List (Nat × XH)) : List (Nat × AHeap) := past.map fun p => (p.1, p.2.toA)
def pendA' (n : Nat) (pend : Pend) : List (Nat × AOp × AEnv × AVal) := pend.map fun p => (p.1, p.2.1, envX n p.2.2.1, p.2.2.2)
section
variable {P : Program} {call : CT} (hcall : SoundCT P call) {n : Nat}
include hcall
theorem pendOk_spec {q : List Nat} {ps : Nat → Nat → Bool} {k : Nat} {h : XH} {pend : Pend} (hx : pendOk P call n q ps k h pend = true) : ∀ p ∈ pendA' n pend, ps p.1 k = true → Same P p.2.1 p.2.2.1 h.toA p.2.2.2 := by
  intro p hp hps
  simp only [pendA', List.mem_map] at hp
  obtain ⟨p', hp', rfl⟩ := hp
  have := List.all_eq_true.1 hx p' hp'
  simp only at hps
  rw [hps] at this
  exact sameX_spec hcall this
theorem exDs_sound {q st : List Nat} {ps : Nat → Nat → Bool} : ∀ (l : List AOper) (i : Nat) (E : XE) (h : XH) (past : List (Nat × XH)) (pend : Pend) (E' : XE) (h' : XH), exDs P call n q st ps i l E h past pend = some (E', h') →
    Pres h h' ∧ ∀ (K : AEnv → AHeap → Prop) (X : Nat → AVal → AHeap → Prop), K (envX n E') h'.toA → wpDr P q st ps i l (envX n E) h.toA (pastA past) (pendA' n pend) K X := by
  intro l
  induction l with
  | nil => intro i E h past pend E' h' hx; cases hx; exact ⟨.refl _, fun K X hK => hK⟩
  | cons o os ih =>
    intro i E h past pend E' h' hx
    have hpast : ∀ hh : XH, (if effOf (q.contains i) o.op = .wr then (i + 1, hh.toA) :: pastA past else pastA past) = pastA (bif isWr (q.contains i) o.op then (i + 1, hh) :: past else past) := by
      intro hh
      by_cases hw : effOf (q.contains i) o.op = .wr
      · rw [if_pos hw, isWr_spec.2 hw]; rfl
      · have : isWr (q.contains i) o.op = false := by
          cases hb : isWr (q.contains i) o.op with
          | true => exact absurd (isWr_spec.1 hb) hw
          | false => rfl
        rw [if_neg hw, this]; rfl
    simp only [exDs] at hx
    split at hx
    · rename_i hg
      split at hx
      · rename_i v h1 ho
        generalize hc1 : (bif isSt q st i o then past.all (fun p => bif ps i p.1 then sameX P call (q.contains i) o.op n E p.2 v else true) else true) = c1 at hx
        generalize hc2 : (bif isWr (q.contains i) o.op then pendOk P call n q ps (i + 1) h1 pend else true) = c2 at hx
        cases c1 with
        | false => cases hx
        | true =>
          cases c2 with
          | false => cases hx
          | true =>
            simp only [Bool.and_self, cond_true] at hx
            split at hx
            · rename_i E1 hE
              obtain ⟨p2, w2⟩ := ih _ _ _ _ _ _ _ hx
              obtain ⟨p1, k1, w1⟩ := exOpQ_sound hcall ho
              refine ⟨p1.trans p2, fun K X hK => ?_⟩
              simp only [wpDr, hg]
              refine w1 _ _ ⟨fun he => by rw [k1 he], fun hst p hp hps => ?_, fun hw => ?_, ?_⟩
              · rw [hst] at hc1
                simp only [cond_true] at hc1
                simp only [pastA, List.mem_map] at hp
                obtain ⟨p', hp', rfl⟩ := hp
                have := List.all_eq_true.1 hc1 p' hp'
                simp only at hps
                rw [hps] at this
                exact sameX_spec hcall this
              · rw [isWr_spec.2 hw] at hc2
                exact pendOk_spec hcall hc2
              · rw [hpast h1, ← XE.put_env hE]
                have := w2 K X hK
                cases hs : isSt q st i o with
                | true => rw [hs] at this; exact this
                | false => rw [hs] at this; exact this
            · cases hx
      · cases hx
    · rename_i hg
      generalize hc2 : (bif isWr (q.contains i) o.op then pendOk P call n q ps (i + 1) h pend else true) = c2 at hx
      cases c2 with
      | false => cases hx
      | true =>
        simp only [cond_true] at hx
        split at hx
        · rename_i E1 hE
          obtain ⟨p2, w2⟩ := ih _ _ _ _ _ _ _ hx
          refine ⟨p2, fun K X hK => ?_⟩
          simp only [wpDr, hg]
          refine ⟨fun hw => ?_, ?_⟩
          · rw [isWr_spec.2 hw] at hc2
            exact pendOk_spec hcall hc2
          · rw [hpast h, ← XE.put_env hE]
            exact w2 K X hK
        · cases hx
    · cases hx
end
end
end Go.Tc
namespace Go.Tc
set_option linter.unusedSimpArgs false
set_option linter.unusedVariables false
noncomputable section
def callIx : Nat → List AOper → List Nat
  | _, [] => []
  | i, o :: os => bif isCall o.op then i :: callIx (i + 1) os else callIx (i + 1) os
def rdIx (calls : Bool) : Nat → List AOper → List Nat
  | _, [] => []
  | i, o :: os => bif isCall o.op then (bif calls then i :: rdIx calls (i + 1) os else rdIx calls (i + 1) os) else
      bif effOf false o.op == .rd then i :: rdIx calls (i + 1) os else rdIx calls (i + 1) os
def candDr (P : Program) (call : CT) (n : Nat) (l : List AOper) (q st : List Nat) (E : XE) (h : XH) : Option (XE × XH) :=
  bif drOk q st l then (match st with
    | [] => exDr P call n q 0 l E h
    | _ :: _ => exDs P call n q st (poss q l (ancs l [])) 0 l E h [(0, h)] [])
  else none
theorem XH.new_spec {h h' : XH} {o : AObj} (hu : h.new (some o) = some h') : h'.toA = h.toA.alloc o ∧ Pres h h' := by
  obtain ⟨H0, nx, lo⟩ := h
  simp only [XH.new] at hu
  split at hu
  · rename_i H hH
    cases hu
    have g := Trie.set_get _ _ _ _ _ hH
    refine ⟨?_, Nat.le_succ _, Nat.le_refl _, fun N (hN : N < nx) _ => by show H.get N = _; rw [g, if_neg (fun e => by subst e; exact absurd hN (Nat.lt_irrefl _))]; rfl⟩
    show AHeap.mk (fun N => H.get N) (nx + 1) = AHeap.mk _ (nx + 1)
    congr 1
    funext N
    rw [g]; rfl
  · cases hu
def ghX : XH → List AOper → Option XH
  | h, [] => some h
  | h, o :: os => match isGh o.op with
    | some z => (match h.new (some (.cells z.length [z])) with
      | some h' => ghX h' os
      | none => none)
    | none => ghX h os
theorem ghX_spec : ∀ (l : List AOper) (h h' : XH), ghX h l = some h' → h'.toA = ghH h.toA l ∧ Pres h h' := by
  intro l
  induction l with
  | nil => intro h h' hx; cases hx; exact ⟨rfl, .refl _⟩
  | cons o os ih =>
    intro h h' hx
    simp only [ghX] at hx
    unfold ghH
    cases hg : isGh o.op with
    | none => rw [hg] at hx; exact ih _ _ hx
    | some z =>
      rw [hg] at hx
      simp only at hx ⊢
      split at hx
      · rename_i h1 hn
        obtain ⟨e1, p1⟩ := XH.new_spec hn
        obtain ⟨e2, p2⟩ := ih _ _ hx
        rw [e1] at e2
        exact ⟨e2, p1.trans p2⟩
      · cases hx
def candG (P : Program) (call : CT) (n : Nat) (l : List AOper) (q st : List Nat) (E : XE) (h : XH) : Option (XE × XH) :=
  bif drOk q st (ghS l) then (match ghX h l with
    | none => none
    | some h1 => (match st with
      | [] => exDr P call n q 0 (ghL h.nx l) E h1
      | _ :: _ => exDs P call n q st (poss q (ghS l) (ancs (ghS l) [])) 0 (ghL h.nx l) E h1 [(0, h1)] []))
  else none
def tryDr (P : Program) (call : CT) (n : Nat) (l : List AOper) (E : XE) (h : XH) : Option (XE × XH) :=
  bif drOk [] [] l then candDr P call n l [] [] E h else
  bif drOk (callIx 0 l) [] l then candDr P call n l (callIx 0 l) [] E h else
  bif drOk [] (rdIx false 0 l) l then candDr P call n l [] (rdIx false 0 l) E h else
  bif drOk (callIx 0 l) (rdIx false 0 l) l then candDr P call n l (callIx 0 l) (rdIx false 0 l) E h else
  bif drOk (callIx 0 l) (rdIx true 0 l) l then candDr P call n l (callIx 0 l) (rdIx true 0 l) E h else
  bif drOk [] [] (ghS l) then candG P call n l [] [] E h else
  bif drOk [] (rdIx false 0 l) (ghS l) then candG P call n l [] (rdIx false 0 l) E h else
  bif drOk (callIx 0 l) [] (ghS l) then candG P call n l (callIx 0 l) [] E h else
  candG P call n l (callIx 0 l) (rdIx false 0 l) E h
def DrRes (P : Program) (n : Nat) (l : List AOper) (E : XE) (h : XH) (E' : XE) (h' : XH) : Prop :=
  Pres h h' ∧ ((∃ q st, drOk q st l = true ∧ ∀ (K : AEnv → AHeap → Prop) (X : Nat → AVal → AHeap → Prop), K (envX n E') h'.toA → wpDr P q st (poss q l (ancs l [])) 0 l (envX n E) h.toA [(0, h.toA)] [] K X) ∨
    ∃ q st, drOk q st (ghS l) = true ∧ ∀ (K : AEnv → AHeap → Prop) (X : Nat → AVal → AHeap → Prop), K (envX n E') h'.toA → wpDr P q st (poss q (ghS l) (ancs (ghS l) [])) 0 (ghL h.toA.next l) (envX n E) (ghH h.toA l) [(0, ghH h.toA l)] [] K X)
theorem candDr_sound {P : Program} {call : CT} (hcall : SoundCT P call) {n : Nat} {l : List AOper} {q st : List Nat} {E E' : XE} {h h' : XH} (hx : candDr P call n l q st E h = some (E', h')) : DrRes P n l E h E' h' := by
  unfold candDr at hx
  by_cases hd : drOk q st l = true
  · rw [hd] at hx
    simp only [cond_true] at hx
    split at hx
    · obtain ⟨p, w⟩ := exDr_sound hcall (ps := poss q l (ancs l [])) _ _ _ _ _ _ hx
      exact ⟨p, .inl ⟨q, [], hd, fun K X hK => w _ K X hK⟩⟩
    · obtain ⟨p, w⟩ := exDs_sound hcall _ _ _ _ _ _ _ _ hx
      exact ⟨p, .inl ⟨q, _, hd, fun K X hK => w K X hK⟩⟩
  · rw [Bool.not_eq_true] at hd; rw [hd] at hx; cases hx
theorem candG_sound {P : Program} {call : CT} (hcall : SoundCT P call) {n : Nat} {l : List AOper} {q st : List Nat} {E E' : XE} {h h' : XH} (hx : candG P call n l q st E h = some (E', h')) : DrRes P n l E h E' h' := by
  unfold candG at hx
  by_cases hd : drOk q st (ghS l) = true
  · rw [hd] at hx
    simp only [cond_true] at hx
    split at hx
    · cases hx
    · rename_i h1 hg
      obtain ⟨e1, p1⟩ := ghX_spec _ _ _ hg
      split at hx
      · obtain ⟨p, w⟩ := exDr_sound hcall (ps := poss q (ghS l) (ancs (ghS l) [])) _ _ _ _ _ _ hx
        refine ⟨p1.trans p, .inr ⟨q, [], hd, fun K X hK => ?_⟩⟩
        rw [← e1]
        exact w _ K X hK
      · obtain ⟨p, w⟩ := exDs_sound hcall _ _ _ _ _ _ _ _ hx
        refine ⟨p1.trans p, .inr ⟨q, _, hd, fun K X hK => ?_⟩⟩
        rw [← e1]
        exact w K X hK
  · rw [Bool.not_eq_true] at hd; rw [hd] at hx; cases hx
theorem cond_cases {α : Type} {c : Bool} {a b r : α} (h : (bif c then a else b) = r) : a = r ∨ b = r := by cases c <;> simp at h <;> simp [h]
theorem tryDr_sound {P : Program} {call : CT} (hcall : SoundCT P call) {n : Nat} {l : List AOper} {E E' : XE} {h h' : XH} (hx : tryDr P call n l E h = some (E', h')) : DrRes P n l E h E' h' := by
  unfold tryDr at hx
  rcases cond_cases hx with h1 | h1
  · exact candDr_sound hcall h1
  rcases cond_cases h1 with h1 | h1
  · exact candDr_sound hcall h1
  rcases cond_cases h1 with h1 | h1
  · exact candDr_sound hcall h1
  rcases cond_cases h1 with h1 | h1
  · exact candDr_sound hcall h1
  rcases cond_cases h1 with h1 | h1
  · exact candDr_sound hcall h1
  rcases cond_cases h1 with h1 | h1
  · exact candG_sound hcall h1
  rcases cond_cases h1 with h1 | h1
  · exact candG_sound hcall h1
  rcases cond_cases h1 with h1 | h1
  · exact candG_sound hcall h1
  · exact candG_sound hcall h1
def rdGood (rd : Option Nat) (h : XH) : Bool :=
  match rd with
  | none => true
  | some L => match h.H.get L with | some (.loop _) => true | _ => false
theorem rdGood_spec {rd : Option Nat} {h : XH} (hg : rdGood rd h = true) : ∀ L, rd = some L → ∃ lo, h.toA.objs L = some (.loop lo) := by
  intro L hL
  subst hL
  simp only [rdGood] at hg
  split at hg
  · rename_i lo he; exact ⟨lo, he⟩
  · cases hg
def exLoop (body : XE → XH → Option (AExit × XE × XH)) : Nat → XE → XH → Option (AExit × XE × XH)
  | 0, _, _ => none
  | k + 1, E, h => match body E h with
    | some (.normal, E1, h1) => exLoop body k E1 h1
    | r => r
def pendX : Option Code → Option AExit
  | none => some .normal
  | some .ret => some .ret
  | some (.exit id) => some (.exit id)
  | _ => none
theorem pendX_spec {c : Option Code} {e : AExit} (h : pendX c = some e) {Q : AExit → Prop} (hQ : Q e) : pendA c Q := by
  unfold pendX at h
  split at h <;> cases h <;> exact hQ
def dfrOp : List AOper → Option (Opnd × List Opnd)
  | [⟨none, .dfr f args, none, _⟩] => some (f, args)
  | _ => none
theorem dfrOp_spec {l : List AOper} {f : Opnd} {args : List Opnd} (h : dfrOp l = some (f, args)) : ∃ a, l = [⟨none, .dfr f args, none, a⟩] := by
  unfold dfrOp at h
  split at h
  · cases h; exact ⟨_, rfl⟩
  · cases h
def dfrE (n : Nat) (rd : Option Nat) (f : Opnd) (args : List Opnd) (E : XE) (h : XH) : Option (AExit × XE × XH) :=
  match rd with
  | none => (match (envX n E).ev f with
    | .func (.func g) first caps => some (.normal, ⟨E.tr, E.base, (.func (.func g) first caps, args.map (envX n E).ev) :: E.ds⟩, h)
    | _ => none)
  | some _ => none
def exCode (P : Program) (call : CT) (K n : Nat) (rd : Option Nat) : Code → XE → XH → Option (AExit × XE × XH)
  | .skip, E, h => some (.normal, E, h)
  | .exit id, E, h => some (.exit id, E, h)
  | .ret, E, h => some (.ret, E, h)
  | .region _ ops draw, E, h => match compOpers P n ops ops.toList with
    | none => none
    | some l => bif draw then
        (match tryDr P call n l E h with | some (E', h') => some (.normal, E', h') | none => none)
      else (match dfrOp l with
        | some (f, args) => dfrE n rd f args E h
        | none => (match exOps P call n l E h with | some (E', h') => some (.normal, E', h') | none => none))
  | .seq a b, E, h => match exCode P call K n rd a E h with
    | some (.normal, E1, h1) => exCode P call K n rd b E1 h1
    | r => r
  | .cond c a b, E, h => match cOpnd n c with
    | some c' => (match (envX n E).ev c' with
      | .bool t => bif t then exCode P call K n rd a E h else exCode P call K n rd b E h
      | _ => none)
    | none => none
  | .block id a, E, h => match exCode P call K n rd a E h with
    | some (.exit j, E1, h1) => bif Nat.beq j id then some (.normal, E1, h1) else some (.exit j, E1, h1)
    | r => r
  | .loop a, E, h => exLoop (exCode P call K n rd a) K E h
  | .rangeFunc f ps a b, E, h => match cOpnd n f with
    | some f' => (match (envX n E).ev f' with
      | .func (.func g) first caps => bif enters P g && rdGood rd h then
          (match h.new (some (newLoop (envX n E) ps a b)) with
          | some h1 => (match call (.func (.func g) first caps) [.yield h.nx] h1 with
            | some (_, h3) => (match h3.H.get h.nx with
              | some (.loop lo) => (match lo.state with
                | .busy => none
                | _ => (match pendX lo.pending with
                  | some e => (match h3.upd h.nx none with | some h4 => some (e, E, h4) | none => none)
                  | none => none))
              | _ => none)
            | none => none)
          | none => none)
        else none
      | _ => none)
    | none => none
  | .scope a, E, h => match exCode P call K n rd a E h with
    | some (.goto _, _, _) => none
    | r => r
  | .label _, E, h => some (.normal, E, h)
  | _, _, _ => none
abbrev CRes := Option (AExit × XE × XH)
structure CodeR where
  run : CT → Nat → Option Nat → XE → XH → CRes
def finK : Option (XE × XH) → CRes
  | some (E', h') => some (.normal, E', h')
  | none => none
def dfrW (P : Program) (n : Nat) (l : List AOper) : Option (Opnd × List Opnd) → CodeR
  | some (f, args) => ⟨fun _ _ rd E h => dfrE n rd f args E h⟩
  | none => ⟨fun call _ _ E h => finK (exOps P call n l E h)⟩
def regionW (P : Program) (n : Nat) (draw : Bool) : Option (List AOper) → CodeR
  | none => ⟨fun _ _ _ _ _ => none⟩
  | some l => Bool.rec (motive := fun _ => CodeR) (dfrW P n l (dfrOp l)) ⟨fun call _ _ E h => finK (tryDr P call n l E h)⟩ draw
def seqK (f : XE → XH → CRes) : CRes → CRes
  | some (.normal, E1, h1) => f E1 h1
  | r => r
def condK' (t f : CRes) : AVal → CRes
  | .bool b => Bool.rec (motive := fun _ => CRes) f t b
  | _ => none
def blockK (id : Nat) : CRes → CRes
  | some (.exit j, E1, h1) => bif Nat.beq j id then some (.normal, E1, h1) else some (.exit j, E1, h1)
  | r => r
def scopeK : CRes → CRes
  | some (.goto _, _, _) => none
  | r => r
def condW (a b : CodeR) (n : Nat) : Option Opnd → CodeR
  | none => ⟨fun _ _ _ _ _ => none⟩
  | some c' => ⟨fun call K rd E h => condK' (a.run call K rd E h) (b.run call K rd E h) ((envX n E).ev c')⟩
def codeW (P : Program) (n : Nat) : Code → CodeR
  | .skip => ⟨fun _ _ _ E h => some (.normal, E, h)⟩
  | .exit id => ⟨fun _ _ _ E h => some (.exit id, E, h)⟩
  | .ret => ⟨fun _ _ _ E h => some (.ret, E, h)⟩
  | .region _ ops draw => regionW P n draw (compOpers P n ops ops.toList)
  | .seq a b => ⟨fun call K rd E h => seqK (fun E1 h1 => (codeW P n b).run call K rd E1 h1) ((codeW P n a).run call K rd E h)⟩
  | .cond c a b => condW (codeW P n a) (codeW P n b) n (cOpnd n c)
  | .block id a => ⟨fun call K rd E h => blockK id ((codeW P n a).run call K rd E h)⟩
  | .loop a => ⟨fun call K rd E h => exLoop ((codeW P n a).run call K rd) K E h⟩
  | .rangeFunc f ps a b => ⟨fun call K rd E h => exCode P call K n rd (.rangeFunc f ps a b) E h⟩
  | .scope a => ⟨fun call K rd E h => scopeK ((codeW P n a).run call K rd E h)⟩
  | .label _ => ⟨fun _ _ _ E h => some (.normal, E, h)⟩
  | _ => ⟨fun _ _ _ _ _ => none⟩
theorem codeW_eq {P : Program} {n : Nat} : ∀ (c : Code) (call : CT) (K : Nat) (rd : Option Nat) (E : XE) (h : XH), (codeW P n c).run call K rd E h = exCode P call K n rd c E h := by
  intro c
  induction c with
  | skip => intros; rfl
  | exit id => intros; rfl
  | ret => intros; rfl
  | region id ops draw =>
    intro call K rd E h
    simp only [codeW, exCode]
    cases compOpers P n ops ops.toList with
    | none => rfl
    | some l =>
      cases draw with
      | true => simp only [regionW, cond_true]; cases tryDr P call n l E h <;> rfl
      | false =>
        simp only [regionW, cond_false]
        cases hd : dfrOp l with
        | none => simp only [dfrW]; cases exOps P call n l E h <;> rfl
        | some r => obtain ⟨f, args⟩ := r; rfl
  | seq a b iha ihb =>
    intro call K rd E h
    simp only [codeW, exCode, iha, ihb]
    cases exCode P call K n rd a E h with
    | none => rfl
    | some r => obtain ⟨e, E1, h1⟩ := r; cases e <;> rfl
  | cond c a b iha ihb =>
    intro call K rd E h
    simp only [codeW, exCode]
    cases cOpnd n c with
    | none => rfl
    | some c' =>
      simp only [condW, iha, ihb]
      cases (envX n E).ev c' with
      | bool t => cases t <;> rfl
      | _ => rfl
  | block id a ih =>
    intro call K rd E h
    simp only [codeW, exCode, ih]
    cases exCode P call K n rd a E h with
    | none => rfl
    | some r => obtain ⟨e, E1, h1⟩ := r; cases e <;> rfl
  | loop a ih =>
    intro call K rd E h
    simp only [codeW, exCode]
    congr 1
    funext E h
    exact ih call K rd E h
  | rangeFunc => intros; rfl
  | scope a ih =>
    intro call K rd E h
    simp only [codeW, exCode, ih]
    cases exCode P call K n rd a E h with
    | none => rfl
    | some r => obtain ⟨e, E1, h1⟩ := r; cases e <;> rfl
  | label _ => intros; rfl
  | goto _ => intros; simp [codeW, exCode]
  | refuse _ => intros; simp [codeW, exCode]
def exCodeW (P : Program) (call : CT) (K n : Nat) (rd : Option Nat) (c : Code) (E : XE) (h : XH) : CRes := (codeW P n c).run call K rd E h
theorem exCodeW_sound' {P : Program} {call : CT} {K n : Nat} {rd : Option Nat} {c : Code} {E : XE} {h : XH} {r : AExit × XE × XH} (hx : exCodeW P call K n rd c E h = some r) : exCode P call K n rd c E h = some r := by
  rw [← codeW_eq]; exact hx
theorem XH.upd_set {h h' : XH} {N : Nat} {o : AObj} (hu : h.upd N (some o) = some h') : h'.toA = h.toA.set N o := by
  obtain ⟨h1, h2, _⟩ := XH.upd_spec hu
  show AHeap.mk h'.toA.objs h'.nx = AHeap.mk _ h.nx
  rw [h1]
  congr 1
  funext M
  exact h2 M
theorem XH.upd_kill {h h' : XH} {N : Nat} (hu : h.upd N none = some h') : h'.toA = h.toA.kill N := by
  obtain ⟨h1, h2, _⟩ := XH.upd_spec hu
  show AHeap.mk h'.toA.objs h'.nx = AHeap.mk _ h.nx
  rw [h1]
  congr 1
  funext M
  exact h2 M
theorem exLoop_sound {P : Program} {rd : Option Nat} {n : Nat} {c : Code} {body : XE → XH → Option (AExit × XE × XH)}
    (hb : ∀ E h e E' h', body E h = some (e, E', h') → Pres h h' ∧ ∀ Q, Q e (envX n E') h'.toA → RunC P rd c (envX n E) h.toA Q) :
    ∀ (k : Nat) (E : XE) (h : XH) (e : AExit) (E' : XE) (h' : XH), exLoop body k E h = some (e, E', h') → Pres h h' ∧ ∀ Q, Q e (envX n E') h'.toA → RunLp P rd c (envX n E) h.toA Q := by
  intro k
  induction k with
  | zero => intro E h e E' h' hx; cases hx
  | succ k ih =>
    intro E h e E' h' hx
    simp only [exLoop] at hx
    split at hx
    · rename_i E1 h1 h0
      obtain ⟨p1, w1⟩ := hb _ _ _ _ _ h0
      obtain ⟨p2, w2⟩ := ih _ _ _ _ _ hx
      exact ⟨p1.trans p2, fun Q hQ => .step (w1 _ (w2 Q hQ))⟩
    · rename_i hne
      obtain ⟨p1, w1⟩ := hb _ _ _ _ _ hx
      refine ⟨p1, fun Q hQ => .step (w1 _ ?_)⟩
      cases e with
      | normal => exact absurd hx (hne _ _)
      | exit id => exact hQ
      | goto l => exact hQ
      | ret => exact hQ
      | panic v => exact hQ
theorem exCode_sound {P : Program} (hP : P.follows .mixedOrders = true) {call : CT} (hcall : SoundCT P call) {K n : Nat} {rd : Option Nat} : ∀ (c : Code) (E : XE) (h : XH) (e : AExit) (E' : XE) (h' : XH),
    exCode P call K n rd c E h = some (e, E', h') → Pres h h' ∧ ∀ Q, Q e (envX n E') h'.toA → RunC P rd c (envX n E) h.toA Q := by
  intro c
  induction c with
  | skip => intro E h e E' h' hx; cases hx; exact ⟨.refl _, fun Q hQ => .skip hQ⟩
  | exit id => intro E h e E' h' hx; cases hx; exact ⟨.refl _, fun Q hQ => .exit hQ⟩
  | ret => intro E h e E' h' hx; cases hx; exact ⟨.refl _, fun Q hQ => .ret hQ⟩
  | region id ops draw =>
    intro E h e E' h' hx
    simp only [exCode] at hx
    split at hx
    · cases hx
    · rename_i l hl
      obtain ⟨h1, h2⟩ := compOpers_get _ _ hl
      have h2' : ∀ (j : Nat) o, ops[j]? = some o → compOper P n ops o = l[j]? := fun j o ho => h2 j o (by simpa using ho)
      cases draw with
      | true =>
        simp only [cond_true] at hx
        split at hx
        · rename_i E1 h1' hd
          cases hx
          obtain ⟨p, ⟨q, st, hq, w⟩ | ⟨q, st, hq, w⟩⟩ := tryDr_sound hcall hd
          · exact ⟨p, fun Q hQ => drawn_rule hP rfl (by simpa using h1) h2' hq (w _ _ hQ)⟩
          · exact ⟨p, fun Q hQ => drawn_ghost hP rfl (by simpa using h1) h2' hq (w _ _ hQ)⟩
        · cases hx
      | false =>
        simp only [cond_false] at hx
        split at hx
        · rename_i f args hd
          obtain ⟨a, rfl⟩ := dfrOp_spec hd
          unfold dfrE at hx
          split at hx
          · split at hx
            · rename_i g first caps hev
              cases hx
              refine ⟨.refl _, fun Q hQ => .region (ops_sound (List.range ops.size) [⟨none, .dfr f args, none, a⟩] _ _ rfl (by simpa using h1.symm) (fun k i o hk ho => ?_) (by simp) ?_)⟩
              · rw [List.getElem?_range] at hk
                · cases hk; exact h2' k o ho
                · have := (List.getElem?_eq_some_iff.1 hk).1; simpa using this
              · simp only [wpOps, gOk, wpOne, hev]
                exact ⟨by simp, hQ⟩
            · cases hx
          · cases hx
        · split at hx
          · rename_i E1 h1' hd
            cases hx
            obtain ⟨p, w⟩ := exOps_sound hcall (rd := rd) _ _ _ _ _ hd
            refine ⟨p, fun Q hQ => .region (ops_sound (List.range ops.size) l _ _ rfl (by simp [h1]) (fun k i o hk ho => ?_) (by simp) (w Q hQ))⟩
            rw [List.getElem?_range] at hk
            · cases hk; exact h2' k o ho
            · have := (List.getElem?_eq_some_iff.1 hk).1; simpa using this
          · cases hx
  | seq x y ihx ihy =>
    intro E h e E' h' hx
    simp only [exCode] at hx
    split at hx
    · rename_i E1 h1 h0
      obtain ⟨p1, w1⟩ := ihx _ _ _ _ _ h0
      obtain ⟨p2, w2⟩ := ihy _ _ _ _ _ hx
      exact ⟨p1.trans p2, fun Q hQ => .seq (w1 _ (w2 Q hQ))⟩
    · rename_i hne
      obtain ⟨p1, w1⟩ := ihx _ _ _ _ _ hx
      refine ⟨p1, fun Q hQ => .seq (w1 _ ?_)⟩
      cases e with
      | normal => exact absurd hx (hne _ _)
      | exit id => exact hQ
      | goto l => exact hQ
      | ret => exact hQ
      | panic v => exact hQ
  | cond c x y ihx ihy =>
    intro E h e E' h' hx
    simp only [exCode] at hx
    split at hx
    · rename_i c' hc
      split at hx
      · rename_i t ht
        cases t with
        | true =>
          obtain ⟨p, w⟩ := ihx _ _ _ _ _ hx
          exact ⟨p, fun Q hQ => .cond (t := true) hc ht (w Q hQ)⟩
        | false =>
          obtain ⟨p, w⟩ := ihy _ _ _ _ _ hx
          exact ⟨p, fun Q hQ => .cond (t := false) hc ht (w Q hQ)⟩
      · cases hx
    · cases hx
  | block id x ih =>
    intro E h e E' h' hx
    simp only [exCode] at hx
    split at hx
    · rename_i j E1 h1 h0
      obtain ⟨p, w⟩ := ih _ _ _ _ _ h0
      by_cases hj : Nat.beq j id = true
      · rw [hj] at hx; cases hx
        refine ⟨p, fun Q hQ => .block (w _ ?_)⟩
        simp only [blockA]
        rw [if_pos (Nat.eq_of_beq_eq_true hj)]; exact hQ
      · have hj' := hj
        rw [Bool.not_eq_true] at hj'
        rw [hj'] at hx; cases hx
        refine ⟨p, fun Q hQ => .block (w _ ?_)⟩
        simp only [blockA]
        rw [if_neg (fun hh => hj (by rw [hh]; exact Nat.beq_refl _))]; exact hQ
    · rename_i hne
      obtain ⟨p, w⟩ := ih _ _ _ _ _ hx
      refine ⟨p, fun Q hQ => .block (w _ ?_)⟩
      cases e with
      | exit j => exact absurd hx (hne _ _ _)
      | normal => exact hQ
      | goto l => exact hQ
      | ret => exact hQ
      | panic v => exact hQ
  | loop x ih =>
    intro E h e E' h' hx
    simp only [exCode] at hx
    obtain ⟨p, w⟩ := exLoop_sound (P := P) (rd := rd) (n := n) ih _ _ _ _ _ _ hx
    refine ⟨p, fun Q hQ => ?_⟩
    obtain ⟨e', env1, σ1, q, hn, r⟩ := w Q hQ
    exact ⟨e', env1, σ1, q, hn, fun ι ro w a r' b hr R E M hb Qc hQ => wpIn_loopAt (r ι ro w a r' b hr R E M hb Qc hQ)⟩
  | rangeFunc f ps x y ihx ihy =>
    intro E h e E' h' hx
    simp only [exCode] at hx
    split at hx
    · rename_i f' hf
      split at hx
      · rename_i g first caps hev
        by_cases hb : (enters P g && rdGood rd h) = true
        · rw [hb] at hx
          simp only [cond_true] at hx
          split at hx
          · rename_i h1 hnew
            split at hx
            · rename_i v h3 hc
              split at hx
              · rename_i lo hlo
                split at hx
                · cases hx
                · rename_i hnb
                  split at hx
                  · rename_i e1 he
                    split at hx
                    · rename_i h4 hk
                      cases hx
                      simp only [Bool.and_eq_true] at hb
                      obtain ⟨a1, p1⟩ := XH.new_spec hnew
                      obtain ⟨p3, r3⟩ := hcall _ _ _ _ _ hc
                      obtain ⟨k1, k2, k3, k4⟩ := XH.upd_spec hk
                      have hP1 := p1.trans p3
                      refine ⟨⟨by have := hP1.1; omega, Nat.le_trans k3 hP1.2.1, fun N hN hlo => by rw [k2, if_neg (by omega)]; exact hP1.2.2 N hN (by omega)⟩, fun Q hQ => ?_⟩
                      refine .rangeFunc hf hev (rdGood_spec hb.2) hb.1 ?_
                      rw [show (h.toA.next) = h.nx from rfl, ← a1]
                      refine r3.mono fun o s ⟨ho, hs⟩ => ?_
                      subst ho; subst hs
                      refine ⟨lo, hlo, fun hs => hnb hs, pendX_spec he ?_⟩
                      rw [← XH.upd_kill hk]; exact hQ
                    · cases hx
                  · cases hx
              · cases hx
            · cases hx
          · cases hx
        · rw [Bool.not_eq_true] at hb; rw [hb] at hx; cases hx
      · cases hx
    · cases hx
  | scope a ih =>
    intro E h e E' h' hx
    simp only [exCode] at hx
    split at hx
    · cases hx
    · rename_i hne
      obtain ⟨p1, w1⟩ := ih _ _ _ _ _ hx
      refine ⟨p1, fun Q hQ => .scope (w1 _ ⟨fun l he => ?_, hQ⟩)⟩
      subst he
      exact hne _ _ _ hx
  | label _ => intro E h e E' h' hx; cases hx; exact ⟨.refl _, fun Q hQ => .label hQ⟩
  | goto _ => intro E h e E' h' hx; simp [exCode] at hx
  | refuse _ => intro E h e E' h' hx; simp [exCode] at hx
end
end Go.Tc
namespace Go.Tc
set_option linter.unusedSimpArgs false
set_option linter.unusedVariables false
noncomputable section
section
variable {P : Program}
theorem RunV.funcC {f : FuncId} {n : Nat} {ac : ACode} {rs : List ARes} (hcf : compFunc P f = some (n, ac, rs)) {first args caps : List AVal} {σ : AHeap} {Q : AOut → AHeap → Prop} {fn0 : Func} {c0 : Code} (hf0 : P.funcs[f]? = some fn0) (hb0 : fn0.body = some c0)
    (hlen : (first ++ args ++ caps).length ≤ n) (h : RunC P none c0 (env0 n (first ++ args ++ caps)) σ (retA rs Q)) : RunV P (.func (.func f) first caps) args σ Q := by
  obtain ⟨fn, c, hf, hb, hent, rfl, hcc, hcr⟩ := compFunc_spec hcf
  have e0 : fn = fn0 := by rw [hf] at hf0; exact Option.some.inj hf0
  subst e0
  have e1 : c = c0 := by rw [hb] at hb0; exact Option.some.inj hb0
  subst e1
  obtain ⟨e, env', σ', hq, hn', hrun⟩ := h
  have hn2 : env'.n = fn.ntmps := hn'
  obtain ⟨out, hQ, hds, hout⟩ : ∃ out, Q out σ' ∧ env'.ds = [] ∧ ((∃ vs, (e = .normal ∨ e = .ret) ∧ resAs env' σ' rs = some vs ∧ out = .ret (tupA vs)) ∨ ∃ v, e = .panic v ∧ out = .panic v) := by
    have rr : (env'.ds = [] ∧ (match resAs env' σ' rs with | some vs => Q (.ret (tupA vs)) σ' | none => False)) → (e = .normal ∨ e = .ret) →
        ∃ out, Q out σ' ∧ env'.ds = [] ∧ ((∃ vs, (e = .normal ∨ e = .ret) ∧ resAs env' σ' rs = some vs ∧ out = .ret (tupA vs)) ∨ ∃ v, e = .panic v ∧ out = .panic v) := by
      intro h he
      obtain ⟨hd, h⟩ := h
      split at h
      · rename_i vs hvs; exact ⟨_, h, hd, .inl ⟨vs, he, hvs, rfl⟩⟩
      · exact h.elim
    cases e with
    | normal => exact rr hq (.inl rfl)
    | ret => exact rr hq (.inr rfl)
    | panic v => exact ⟨.panic v, hq.2, hq.1, .inr ⟨v, rfl, rfl⟩⟩
    | exit id => exact hq.elim
    | goto l => exact hq.elim
  refine ⟨out, σ', hQ, fun ι ro w fu us R hfu hus => ?_⟩
  cases hfu with
  | @func _ _ _ first' caps' hnn h1 h2 h3 h4 =>
  simp only [Deferred.ofValue, pure_bind, invoke, enters_run hent, Upon]
  refine callsIn_of_wp_marks hf hb trivial ?_
  have hsz : (first' ++ us ++ caps').size = (first ++ args ++ caps).length := by simp [h1, h2, hus.1]
  have hrel : ∀ (i : Nat) v u, (first ++ args ++ caps)[i]? = some v → (first' ++ us ++ caps')[i]? = some u → VRel ι ro w v u := by
    intro i v u hv hu
    by_cases hi1 : i < (first ++ args).length
    · rw [List.getElem?_append_left hi1] at hv
      rw [Array.getElem?_append_left (by simp [h1, hus.1] at hi1 ⊢; omega)] at hu
      by_cases hi2 : i < first.length
      · rw [List.getElem?_append_left hi2] at hv
        rw [Array.getElem?_append_left (by omega)] at hu
        exact h3 i v u hv hu
      · rw [List.getElem?_append_right (by omega)] at hv
        rw [Array.getElem?_append_right (by omega)] at hu
        rw [h1] at hu
        exact hus.2 _ v u hv hu
    · rw [List.getElem?_append_right (by omega)] at hv
      rw [Array.getElem?_append_right (by simp [h1, hus.1] at hi1 ⊢; omega)] at hu
      have : (first' ++ us).size = (first ++ args).length := by simp [h1, hus.1]
      rw [this] at hu
      exact h4 _ v u hv hu
  have E0 : EnvRel ι ro w (env0 fn.ntmps (first ++ args ++ caps)) { tmps := (first' ++ us ++ caps') ++ Array.replicate (fn.ntmps - (first' ++ us ++ caps').size) undef, defers := [] } := by
    refine ⟨by simp only [Array.size_append, Array.size_replicate, env0]; simp only [Array.size_append, List.length_append] at hsz hlen; omega, fun i u hu => ?_, rfl, by simp⟩
    show VRel ι ro w ((first ++ args ++ caps).getD i (.tup [])) u
    by_cases hi : i < (first ++ args ++ caps).length
    · have hv : (first ++ args ++ caps)[i]? = some (first ++ args ++ caps)[i] := List.getElem?_eq_getElem hi
      rw [Array.getElem?_append_left (by omega)] at hu
      have := hrel i _ u hv hu
      rwa [List.getD_eq_getElem?_getD, hv]
    · rw [Array.getElem?_append_right (by omega)] at hu
      rw [List.getD_eq_getElem?_getD, List.getElem?_eq_none (by omega)]
      have hlt := (Array.getElem?_eq_some_iff.1 hu).1
      rw [Array.getElem?_replicate] at hu
      split at hu
      · cases hu; exact tupNil _ _ _
      · cases hu
  refine hrun ι ro w _ none w.heap.size trivial R E0 ⟨by simp [marksOf], by simp [marksOf]⟩ (Nat.le_refl _) _ ?_
  intro ι' ro' e' a' w' L' R' E' M' X'
  have hfil : a'.defers.filter noMark = [] := by
    have := E'.ds.1
    rw [hds] at this
    exact List.eq_nil_of_length_eq_zero this
  have fin : ∀ vs, resAs env' σ' rs = some vs → out = .ret (tupA vs) → ∀ w'', Rel ι' ro' σ' w'' → Later ι ro σ w ι' ro' σ' w'' → (∀ v u, VRel ι' ro' w' v u → VRel ι' ro' w'' v u) → LeavesIn Fence.wide 0 P fn a'.tmps (Met ι ro σ w out σ') [] .returning w'' := by
    intro vs hvs ho w'' R'' L'' hvv
    obtain ⟨u, hu, hv⟩ := results_rel (P := P) R'' (env := env') (tmps := a'.tmps) (fn := fn) (rs := rs) E'.size (fun i u hu => hvv _ _ (E'.t i u hu)) (by rw [hn2]; exact hcr) hvs
    exact ⟨u, hu, ι', ro', L'', R'', by rw [ho]; exact .ret hv⟩
  rcases hout with ⟨vs, he, hvs, ho⟩ | ⟨v, he, ho⟩
  · have := leavesM (u := .returning) (w0 := w') (by simp) (fin vs hvs ho) a'.defers w' hfil M'.nodup M'.each R' L' (fun _ _ h => h)
    rcases he with rfl | rfl <;> cases X' <;> exact this
  · subst he
    cases X' with
    | @panic _ u hv =>
    refine leavesM (u := .panicking [{ v := u, recovered := false }]) (w0 := w') (by simp) (fun w'' R'' L'' hvv => ?_) a'.defers w' hfil M'.nodup M'.each R' L' (fun _ _ h => h)
    exact ⟨ι', ro', L'', R'', by rw [ho]; exact .panic (hvv _ _ hv)⟩
def bodyX (P : Program) (f : FuncId) : Option (Nat × Code × List ARes) :=
  match P.funcs[f]? with
  | some fn => match fn.body with
    | some c => (match compFunc P f with | some (n, _, rs) => some (n, c, rs) | none => none)
    | none => none
  | none => none
theorem bodyX_spec {f : FuncId} {n : Nat} {c : Code} {rs : List ARes} (h : bodyX P f = some (n, c, rs)) : ∃ fn ac, P.funcs[f]? = some fn ∧ fn.body = some c ∧ compFunc P f = some (n, ac, rs) := by
  unfold bodyX at h
  split at h
  · rename_i fn hf
    split at h
    · rename_i c' hb
      split at h
      · rename_i n' ac rs' hc
        cases h
        exact ⟨fn, ac, hf, hb, hc⟩
      · cases h
    · cases h
  · cases h
def exRes (n : Nat) (rs : List ARes) : Option (AExit × XE × XH) → Option (AVal × XH)
  | some (.normal, E, h) | some (.ret, E, h) => (match E.ds with
    | [] => (match resAs (envX n E) h.toA rs with | some vs => some (tupA vs, h) | none => none)
    | _ => none)
  | _ => none
theorem envX_nil {n : Nat} {b : Nat → AVal} : envX n ⟨.nil, b, []⟩ = { n, t := b, ds := [] } := rfl
def exRound (P : Program) (call : CT) (K : Nat) (L : Nat) (args : List AVal) (h : XH) : Option (AVal × XH) :=
  match h.H.get L with
  | some (.loop lo) => bif Nat.beq args.length lo.params.size then
      (match exCodeW P call K lo.size (some L) lo.assign ⟨.nil, setPs lo.env lo.params.toList args, []⟩ h with
      | some (.normal, E1, h1) => (match h1.H.get L with
        | some (.loop lo1) => (match lo1.state with
          | .ready => (match h1.upd L (some (.loop { lo1 with state := .busy })) with
            | some h2 => (match exCodeW P call K lo.size (some L) lo.body E1 h2 with
              | some (.normal, _, h3) => (match h3.H.get L with
                | some (.loop lo2) => (match h3.upd L (some (.loop { lo2 with state := .ready, pending := none })) with | some h4 => some (.bool true, h4) | none => none)
                | _ => none)
              | some (.ret, _, h3) => (match h3.H.get L with
                | some (.loop lo2) => (match h3.upd L (some (.loop { lo2 with state := .done, pending := some .ret })) with | some h4 => some (.bool false, h4) | none => none)
                | _ => none)
              | some (.exit id, _, h3) => (match h3.H.get L with
                | some (.loop lo2) => (match h3.upd L (some (.loop { lo2 with state := .done, pending := some (.exit id) })) with | some h4 => some (.bool false, h4) | none => none)
                | _ => none)
              | _ => none)
            | none => none)
          | _ => none)
        | _ => none)
      | _ => none)
    else none
  | _ => none
def argsX : Nat → List AVal → Trie AVal → Option (Trie AVal)
  | _, [], t => some t
  | i, a :: zs, t => match Trie.set 0 t i (some a) with | some t' => argsX (i + 1) zs t' | none => none
theorem argsX_get : ∀ (zs : List AVal) (i : Nat) (t t' : Trie AVal), argsX i zs t = some t' → ∀ j, t'.get j = if i ≤ j ∧ j < i + zs.length then zs[j - i]? else t.get j := by
  intro zs
  induction zs with
  | nil => intro i t t' h j; cases h; rw [if_neg (by simp)]
  | cons a zs ih =>
    intro i t t' h j
    simp only [argsX] at h
    split at h
    · rename_i t1 h1
      rw [ih _ _ _ h j, Trie.set_get _ _ _ _ _ h1]
      by_cases hj : j = i
      · subst hj
        rw [if_neg (by omega), if_pos rfl, if_pos (by simp)]
        simp
      · rw [if_neg hj]
        by_cases h2 : i + 1 ≤ j ∧ j < i + 1 + zs.length
        · rw [if_pos h2, if_pos (by simp; omega)]
          have : j - i = (j - (i + 1)) + 1 := by omega
          rw [this, List.getElem?_cons_succ]
        · rw [if_neg h2, if_neg (by simp; omega)]
    · cases h
theorem argsX_env {n : Nat} {zs : List AVal} {t : Trie AVal} (h : argsX 0 zs .nil = some t) : envX n ⟨t, fun _ => .tup [], []⟩ = env0 n zs := by
  have hg := argsX_get zs 0 .nil t h
  simp only [envX, env0]
  congr 1
  funext j
  simp only [XE.t, hg]
  by_cases hj : j < zs.length
  · rw [if_pos (by omega)]
    simp [List.getD_eq_getElem?_getD, List.getElem?_eq_getElem hj]
  · rw [if_neg (by omega)]
    have : (Trie.nil : Trie AVal).get j = none := rfl
    rw [this]
    simp [List.getD_eq_getElem?_getD, List.getElem?_eq_none (Nat.le_of_not_lt hj)]
abbrev Orc := FuncId → List AVal → XH → Option AVal
def SoundO (P : Program) (O : Orc) : Prop := ∀ f zs h v, O f zs h = some v → RunV P (.func (.func f) [] []) zs h.toA (fun o s => o = .ret v ∧ s = h.toA)
def noOrc : Orc := fun _ _ _ => none
theorem noOrc_sound {P : Program} : SoundO P noOrc := fun _ _ _ _ h => by cases h
def exGo (call : CT) (K n : Nat) (rs : List ARes) (c : CodeR) (h : XH) : Option (Trie AVal) → Option (AVal × XH)
  | some t => exRes n rs (c.run call K none ⟨t, fun _ => .tup [], []⟩ h)
  | none => none
def exFn (P : Program) (call : CT) (K : Nat) (zs : List AVal) (h : XH) : Option (Nat × Code × List ARes) → Option (AVal × XH)
  | some (n, c, rs) => Bool.rec (motive := fun _ => Option (AVal × XH)) none (exGo call K n rs (codeW P n c) h (argsX 0 zs .nil)) (Nat.ble zs.length n)
  | none => none
def isNilL : List AVal → Bool
  | [] => true
  | _ => false
def exOrc (O : Orc) (f : FuncId) (first caps args : List AVal) (h : XH) : Option AVal :=
  bif isNilL first && isNilL caps then O f args h else none
def orElseO (h : XH) (e : Option (AVal × XH)) : Option AVal → Option (AVal × XH)
  | some v => some (v, h)
  | none => e
def exCall (P : Program) (O : Orc) (K : Nat) : Nat → CT
  | 0, _, _, _ => none
  | d + 1, f, args, h => match f with
    | .func (.func f) first caps => orElseO h (exFn P (exCall P O K d) K (first ++ args ++ caps) h (bodyX P f)) (exOrc O f first caps args h)
    | .yield L => exRound P (exCall P O K d) K L args h
    | _ => none
theorem exRound_sound (hP : P.follows .mixedOrders = true) {call : CT} (hcall : SoundCT P call) {K L : Nat} {args : List AVal} {h h' : XH} {v : AVal} (hx : exRound P call K L args h = some (v, h')) :
    Pres h h' ∧ RunV P (.yield L) args h.toA (fun o s => o = .ret v ∧ s = h'.toA) := by
  unfold exRound at hx
  split at hx
  · rename_i lo hlo
    by_cases hb : Nat.beq args.length lo.params.size = true
    · rw [hb] at hx
      simp only [cond_true] at hx
      split at hx
      · rename_i E1 h1 hA
        split at hx
        · rename_i lo1 hlo1
          split at hx
          · rename_i hst
            split at hx
            · rename_i h2 hu
              obtain ⟨pa, wa⟩ := exCode_sound hP hcall _ _ _ _ _ _ (exCodeW_sound' hA)
              have pu := XH.upd_pres hu
              have eu := XH.upd_set hu
              have hE : ∀ (e : AExit) (E2 : XE) (h3 : XH), exCodeW P call K lo.size (some L) lo.body E1 h2 = some (e, E2, h3) → ∀ (b : Bool) (st : LoopState) (pe : Option Code) (lo2 : ALoop), h3.H.get L = some (.loop lo2) → h3.upd L (some (.loop { lo2 with state := st, pending := pe })) = some h' →
                  (∀ Q : AOut → AHeap → Prop, Q (.ret (.bool b)) (h3.toA.set L (.loop { lo2 with state := st, pending := pe })) → roundA L h3.toA lo2 Q e) → Pres h h' ∧ RunV P (.yield L) args h.toA (fun o s => o = .ret (.bool b) ∧ s = h'.toA) := by
                intro e E2 h3 hB b st pe lo2 hlo2 hu2 hr
                obtain ⟨pb, wb⟩ := exCode_sound hP hcall _ _ _ _ _ _ (exCodeW_sound' hB)
                refine ⟨((pa.trans pu).trans pb).trans (XH.upd_pres hu2), ?_⟩
                refine RunV.yield (lo := lo) hlo (Nat.eq_of_beq_eq_true hb) (wa _ ⟨rfl, lo1, hlo1, hst, ?_⟩)
                rw [← eu]
                refine wb _ ⟨lo2, hlo2, hr _ ⟨rfl, ?_⟩⟩
                rw [XH.upd_set hu2]
              split at hx
              · rename_i E2 h3 hB
                split at hx
                · rename_i lo2 hlo2
                  split at hx
                  · rename_i h4 hu2
                    cases hx
                    exact hE _ _ _ hB _ _ _ _ hlo2 hu2 fun Q hQ => hQ
                  · cases hx
                · cases hx
              · rename_i E2 h3 hB
                split at hx
                · rename_i lo2 hlo2
                  split at hx
                  · rename_i h4 hu2
                    cases hx
                    exact hE _ _ _ hB _ _ _ _ hlo2 hu2 fun Q hQ => hQ
                  · cases hx
                · cases hx
              · rename_i id E2 h3 hB
                split at hx
                · rename_i lo2 hlo2
                  split at hx
                  · rename_i h4 hu2
                    cases hx
                    exact hE _ _ _ hB _ _ _ _ hlo2 hu2 fun Q hQ => hQ
                  · cases hx
                · cases hx
              · cases hx
            · cases hx
          · cases hx
        · cases hx
      · cases hx
    · rw [Bool.not_eq_true] at hb; rw [hb] at hx; cases hx
  · cases hx
theorem exFn_sound (hP : P.follows .mixedOrders = true) {call : CT} (hcall : SoundCT P call) {K : Nat} {f : FuncId} {first args caps : List AVal} {h h' : XH} {v : AVal}
    (hx : exFn P call K (first ++ args ++ caps) h (bodyX P f) = some (v, h')) : Pres h h' ∧ RunV P (.func (.func f) first caps) args h.toA (fun o s => o = .ret v ∧ s = h'.toA) := by
  cases hbx : bodyX P f with
  | none => rw [hbx] at hx; cases hx
  | some r =>
    obtain ⟨n, c, rs⟩ := r
    rw [hbx] at hx
    cases hb : Nat.ble (first ++ args ++ caps).length n with
    | false => simp only [exFn, hb] at hx; cases hx
    | true =>
      simp only [exFn, hb] at hx
      cases ht : argsX 0 (first ++ args ++ caps) .nil with
      | none => rw [ht] at hx; cases hx
      | some t =>
        rw [ht] at hx
        simp only [exGo] at hx
        obtain ⟨fn, ac, hf, hbd, hcf⟩ := bodyX_spec hbx
        have key : ∀ (e : AExit) (E : XE) (h1 : XH), (e = .normal ∨ e = .ret) → (codeW P n c).run call K none ⟨t, fun _ => .tup [], []⟩ h = some (e, E, h1) →
            (match E.ds with | [] => (match resAs (envX n E) h1.toA rs with | some vs => some (tupA vs, h1) | none => none) | _ => none) = some (v, h') → Pres h h' ∧ RunV P (.func (.func f) first caps) args h.toA (fun o s => o = .ret v ∧ s = h'.toA) := by
          intro e E h1 he hc hr
          rw [codeW_eq] at hc
          obtain ⟨p, w⟩ := exCode_sound hP hcall _ _ _ _ _ _ hc
          split at hr
          · rename_i hds
            split at hr
            · rename_i vs hvs
              cases hr
              rw [argsX_env ht] at w
              refine ⟨p, RunV.funcC hcf hf hbd (by simpa using hb) (w _ ?_)⟩
              rcases he with rfl | rfl
              · refine ⟨hds, ?_⟩; rw [hvs]; exact ⟨rfl, rfl⟩
              · refine ⟨hds, ?_⟩; rw [hvs]; exact ⟨rfl, rfl⟩
            · cases hr
          · cases hr
        unfold exRes at hx
        split at hx
        · rename_i E h1 hc; exact key _ _ _ (.inl rfl) hc hx
        · rename_i E h1 hc; exact key _ _ _ (.inr rfl) hc hx
        · cases hx
theorem exCall_sound (hP : P.follows .mixedOrders = true) {O : Orc} (hO : SoundO P O) {K : Nat} : ∀ d, SoundCT P (exCall P O K d) := by
  intro d
  induction d with
  | zero => intro f zs h v h' hx; cases hx
  | succ d ih =>
    intro f zs h v h' hx
    simp only [exCall] at hx
    split at hx
    · rename_i f first caps
      cases ho : exOrc O f first caps zs h with
      | none => rw [ho] at hx; exact exFn_sound hP ih hx
      | some v1 =>
        rw [ho] at hx
        cases hx
        unfold exOrc at ho
        cases first with
        | cons _ _ => cases ho
        | nil =>
          cases caps with
          | cons _ _ => cases ho
          | nil => exact ⟨.refl _, hO _ _ _ _ ho⟩
    · exact exRound_sound hP ih hx
    · cases hx
theorem CallV.uniS {P : Program} {f : FuncId} {zs : List AVal} (hclo : ∀ a ∈ zs, Clo a) {v : AVal} {s : AHeap} (h : CallV P (.func (.func f) [] []) zs nilHeap (.ret v) s) (hr : scal v = true) (σ : AHeap) :
    CallV P (.func (.func f) [] []) zs σ (.ret v) (plus σ s) := by
  refine h.ren (fun N => if N < s.next then some (N + σ.next) else none) (fun N' => if σ.next ≤ N' ∧ N' < σ.next + s.next then some (N' - σ.next) else none) (fun N N' => ?_) (fun N N' hg => ?_) (fun N N' hg => ?_) (Nat.le_add_right _ _) (.func rfl rfl (by simp) (by simp)) rfl
    (fun i a a0 h1 h2 => by rw [h1] at h2; cases h2; exact hclo a (List.mem_of_getElem? h1) _) (fun N o hN => by simp [nilHeap] at hN) (fun N' o' hN => ?_) ?_
  · constructor
    · intro hg
      split at hg
      · cases hg
        rw [if_pos ⟨by omega, by omega⟩]; congr 1; omega
      · cases hg
    · intro hg
      split at hg
      · cases hg
        rw [if_pos (by omega)]; congr 1; omega
      · cases hg
  · simp only [nilHeap]
    split at hg
    · cases hg; omega
    · cases hg
  · simp only [plus]
    split at hg
    · cases hg; omega
    · cases hg
  · simp only [plus] at hN
    split at hN
    · rename_i hlt
      right
      exact ⟨by rw [if_neg (by omega)], hN⟩
    · rename_i hge
      left
      split at hN
      case isFalse => cases hN
      rename_i hlt2
      cases ho : s.objs (N' - σ.next) with
      | none => rw [ho] at hN; cases hN
      | some o =>
        cases o with
        | cells m rows =>
          rw [ho] at hN
          simp only [keepS] at hN
          split at hN
          · rename_i hrows
            cases hN
            refine ⟨N' - σ.next, .cells m rows, ?_, ho, .cells (fun _ => rfl) (fun j q v v' h1 h2 => ?_) (fun j q v' h1 => ?_)⟩
            · show (if N' - σ.next < s.next then some (N' - σ.next + σ.next) else none) = some N'
              rw [if_pos (by omega)]; congr 1; omega
            · rw [h1] at h2; cases h2
              simp only [cellAt, Option.bind_eq_some_iff] at h1
              obtain ⟨row, hr, hv⟩ := h1
              exact scal_ren v (hrows row (List.mem_of_getElem? hr) v (List.mem_of_getElem? hv)).1
            · simp only [cellAt, Option.bind_eq_some_iff] at h1
              obtain ⟨row, hr, hv⟩ := h1
              exact (hrows row (List.mem_of_getElem? hr) v' (List.mem_of_getElem? hv)).2
          · cases hN
        | _ => rw [ho] at hN; cases hN
  · exact scal_ren v hr
def exTest (P : Program) (O : Orc) (K d : Nat) (f : FuncId) : Bool :=
  match exCall P O K d (.func (.func f) [] []) [] ⟨.nil, 0, 0⟩ with
  | some (.bool true, _) => true
  | _ => false
theorem exTest_spec (hP : P.follows .mixedOrders = true) {O : Orc} (hO : SoundO P O) {K d : Nat} {f : FuncId} (h : exTest P O K d f = true) {σ : AHeap} {Q : AOut → AHeap → Prop} (hQ : Q (.ret (.bool true)) σ) : RunV P (.func (.func f) [] []) [] σ Q := by
  unfold exTest at h
  split at h
  · rename_i h' hx
    obtain ⟨_, o, s, ⟨rfl, rfl⟩, hc⟩ := exCall_sound hP hO d _ _ _ _ _ hx
    have h0 : (⟨.nil, 0, 0⟩ : XH).toA = nilHeap := rfl
    rw [h0] at hc
    have := hc.uniS (by simp) rfl σ
    exact RunV.drop ⟨_, _, ⟨_, rfl, rfl, plus_ext σ _, hQ⟩, this⟩
  · cases h
end
end
end Go.Tc
namespace Go.Tc
set_option linter.unusedSimpArgs false
set_option linter.unusedVariables false
noncomputable section
abbrev PRes := Option (AVal × XE × XH)
def SoundPT (P : Program) (cp : CT) : Prop := ∀ f zs h v h', cp f zs h = some (v, h') → Pres h h' ∧ RunV P f zs h.toA (fun o s => o = .panic v ∧ s = h'.toA)
def panC (P : Program) (cp : CT) (o : AOp) (n : Nat) (E : XE) (h : XH) : Option (AVal × XH) :=
  match callTgt P o (envX n E) with
  | some (f, zs) => cp f zs h
  | none => match o with
    | .panic x => (match (envX n E).ev x with | .iface t v => some (.iface t v, h) | _ => none)
    | _ => none
theorem panC_sound {P : Program} {cp : CT} (hcp : SoundPT P cp) {o : AOp} {n : Nat} {E : XE} {h h' : XH} {v : AVal} (hx : panC P cp o n E h = some (v, h')) : Pres h h' ∧ ∀ K X : AVal → AHeap → Prop, X v h'.toA → OpW P o (envX n E) h.toA K X := by
  unfold panC at hx
  split at hx
  · rename_i f zs ht
    obtain ⟨p, r⟩ := hcp _ _ _ _ _ hx
    exact ⟨p, fun K X hX => callTgt_spec ht (r.mono fun o s ⟨ho, hs⟩ => by subst ho; subst hs; exact hX)⟩
  · split at hx
    · rename_i x
      split at hx
      · rename_i t u he
        cases hx
        exact ⟨.refl _, fun K X hX => by simp only [OpW, he]; exact hX⟩
      · cases hx
    · cases hx
def exOpsP (P : Program) (call cp : CT) (n : Nat) : List AOper → XE → XH → PRes
  | [], _, _ => none
  | o :: os, E, h => match gOk o.guard (envX n E) with
    | some true => (match exOpC P call o.op n E h with
      | some (v, h1) => (match E.put o.dst v with | some E1 => exOpsP P call cp n os E1 h1 | none => none)
      | none => (match panC P cp o.op n E h with | some (v, h1) => some (v, E, h1) | none => none))
    | some false => (match E.put o.dst (.tup []) with | some E1 => exOpsP P call cp n os E1 h | none => none)
    | none => none
def exDrP (P : Program) (call cp : CT) (n : Nat) (q : List Nat) : Nat → List AOper → XE → XH → Option (Nat × AVal × XH)
  | _, [], _, _ => none
  | i, o :: os, E, h => match gOk o.guard (envX n E) with
    | some true => (match exOpQ P call (q.contains i) o.op n E h with
      | some (v, h1) => (match E.put o.dst v with | some E1 => exDrP P call cp n q (i + 1) os E1 h1 | none => none)
      | none => (match panC P cp o.op n E h with | some (v, h1) => some (i, v, h1) | none => none))
    | some false => (match E.put o.dst (.tup []) with | some E1 => exDrP P call cp n q (i + 1) os E1 h | none => none)
    | none => none
section
variable {P : Program} {call cp : CT} (hcall : SoundCT P call) (hcp : SoundPT P cp) {n : Nat}
include hcall hcp
theorem exOpsP_sound {rd : Option Nat} : ∀ (l : List AOper) (E : XE) (h : XH) (v : AVal) (E' : XE) (h' : XH), exOpsP P call cp n l E h = some (v, E', h') →
    Pres h h' ∧ ∀ Q : AExit → AEnv → AHeap → Prop, Q (.panic v) (envX n E') h'.toA → wpOps P rd l (envX n E) h.toA Q := by
  intro l
  induction l with
  | nil => intro E h v E' h' hx; cases hx
  | cons o os ih =>
    intro E h v E' h' hx
    simp only [exOpsP] at hx
    split at hx
    · rename_i hg
      have hnd : ∀ f args, o.op = .dfr f args → exOpC P call o.op n E h = none ∧ panC P cp o.op n E h = none := fun f args hd => by
        rw [hd]
        simp [panC, exOpC, exOpK, callTgt, tgW, exOp_eq, opA, isCall]
      split at hx
      · rename_i v1 h1 ho
        split at hx
        · rename_i E1 hE
          obtain ⟨p2, w2⟩ := ih _ _ _ _ _ hx
          obtain ⟨p1, w1⟩ := exOpC_sound hcall ho
          refine ⟨p1.trans p2, fun Q hQ => ?_⟩
          simp only [wpOps, hg]
          have hgoal := w1 (fun v σ' => wpOps P rd os ((envX n E).put o.dst v) σ' Q) (fun v σ' => Q (.panic v) (envX n E) σ') (by rw [← XE.put_env hE]; exact w2 Q hQ)
          unfold wpOne
          split
          · rename_i f args hd; rw [(hnd f args hd).1] at ho; cases ho
          · exact hgoal
        · cases hx
      · rename_i hno
        split at hx
        · rename_i v1 h1 ho
          cases hx
          obtain ⟨p1, w1⟩ := panC_sound hcp ho
          refine ⟨p1, fun Q hQ => ?_⟩
          simp only [wpOps, hg]
          have hgoal := w1 (fun v σ' => wpOps P rd os ((envX n E).put o.dst v) σ' Q) (fun v σ' => Q (.panic v) (envX n E) σ') hQ
          unfold wpOne
          split
          · rename_i f args hd; rw [(hnd f args hd).2] at ho; cases ho
          · exact hgoal
        · cases hx
    · rename_i hg
      split at hx
      · rename_i E1 hE
        obtain ⟨p2, w2⟩ := ih _ _ _ _ _ hx
        refine ⟨p2, fun Q hQ => ?_⟩
        simp only [wpOps, hg]
        rw [← XE.put_env hE]
        exact w2 Q hQ
      · cases hx
    · cases hx
theorem exDrP_sound {q : List Nat} {ps : Nat → Nat → Bool} : ∀ (l : List AOper) (i : Nat) (E : XE) (h : XH) (j : Nat) (v : AVal) (h' : XH), exDrP P call cp n q i l E h = some (j, v, h') →
    Pres h h' ∧ ∀ (past : List (Nat × AHeap)) (K : AEnv → AHeap → Prop) (X : Nat → AVal → AHeap → Prop), X j v h'.toA → wpDr P q [] ps i l (envX n E) h.toA past [] K X := by
  intro l
  induction l with
  | nil => intro i E h j v h' hx; cases hx
  | cons o os ih =>
    intro i E h j v h' hx
    have hst : isSt q [] i o = false := rfl
    simp only [exDrP] at hx
    split at hx
    · rename_i hg
      split at hx
      · rename_i v1 h1 ho
        split at hx
        · rename_i E1 hE
          obtain ⟨p2, w2⟩ := ih _ _ _ _ _ _ hx
          obtain ⟨p1, k1, w1⟩ := exOpQ_sound hcall ho
          refine ⟨p1.trans p2, fun past K X hK => ?_⟩
          simp only [wpDr, hg]
          refine w1 _ _ ⟨fun he => by rw [k1 he], fun h => (by rw [hst] at h; cases h), fun _ p hp => (by cases hp), ?_⟩
          rw [hst, ← XE.put_env hE]
          exact w2 _ K X hK
        · cases hx
      · split at hx
        · rename_i v1 h1 ho
          cases hx
          obtain ⟨p1, w1⟩ := panC_sound hcp ho
          refine ⟨p1, fun past K X hK => ?_⟩
          simp only [wpDr, hg]
          exact w1 _ _ hK
        · cases hx
    · rename_i hg
      split at hx
      · rename_i E1 hE
        obtain ⟨p2, w2⟩ := ih _ _ _ _ _ _ hx
        refine ⟨p2, fun past K X hK => ?_⟩
        simp only [wpDr, hg]
        refine ⟨fun _ p hp => (by cases hp), ?_⟩
        rw [← XE.put_env hE]
        exact w2 _ K X hK
      · cases hx
    · cases hx
end
def junkX : List Nat → XE → Option XE
  | [], E => some E
  | d :: ds, E => match E.put (some d) .junk with | some E1 => junkX ds E1 | none => none
theorem junkX_env {n : Nat} : ∀ (ds : List Nat) (E E' : XE), junkX ds E = some E' → envX n E' = (envX n E).junk ds := by
  intro ds
  induction ds with
  | nil => intro E E' h; cases h; simp [AEnv.junk]
  | cons d ds ih =>
    intro E E' h
    simp only [junkX] at h
    split at h
    · rename_i E1 h1
      rw [ih _ _ h, XE.put_env h1]
      simp only [AEnv.junk, AEnv.put, AEnv.set]
      congr 1
      funext i
      by_cases h2 : i ∈ ds
      · simp [h2]
      · by_cases h3 : i = d
        · subst h3; simp [h2]
        · simp [h2, h3]
    · cases h
def candP (P : Program) (call cp : CT) (n : Nat) (l : List AOper) (q : List Nat) (E : XE) (h : XH) : PRes :=
  bif drOk q [] l then (match exDrP P call cp n q 0 l E h with
    | some (i, v, h1) => bif panOk q l i then (match junkX (dstsOf l) E with | some E1 => some (v, E1, h1) | none => none) else none
    | none => none)
  else none
def exDrawP (P : Program) (call cp : CT) (n : Nat) (l : List AOper) (E : XE) (h : XH) : PRes :=
  match candP P call cp n l [] E h with
  | some r => some r
  | none => candP P call cp n l (callIx 0 l) E h
def exLoopP (body : XE → XH → CRes) (bodyP : XE → XH → PRes) : Nat → XE → XH → PRes
  | 0, _, _ => none
  | k + 1, E, h => match body E h with
    | some (.normal, E1, h1) => exLoopP body bodyP k E1 h1
    | some _ => none
    | none => bodyP E h
def exCodeP (P : Program) (call cp : CT) (K n : Nat) (rd : Option Nat) : Code → XE → XH → PRes
  | .region _ ops draw, E, h => match compOpers P n ops ops.toList with
    | none => none
    | some l => bif draw then exDrawP P call cp n l E h else exOpsP P call cp n l E h
  | .seq a b, E, h => match exCodeW P call K n rd a E h with
    | some (.normal, E1, h1) => exCodeP P call cp K n rd b E1 h1
    | some _ => none
    | none => exCodeP P call cp K n rd a E h
  | .cond c a b, E, h => match cOpnd n c with
    | some c' => (match (envX n E).ev c' with
      | .bool t => bif t then exCodeP P call cp K n rd a E h else exCodeP P call cp K n rd b E h
      | _ => none)
    | none => none
  | .block _ a, E, h => exCodeP P call cp K n rd a E h
  | .loop a, E, h => exLoopP (exCodeW P call K n rd a) (exCodeP P call cp K n rd a) K E h
  | .scope a, E, h => exCodeP P call cp K n rd a E h
  | _, _, _ => none
theorem candP_sound {P : Program} (hP : P.follows .mixedOrders = true) {call cp : CT} (hcall : SoundCT P call) (hcp : SoundPT P cp) {n : Nat} {l : List AOper} {q : List Nat} {E E' : XE} {h h' : XH} {v : AVal} (hx : candP P call cp n l q E h = some (v, E', h')) :
    Pres h h' ∧ ∀ {rd : Option Nat} {id : Nat} {ops : Array Oper}, l.length = ops.size → (∀ (j : Nat) o, ops[j]? = some o → compOper P n ops o = l[j]?) → ∀ Q : AExit → AEnv → AHeap → Prop, Q (.panic v) (envX n E') h'.toA → RunC P rd (.region id ops true) (envX n E) h.toA Q := by
  unfold candP at hx
  by_cases hd : drOk q [] l = true
  · rw [hd] at hx
    simp only [cond_true] at hx
    split at hx
    · rename_i i v1 h1 hdr
      by_cases hp : panOk q l i = true
      · rw [hp] at hx
        simp only [cond_true] at hx
        split at hx
        · rename_i E1 hj
          cases hx
          obtain ⟨p, w⟩ := exDrP_sound hcall hcp (ps := poss q l (ancs l [])) _ _ _ _ _ _ _ hdr
          refine ⟨p, fun hl h2 Q hQ => drawn_rule hP rfl hl h2 hd (w _ _ _ ⟨hp, ?_⟩)⟩
          rw [← junkX_env _ _ _ hj]
          exact hQ
        · cases hx
      · rw [Bool.not_eq_true] at hp; rw [hp] at hx; cases hx
    · cases hx
  · rw [Bool.not_eq_true] at hd; rw [hd] at hx; cases hx
theorem exDrawP_sound {P : Program} (hP : P.follows .mixedOrders = true) {call cp : CT} (hcall : SoundCT P call) (hcp : SoundPT P cp) {n : Nat} {l : List AOper} {E E' : XE} {h h' : XH} {v : AVal} (hx : exDrawP P call cp n l E h = some (v, E', h')) :
    Pres h h' ∧ ∀ {rd : Option Nat} {id : Nat} {ops : Array Oper}, l.length = ops.size → (∀ (j : Nat) o, ops[j]? = some o → compOper P n ops o = l[j]?) → ∀ Q : AExit → AEnv → AHeap → Prop, Q (.panic v) (envX n E') h'.toA → RunC P rd (.region id ops true) (envX n E) h.toA Q := by
  unfold exDrawP at hx
  split at hx
  · rename_i r hr; cases hx; exact candP_sound hP hcall hcp hr
  · exact candP_sound hP hcall hcp hx
theorem exLoopP_sound {P : Program} {rd : Option Nat} {n : Nat} {c : Code} {body : XE → XH → CRes} {bodyP : XE → XH → PRes}
    (hb : ∀ E h e E' h', body E h = some (e, E', h') → Pres h h' ∧ ∀ Q : AExit → AEnv → AHeap → Prop, Q e (envX n E') h'.toA → RunC P rd c (envX n E) h.toA Q)
    (hbp : ∀ E h v E' h', bodyP E h = some (v, E', h') → Pres h h' ∧ ∀ Q : AExit → AEnv → AHeap → Prop, Q (.panic v) (envX n E') h'.toA → RunC P rd c (envX n E) h.toA Q) :
    ∀ (k : Nat) (E : XE) (h : XH) (v : AVal) (E' : XE) (h' : XH), exLoopP body bodyP k E h = some (v, E', h') → Pres h h' ∧ ∀ Q : AExit → AEnv → AHeap → Prop, Q (.panic v) (envX n E') h'.toA → RunLp P rd c (envX n E) h.toA Q := by
  intro k
  induction k with
  | zero => intro E h v E' h' hx; cases hx
  | succ k ih =>
    intro E h v E' h' hx
    simp only [exLoopP] at hx
    split at hx
    · rename_i E1 h1 h0
      obtain ⟨p1, w1⟩ := hb _ _ _ _ _ h0
      obtain ⟨p2, w2⟩ := ih _ _ _ _ _ hx
      exact ⟨p1.trans p2, fun Q hQ => .step (w1 _ (w2 Q hQ))⟩
    · cases hx
    · obtain ⟨p1, w1⟩ := hbp _ _ _ _ _ hx
      exact ⟨p1, fun Q hQ => .step (w1 _ hQ)⟩
theorem exCodeP_sound {P : Program} (hP : P.follows .mixedOrders = true) {call cp : CT} (hcall : SoundCT P call) (hcp : SoundPT P cp) {K n : Nat} {rd : Option Nat} : ∀ (c : Code) (E : XE) (h : XH) (v : AVal) (E' : XE) (h' : XH),
    exCodeP P call cp K n rd c E h = some (v, E', h') → Pres h h' ∧ ∀ Q : AExit → AEnv → AHeap → Prop, Q (.panic v) (envX n E') h'.toA → RunC P rd c (envX n E) h.toA Q := by
  intro c
  induction c with
  | region id ops draw =>
    intro E h v E' h' hx
    simp only [exCodeP] at hx
    split at hx
    · cases hx
    · rename_i l hl
      obtain ⟨h1, h2⟩ := compOpers_get _ _ hl
      have h2' : ∀ (j : Nat) o, ops[j]? = some o → compOper P n ops o = l[j]? := fun j o ho => h2 j o (by simpa using ho)
      cases draw with
      | true =>
        simp only [cond_true] at hx
        obtain ⟨p, w⟩ := exDrawP_sound hP hcall hcp hx
        exact ⟨p, fun Q hQ => w (by simpa using h1) h2' Q hQ⟩
      | false =>
        simp only [cond_false] at hx
        obtain ⟨p, w⟩ := exOpsP_sound hcall hcp (rd := rd) _ _ _ _ _ _ hx
        refine ⟨p, fun Q hQ => .region (ops_sound (List.range ops.size) l _ _ rfl (by simp [h1]) (fun k i o hk ho => ?_) (by simp) (w Q hQ))⟩
        rw [List.getElem?_range] at hk
        · cases hk; exact h2' k o ho
        · have := (List.getElem?_eq_some_iff.1 hk).1; simpa using this
  | seq x y ihx ihy =>
    intro E h v E' h' hx
    simp only [exCodeP] at hx
    split at hx
    · rename_i E1 h1 h0
      obtain ⟨p1, w1⟩ := exCode_sound hP hcall _ _ _ _ _ _ (exCodeW_sound' h0)
      obtain ⟨p2, w2⟩ := ihy _ _ _ _ _ hx
      exact ⟨p1.trans p2, fun Q hQ => .seq (w1 _ (w2 Q hQ))⟩
    · cases hx
    · obtain ⟨p1, w1⟩ := ihx _ _ _ _ _ hx
      exact ⟨p1, fun Q hQ => .seq (w1 _ hQ)⟩
  | cond c x y ihx ihy =>
    intro E h v E' h' hx
    simp only [exCodeP] at hx
    split at hx
    · rename_i c' hc
      split at hx
      · rename_i t ht
        cases t with
        | true =>
          obtain ⟨p, w⟩ := ihx _ _ _ _ _ hx
          exact ⟨p, fun Q hQ => .cond (t := true) hc ht (w Q hQ)⟩
        | false =>
          obtain ⟨p, w⟩ := ihy _ _ _ _ _ hx
          exact ⟨p, fun Q hQ => .cond (t := false) hc ht (w Q hQ)⟩
      · cases hx
    · cases hx
  | block id x ih =>
    intro E h v E' h' hx
    simp only [exCodeP] at hx
    obtain ⟨p, w⟩ := ih _ _ _ _ _ hx
    exact ⟨p, fun Q hQ => .block (w _ hQ)⟩
  | loop x ih =>
    intro E h v E' h' hx
    simp only [exCodeP] at hx
    obtain ⟨p, w⟩ := exLoopP_sound (P := P) (rd := rd) (n := n) (c := x) (fun E h e E' h' h0 => exCode_sound hP hcall _ _ _ _ _ _ (exCodeW_sound' h0)) ih _ _ _ _ _ _ hx
    refine ⟨p, fun Q hQ => ?_⟩
    obtain ⟨e', env1, σ1, q, hn, r⟩ := w Q hQ
    exact ⟨e', env1, σ1, q, hn, fun ι ro w a r' b hr R E M hb Qc hQ => wpIn_loopAt (r ι ro w a r' b hr R E M hb Qc hQ)⟩
  | scope x ih =>
    intro E h v E' h' hx
    simp only [exCodeP] at hx
    obtain ⟨p, w⟩ := ih _ _ _ _ _ hx
    exact ⟨p, fun Q hQ => .scope (w _ ⟨(fun l he => by cases he), hQ⟩)⟩
  | _ => intros; rename_i hx; simp [exCodeP] at hx
end
end Go.Tc
namespace Go.Tc
set_option linter.unusedSimpArgs false
set_option linter.unusedVariables false
noncomputable section
def partsD (P : Program) (g : FuncId) : Option (Nat × Nat × Nat × Code × List ARes) :=
  match compD P g with
  | some (n, a, b, _, rs) => (match P.funcs[g]? with
    | some fn => (match fn.body with
      | some (.seq (.region _ _ false) c) => some (n, a, b, c, rs)
      | _ => none)
    | none => none)
  | none => none
theorem partsD_spec {P : Program} {g : FuncId} {n a b : Nat} {c : Code} {rs : List ARes} (h : partsD P g = some (n, a, b, c, rs)) : ∃ fn id ops ac, P.funcs[g]? = some fn ∧ fn.body = some (.seq (.region id ops false) c) ∧ compD P g = some (n, a, b, ac, rs) := by
  unfold partsD at h
  split at h
  · rename_i n' a' b' ac rs' hc
    split at h
    · rename_i fn hf
      split at h
      · rename_i id ops c' hb
        cases h
        exact ⟨fn, id, ops, ac, hf, hb, hc⟩
      · cases h
    · cases h
  · cases h
def exDefC (call : CT) (K n a b : Nat) (rs : List ARes) (c : CodeR) (p : AVal) (h : XH) : Option (Trie AVal) → Option XH
  | some t => (match XE.put ⟨t, fun _ => .tup [], []⟩ (some a) p with
    | some E1 => (match E1.put (some b) p with
      | some E2 => (match exRes n rs (c.run call K none E2 h) with | some (_, h') => some h' | none => none)
      | none => none)
    | none => none)
  | none => none
def exDef (P : Program) (call : CT) (K : Nat) (pan : Option AVal) (h : XH) (fv : AVal) (zs : List AVal) : Option XH :=
  match fv with
  | .func (.func g) first caps => (match partsD P g with
    | some (n, a, b, c, rs) => bif Nat.ble (first ++ zs ++ caps).length n && Nat.blt a n then
        exDefC call K n a b rs (codeW P n c) (pan.getD .nilI) h (argsX 0 (first ++ zs ++ caps) .nil)
      else none
    | none => none)
  | _ => none
theorem exRes_spec {n : Nat} {rs : List ARes} {r : CRes} {v : AVal} {h' : XH} (h : exRes n rs r = some (v, h')) : ∃ e E vs, r = some (e, E, h') ∧ (e = .normal ∨ e = .ret) ∧ E.ds = [] ∧ resAs (envX n E) h'.toA rs = some vs ∧ v = tupA vs := by
  have key : ∀ (e : AExit) (E : XE) (h1 : XH), (e = .normal ∨ e = .ret) → r = some (e, E, h1) → (match E.ds with | [] => (match resAs (envX n E) h1.toA rs with | some vs => some (tupA vs, h1) | none => none) | _ => none) = some (v, h') →
      ∃ e E vs, r = some (e, E, h') ∧ (e = .normal ∨ e = .ret) ∧ E.ds = [] ∧ resAs (envX n E) h'.toA rs = some vs ∧ v = tupA vs := by
    intro e E h1 he hr h
    split at h
    · rename_i hds
      split at h
      · rename_i vs hvs
        cases h
        exact ⟨e, E, vs, hr, he, hds, hvs, rfl⟩
      · cases h
    · cases h
  unfold exRes at h
  split at h
  · exact key _ _ _ (.inl rfl) rfl h
  · exact key _ _ _ (.inr rfl) rfl h
  · cases h
theorem exDef_sound {P : Program} (hP : P.follows .mixedOrders = true) {call : CT} (hcall : SoundCT P call) {K : Nat} {pan : Option AVal} {h h' : XH} {fv : AVal} {zs : List AVal} (hx : exDef P call K pan h fv zs = some h') :
    Pres h h' ∧ RunD P fv zs h.toA pan (fun took s => took = pan.isSome ∧ s = h'.toA) := by
  unfold exDef at hx
  split at hx
  · rename_i g first caps
    split at hx
    · rename_i n a b c rs hpd
      obtain ⟨fn, id, ops, ac, hf, hb, hcd⟩ := partsD_spec hpd
      by_cases hl : (Nat.ble (first ++ zs ++ caps).length n && Nat.blt a n) = true
      · rw [hl] at hx
        simp only [cond_true] at hx
        simp only [Bool.and_eq_true, Nat.ble_eq, Nat.blt_eq] at hl
        cases ht : argsX 0 (first ++ zs ++ caps) .nil with
        | none => rw [ht] at hx; cases hx
        | some t =>
          rw [ht] at hx
          simp only [exDefC] at hx
          split at hx
          · rename_i E1 h1
            split at hx
            · rename_i E2 h2
              split at hx
              · rename_i v h3 hr
                cases hx
                obtain ⟨e, E, vs, hc, he, hds, hvs, _⟩ := exRes_spec hr
                rw [codeW_eq] at hc
                obtain ⟨p, w⟩ := exCode_sound hP hcall _ _ _ _ _ _ hc
                refine ⟨p, RunD.funcC hcd hf hb hl.1 hl.2 ?_⟩
                rw [XE.put_env h2, XE.put_env h1, argsX_env ht] at w
                refine w _ ?_
                rcases he with rfl | rfl
                · exact ⟨hds, ⟨vs, hvs⟩, rfl, rfl⟩
                · exact ⟨hds, ⟨vs, hvs⟩, rfl, rfl⟩
              · cases hx
            · cases hx
          · cases hx
      · rw [Bool.not_eq_true] at hl; rw [hl] at hx; cases hx
    · cases hx
  · cases hx
def exEndR (n : Nat) (rs : List ARes) (E : XE) : Option XH → Option (AOut × XH)
  | some h => (match resAs (envX n E) h.toA rs with | some vs => some (.ret (tupA vs), h) | none => none)
  | none => none
def exEnd (P : Program) (call : CT) (K n : Nat) (rs : List ARes) (vp : Option AVal) (E : XE) (h : XH) : Option (AOut × XH) :=
  match E.ds with
  | [] => (match vp with
    | none => exEndR n rs E (some h)
    | some v => some (.panic v, h))
  | [(fv, zs)] => exEndR n rs E (exDef P call K vp h fv zs)
  | _ => none
def exitOf : Option AVal → AExit → Prop
  | none, e => e = .normal ∨ e = .ret
  | some v, e => e = .panic v
theorem exEnd_sound {P : Program} (hP : P.follows .mixedOrders = true) {call : CT} (hcall : SoundCT P call) {K n : Nat} {rs : List ARes} {vp : Option AVal} {E : XE} {h h' : XH} {o : AOut} (hx : exEnd P call K n rs vp E h = some (o, h')) :
    Pres h h' ∧ ∀ Q : AOut → AHeap → Prop, Q o h'.toA → ∀ e, exitOf vp e → retD P rs Q e (envX n E) h.toA := by
  unfold exEnd at hx
  have hE : (envX n E).ds = E.ds := rfl
  split at hx
  · rename_i hds
    rw [hds] at hE
    cases vp with
    | none =>
      simp only [exEndR] at hx
      split at hx
      · rename_i vs hvs
        cases hx
        refine ⟨.refl _, fun Q hQ e he => ?_⟩
        rcases he with rfl | rfl <;> · simp only [retD, hE, hvs]; exact hQ
      · cases hx
    | some v =>
      cases hx
      refine ⟨.refl _, fun Q hQ e he => ?_⟩
      cases he
      simp only [retD, hE]; exact hQ
  · rename_i fv zs hds
    rw [hds] at hE
    cases hd : exDef P call K vp h fv zs with
    | none => rw [hd] at hx; cases hx
    | some h1 =>
      rw [hd] at hx
      simp only [exEndR] at hx
      split at hx
      · rename_i vs hvs
        cases hx
        obtain ⟨p, took, s, ⟨rfl, rfl⟩, hc⟩ := exDef_sound hP hcall hd
        refine ⟨p, fun Q hQ e he => ?_⟩
        cases vp with
        | none =>
          rcases he with rfl | rfl <;> · simp only [retD, hE]; exact ⟨_, _, by simp only [hvs]; exact hQ, hc⟩
        | some v =>
          cases he
          simp only [retD, hE]
          exact ⟨_, _, by simp only [Option.isSome, if_true, hvs]; exact hQ, hc⟩
      · cases hx
  · cases hx
def exGo2 (P : Program) (call cp : CT) (K n : Nat) (rs : List ARes) (c : Code) (t : Trie AVal) (h : XH) : CRes → Option (AOut × XH)
  | some (.normal, E, h1) => exEnd P call K n rs none E h1
  | some (.ret, E, h1) => exEnd P call K n rs none E h1
  | some _ => none
  | none => match exCodeP P call cp K n none c ⟨t, fun _ => .tup [], []⟩ h with
    | some (v, E, h1) => exEnd P call K n rs (some v) E h1
    | none => none
def exGo2' (P : Program) (call cp : CT) (K n : Nat) (rs : List ARes) (c : Code) (cw : CodeR) (h : XH) : Option (Trie AVal) → Option (AOut × XH)
  | some t => exGo2 P call cp K n rs c t h (cw.run call K none ⟨t, fun _ => .tup [], []⟩ h)
  | none => none
def exFn2 (P : Program) (call cp : CT) (K : Nat) (zs : List AVal) (h : XH) : Option (Nat × Code × List ARes) → Option (AOut × XH)
  | some (n, c, rs) => Bool.rec (motive := fun _ => Option (AOut × XH)) none (exGo2' P call cp K n rs c (codeW P n c) h (argsX 0 zs .nil)) (Nat.ble zs.length n)
  | none => none
def orElse2 (h : XH) (e : Option (AOut × XH)) : Option AVal → Option (AOut × XH)
  | some v => some (.ret v, h)
  | none => e
def retO : Option (AOut × XH) → Option (AVal × XH)
  | some (.ret v, h) => some (v, h)
  | _ => none
def panO : Option (AOut × XH) → Option (AVal × XH)
  | some (.panic v, h) => some (v, h)
  | _ => none
def retX (r : Option (AVal × XH)) : Option (AOut × XH) :=
  match r with
  | some (v, h) => some (.ret v, h)
  | none => none
def exCall2 (P : Program) (O : Orc) (K : Nat) : Nat → AVal → List AVal → XH → Option (AOut × XH)
  | 0, _, _, _ => none
  | d + 1, f, args, h => match f with
    | .func (.func f) first caps => orElse2 h (exFn2 P (fun f zs h => retO (exCall2 P O K d f zs h)) (fun f zs h => panO (exCall2 P O K d f zs h)) K (first ++ args ++ caps) h (bodyX P f)) (exOrc O f first caps args h)
    | .yield L => retX (exRound P (fun f zs h => retO (exCall2 P O K d f zs h)) K L args h)
    | _ => none
def SoundC2 (P : Program) (c : AVal → List AVal → XH → Option (AOut × XH)) : Prop := ∀ f zs h o h', c f zs h = some (o, h') → Pres h h' ∧ RunV P f zs h.toA (fun o' s => o' = o ∧ s = h'.toA)
theorem SoundC2.ret {P : Program} {c : AVal → List AVal → XH → Option (AOut × XH)} (h : SoundC2 P c) : SoundCT P (fun f zs h => retO (c f zs h)) := by
  intro f zs h0 v h' hx
  simp only [retO] at hx
  split at hx
  · rename_i he; cases hx; exact h _ _ _ _ _ he
  · cases hx
theorem SoundC2.pan {P : Program} {c : AVal → List AVal → XH → Option (AOut × XH)} (h : SoundC2 P c) : SoundPT P (fun f zs h => panO (c f zs h)) := by
  intro f zs h0 v h' hx
  simp only [panO] at hx
  split at hx
  · rename_i he; cases hx; exact h _ _ _ _ _ he
  · cases hx
theorem exFn2_sound {P : Program} (hP : P.follows .mixedOrders = true) {call cp : CT} (hcall : SoundCT P call) (hcp : SoundPT P cp) {K : Nat} {f : FuncId} {first args caps : List AVal} {h h' : XH} {o : AOut}
    (hx : exFn2 P call cp K (first ++ args ++ caps) h (bodyX P f) = some (o, h')) : Pres h h' ∧ RunV P (.func (.func f) first caps) args h.toA (fun o' s => o' = o ∧ s = h'.toA) := by
  cases hbx : bodyX P f with
  | none => rw [hbx] at hx; cases hx
  | some r =>
    obtain ⟨n, c, rs⟩ := r
    rw [hbx] at hx
    cases hb : Nat.ble (first ++ args ++ caps).length n with
    | false => simp only [exFn2, hb] at hx; cases hx
    | true =>
      simp only [exFn2, hb] at hx
      cases ht : argsX 0 (first ++ args ++ caps) .nil with
      | none => rw [ht] at hx; cases hx
      | some t =>
        rw [ht] at hx
        simp only [exGo2'] at hx
        obtain ⟨fn, ac, hf, hbd, hcf⟩ := bodyX_spec hbx
        rw [codeW_eq] at hx
        have key : ∀ (e : AExit) (E : XE) (h1 : XH), (e = .normal ∨ e = .ret) → exCode P call K n none c ⟨t, fun _ => .tup [], []⟩ h = some (e, E, h1) → exEnd P call K n rs none E h1 = some (o, h') →
            Pres h h' ∧ RunV P (.func (.func f) first caps) args h.toA (fun o' s => o' = o ∧ s = h'.toA) := by
          intro e E h1 he hc hr
          obtain ⟨p, w⟩ := exCode_sound hP hcall _ _ _ _ _ _ hc
          obtain ⟨p2, w2⟩ := exEnd_sound hP hcall hr
          rw [argsX_env ht] at w
          exact ⟨p.trans p2, RunV.funcDC hcf hf hbd (by simpa using hb) (w _ (w2 _ ⟨rfl, rfl⟩ _ he))⟩
        generalize hr : exCode P call K n none c ⟨t, fun _ => .tup [], []⟩ h = r at hx
        unfold exGo2 at hx
        split at hx
        · exact key _ _ _ (.inl rfl) hr hx
        · exact key _ _ _ (.inr rfl) hr hx
        · cases hx
        · split at hx
          · rename_i v E h1 hc
            obtain ⟨p, w⟩ := exCodeP_sound hP hcall hcp _ _ _ _ _ _ hc
            obtain ⟨p2, w2⟩ := exEnd_sound hP hcall hx
            rw [argsX_env ht] at w
            exact ⟨p.trans p2, RunV.funcDC hcf hf hbd (by simpa using hb) (w _ (w2 _ ⟨rfl, rfl⟩ _ rfl))⟩
          · cases hx
theorem exCall2_sound {P : Program} (hP : P.follows .mixedOrders = true) {O : Orc} (hO : SoundO P O) {K : Nat} : ∀ d, SoundC2 P (exCall2 P O K d) := by
  intro d
  induction d with
  | zero => intro f zs h v h' hx; cases hx
  | succ d ih =>
    intro f zs h o h' hx
    simp only [exCall2] at hx
    split at hx
    · rename_i f first caps
      cases ho : exOrc O f first caps zs h with
      | none => rw [ho] at hx; exact exFn2_sound hP ih.ret ih.pan hx
      | some v1 =>
        rw [ho] at hx
        cases hx
        unfold exOrc at ho
        cases first with
        | cons _ _ => cases ho
        | nil =>
          cases caps with
          | cons _ _ => cases ho
          | nil => exact ⟨.refl _, hO _ _ _ _ ho⟩
    · unfold retX at hx
      split at hx
      · rename_i he; cases hx; exact exRound_sound hP ih.ret he
      · cases hx
    · cases hx
def exTest2 (P : Program) (O : Orc) (K d : Nat) (f : FuncId) : Bool :=
  match exCall2 P O K d (.func (.func f) [] []) [] ⟨.nil, 0, 0⟩ with
  | some (.ret (.bool true), _) => true
  | _ => false
theorem exTest2_spec {P : Program} (hP : P.follows .mixedOrders = true) {O : Orc} (hO : SoundO P O) {K d : Nat} {f : FuncId} (h : exTest2 P O K d f = true) {σ : AHeap} {Q : AOut → AHeap → Prop} (hQ : Q (.ret (.bool true)) σ) : RunV P (.func (.func f) [] []) [] σ Q := by
  unfold exTest2 at h
  split at h
  · rename_i h' hx
    obtain ⟨_, o, s, ⟨rfl, rfl⟩, hc⟩ := exCall2_sound hP hO d _ _ _ _ _ hx
    have h0 : (⟨.nil, 0, 0⟩ : XH).toA = nilHeap := rfl
    rw [h0] at hc
    have := hc.uniS (by simp) rfl σ
    exact RunV.drop ⟨_, _, ⟨_, rfl, rfl, plus_ext σ _, hQ⟩, this⟩
  · cases h
end
end Go.Tc
