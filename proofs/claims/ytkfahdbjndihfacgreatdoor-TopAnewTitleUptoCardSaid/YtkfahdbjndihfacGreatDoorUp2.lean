/- Proved here: for every argument of bulk at most 1048576 TopAnewTitle answers true and leaves its argument as it was. (part 2 of 6.) -/
import Derived.Test.YtkfahdbjndihfacGreatDoorUp1
import Derived.RangeFuncRecord
import Derived.OrdersIn
set_option linter.unusedSimpArgs false
set_option linter.unusedVariables false
set_option linter.unnecessarySimpa false
namespace Go.Tc
set_option linter.unusedSimpArgs false
structure AOper where
  dst : Option Nat
  op : AOp
  guard : Option (Nat × Bool)
  aft : List Nat
  deriving Inhabited
def gOk (g : Option (Nat × Bool)) (env : AEnv) : Option Bool :=
  match g with
  | none => some true
  | some (t, want) => match env.t t with
    | .bool b => some (b == want)
    | .tup [] => some false
    | _ => none
def isDfr : AOp → Bool
  | .dfr .. => true
  | _ => false
def wpOne (P : Program) (rd : Option Nat) (o : AOper) (env : AEnv) (σ : AHeap) (K : AEnv → AHeap → Prop) (X : AVal → AHeap → Prop) : Prop :=
  match o.op with
  | .dfr f args => (match rd, env.ev f with
    | none, .func fn first caps => (∀ l, fn ≠ .yield l) ∧ K ({ env with ds := (.func fn first caps, args.map env.ev) :: env.ds }.put o.dst (.tup [])) σ
    | _, _ => False)
  | ao => OpW P ao env σ (fun v σ' => K (env.put o.dst v) σ') X
def wpOps (P : Program) (rd : Option Nat) : List AOper → AEnv → AHeap → (AExit → AEnv → AHeap → Prop) → Prop
  | [], env, σ, Q => Q .normal env σ
  | o :: os, env, σ, Q => match gOk o.guard env with
    | some true => wpOne P rd o env σ (fun env' σ' => wpOps P rd os env' σ' Q) (fun v σ' => Q (.panic v) env σ')
    | some false => wpOps P rd os (env.put o.dst (.tup [])) σ Q
    | none => False
def guardOf (ops : Array Oper) (n : Nat) (g : Option (Nat × Bool)) : Option (Option (Nat × Bool)) :=
  match g with
  | none => some none
  | some (j, want) => match (ops[j]?).bind (·.dst) with
    | some t => if t < n then some (some (t, want)) else none
    | none => none
def edgesOf (o : Oper) : List Nat := o.after.toList.filterMap fun e => if Region.binds .any e then some e.on else none
def compOper (P : Program) (n : Nat) (ops : Array Oper) (o : Oper) : Option AOper :=
  (compOp P n o).bind fun ao => (guardOf ops n o.guard).map fun g => { dst := o.dst, op := ao, guard := g, aft := edgesOf o }
def compOpers (P : Program) (n : Nat) (ops : Array Oper) : List Oper → Option (List AOper)
  | [] => some []
  | o :: os => (compOper P n ops o).bind fun x => (compOpers P n ops os).map (x :: ·)
def marksOf (ds : List Deferred) : List Nat := ds.filterMap fun d => match d.target with | .collected r => some r | _ => none
structure Marks (b : Nat) (ι : Nm) (σ : AHeap) (w : World) (a : Act) : Prop where
  nodup : (marksOf a.defers).Nodup
  each : ∀ r ∈ marksOf a.defers, b ≤ r ∧ w.heap[r]? = some (Obj.deferred (some [])) ∧ ¬ OwnO ι σ r
theorem Marks.later {b : Nat} {ι ι' : Nm} {ro ro' : Ros} {σ σ' : AHeap} {w w' : World} {a : Act} (M : Marks b ι σ w a) (L : Later ι ro σ w ι' ro' σ' w') : Marks b ι' σ' w' a := by
  refine ⟨M.nodup, fun r hr => ?_⟩
  obtain ⟨h1, h2, h3⟩ := M.each r hr
  exact ⟨h1, L.frame.objs r _ h2 rfl h3, fun h => h3 (L.ownO r (Array.getElem?_eq_some_iff.1 h2).1 h)⟩
theorem Marks.put {b : Nat} {ι : Nm} {σ : AHeap} {w : World} {a : Act} (M : Marks b ι σ w a) (d : Option Nat) (u : Value) : Marks b ι σ w (a.put d u) := by
  cases d <;> exact ⟨M.nodup, M.each⟩
def Ends (b : Nat) (ι : Nm) (ro : Ros) (σ : AHeap) (w : World) (e : AExit) (env' : AEnv) (σ' : AHeap) (Qc : Exit → Act → World → Prop) : Prop :=
  ∀ ι' ro' e' a' w', Later ι ro σ w ι' ro' σ' w' → Rel ι' ro' σ' w' → EnvRel ι' ro' w' env' a' → Marks b ι' σ' w' a' → ExitRel ι' ro' w' e e' → Qc e' a' w'
theorem Ends.later {b : Nat} {ι ι1 : Nm} {ro ro1 : Ros} {σ σ1 : AHeap} {w w1 : World} {e : AExit} {env' : AEnv} {σ' : AHeap} {Qc : Exit → Act → World → Prop}
    (h : Ends b ι ro σ w e env' σ' Qc) (L : Later ι ro σ w ι1 ro1 σ1 w1) : Ends b ι1 ro1 σ1 w1 e env' σ' Qc :=
  fun ι' ro' e' a' w' L' R' E' M' X' => h ι' ro' e' a' w' (L.trans L') R' E' M' X'
def RunL (P : Program) (rd : Option Nat) (ops : Array Oper) (is : List Nat) (env : AEnv) (σ : AHeap) (Q : AExit → AEnv → AHeap → Prop) : Prop :=
  ∃ e env' σ', Q e env' σ' ∧ env'.n = env.n ∧ ∀ ι ro w a r b, RdOk ι rd r → Rel ι ro σ w → EnvRel ι ro w env a → Marks b ι σ w a →
    ∀ Qc, Ends b ι ro σ w e env' σ' Qc → wpOpsIn (Fr r) 0 P ops Qc is a w
theorem wanted_of {ops : Array Oper} {n : Nat} {o : Oper} {g : Option (Nat × Bool)} (hg : guardOf ops n o.guard = some g) {env : AEnv} (hn : env.n = n) {b : Bool} (h : gOk g env = some b)
    {ι : Nm} {ro : Ros} {w : World} {a : Act} (E : EnvRel ι ro w env a) : Region.wanted o (yielded ops a.tmps) = b := by
  unfold guardOf at hg
  unfold Region.wanted
  split at hg
  · rename_i ho
    cases hg
    simp only [gOk] at h; cases h; rw [ho]
  · rename_i j want ho
    rw [ho]
    simp only at hg ⊢
    split at hg
    · rename_i t ht
      split at hg
      · rename_i hlt
        cases hg
        simp only [gOk] at h
        simp only [yielded, ht, Option.bind_some]
        have hsz : t < a.tmps.size := by rw [E.size, hn]; exact hlt
        have hv := E.t t _ (Array.getElem?_eq_getElem hsz)
        rw [Array.getElem?_eq_getElem hsz]
        generalize a.tmps[t] = u at hv
        split at h
        · rename_i c hc
          rw [hc] at hv; cases hv; cases h
          cases c <;> cases want <;> rfl
        · rename_i hc
          rw [hc] at hv; cases h; cases hv
          rfl
        · cases h
      · cases hg
    · cases hg
theorem put_n (env : AEnv) (d : Option Nat) (v : AVal) : (env.put d v).n = env.n := by cases d <;> rfl
theorem tupNil (ι : Nm) (ro : Ros) (w : World) : VRel ι ro w (.tup []) undef := .tup (by simp) (by simp)
theorem ops_sound {P : Program} {rd : Option Nat} {ops : Array Oper} {n : Nat} {Q : AExit → AEnv → AHeap → Prop} : ∀ (is : List Nat) (l : List AOper) (env : AEnv) (σ : AHeap),
    env.n = n → is.length = l.length → (∀ (k : Nat) i o, is[k]? = some i → ops[i]? = some o → (compOper P n ops o) = l[k]?) → (∀ i ∈ is, i < ops.size) →
    wpOps P rd l env σ Q → RunL P rd ops is env σ Q := by
  intro is
  induction is with
  | nil =>
    intro l env σ hn hl _ _ h
    have : l = [] := by cases l with | nil => rfl | cons => simp at hl
    subst this
    exact ⟨.normal, env, σ, h, rfl, fun ι ro w a r b _ R E M Qc hQ => by simp only [wpOpsIn]; exact hQ _ _ _ _ _ (.refl _ _ _ _) R E M .normal⟩
  | cons i is ih =>
    intro l env σ hn hl hcs hlt h
    cases l with
    | nil => simp at hl
    | cons ao os =>
      have hi : i < ops.size := hlt i (by simp)
      have ho : ops[i]? = some ops[i] := Array.getElem?_eq_getElem hi
      generalize ops[i] = o at ho
      have hc := hcs 0 i o rfl ho
      simp only [List.getElem?_cons_zero, compOper, Option.bind_eq_some_iff, Option.map_eq_some_iff] at hc
      obtain ⟨ap, hop, g, hg, rfl⟩ := hc
      have ih' := fun env' σ' (hn' : env'.n = n) => ih os env' σ' hn' (by simpa using hl) (fun k i o hk => hcs (k + 1) i o (by simpa using hk)) (fun i h => hlt i (by simp [h]))
      simp only [wpOps] at h
      split at h
      · rename_i hgo
        have hgo : gOk g env = some true := hgo
        by_cases hd : isDfr ap = true
        ·
          cases ap <;> simp only [isDfr, Bool.false_eq_true] at hd
          rename_i f args
          simp only [wpOne] at h
          split at h
          · rename_i fn first caps hev
            obtain ⟨hfn, h⟩ := h
            obtain ⟨e, env', σ', hq, hn2, hrun⟩ := ih' _ _ (by rw [put_n]; exact hn) h
            refine ⟨e, env', σ', hq, by rw [hn2, put_n], fun ι ro w a r b hr R E M Qc hQ => ?_⟩
            simp only [wpOpsIn, ho, wanted_of hg hn hgo E, if_true]
            obtain ⟨c, hoc, x, hcal, hx, ha⟩ : ∃ c, o.op = .defer c ∧ ∃ x, c.callee = .value x ∧ cOpnd n x = some f ∧ cOpnds n c.args.toList = some args := by
              unfold compOp at hop
              split at hop
              all_goals try (
                exfalso
                try unfold compCall at hop
                repeat' (first
                  | (simp only [Option.bind_eq_some_iff, Option.map_eq_some_iff] at hop)
                  | (cases hop; done)
                  | (obtain ⟨_, _, hop⟩ := hop)
                  | (split at hop))
                done)
              rename_i c hoc
              split at hop
              · rename_i x hcal
                simp only [Option.bind_eq_some_iff, Option.map_eq_some_iff] at hop
                obtain ⟨f', hf', zs, has, hop⟩ := hop
                cases hop
                exact ⟨c, hoc, x, hcal, hf', has⟩
              · cases hop
            have hv := eval_rel E (show cOpnd env.n x = some f by rw [hn]; exact hx)
            rw [hev] at hv
            have hargs := evals_rel E (by rw [hn]; exact ha)
            generalize hqv : a.eval x = q at hv
            have hv0 := hv
            cases hv with
            | @func _ _ _ first' caps' hnn h1 h2 h3 h4 =>
            have hrno : r = none := by cases r with | none => rfl | some => cases hr
            subst hrno
            refine ⟨fun f _ => trivial, ?_⟩
            simp only [Fr, Oper.semAt_none, execOp, hoc, resolve, hcal, hqv, Deferred.ofValue, pure_bind, Sem.run_pure, Oper.uponIn]
            have M2 : Marks b ι σ w { tmps := a.tmps, defers := { target := Target.fn fn caps', args := first' ++ Array.map a.eval c.args } :: a.defers } :=
              ⟨by simpa [marksOf] using M.nodup, by simpa [marksOf] using M.each⟩
            refine hrun ι ro w _ none b hr R ?_ (M2.put _ _) Qc hQ
            have E2 : EnvRel ι ro w { n := env.n, t := env.t, ds := (AVal.func fn first caps, List.map env.ev args) :: env.ds }
                { tmps := a.tmps, defers := { target := Target.fn fn caps', args := first' ++ Array.map a.eval c.args } :: a.defers } := ?_
            · exact E2.put _ (tupNil _ _ _)
            have hfl : List.filter noMark ({ target := Target.fn fn caps', args := first' ++ Array.map a.eval c.args } :: a.defers) = { target := Target.fn fn caps', args := first' ++ Array.map a.eval c.args } :: a.defers.filter noMark :=
              List.filter_cons_of_pos rfl
            refine ⟨E.size, E.t, by rw [hfl]; simp [E.ds.1], ?_⟩
            rw [hfl]
            intro i d y hy hdd
            cases i with
            | zero =>
              simp at hy hdd; subst hy; subst hdd
              exact ⟨_, _, rfl, first', hv0, _, rfl, by simpa [← Array.toList_map] using hargs⟩
            | succ i => simp at hy hdd; exact E.ds.2 i d y hy hdd
          · exact h.elim
        · have hd' : ∀ f args, ap ≠ .dfr f args := fun f args he => by subst he; simp [isDfr] at hd
          have h' : OpW P ap env σ (fun v σ' => wpOps P rd os (env.put o.dst v) σ' Q) (fun v σ' => Q (.panic v) env σ') := by
            unfold wpOne at h
            cases ap <;> first | exact h | (simp [isDfr] at hd)
          obtain ⟨out, σ1, hk, hmet⟩ := op_sound hop hd' hn h'
          cases out with
          | ret v =>
            obtain ⟨e, env', σ', hq, hn2, hrun⟩ := ih' _ _ (by rw [put_n]; exact hn) hk
            refine ⟨e, env', σ', hq, by rw [hn2, put_n], fun ι ro w a r b hr R E M Qc hQ => ?_⟩
            simp only [wpOpsIn, ho, wanted_of hg hn hgo E, if_true]
            refine hmet ι ro w a r R E _ _ ?_ ?_
            · intro v' hv' ι1 ro1 u w1 L R1 hv1
              cases hv'
              exact hrun ι1 ro1 w1 _ r b (hr.later L.ext) R1 ((E.later R L).put _ hv1) ((M.later L).put _ _) Qc (hQ.later L)
            · intro v' hv'; cases hv'
          | panic v =>
            refine ⟨.panic v, env, σ1, hk, rfl, fun ι ro w a r b hr R E M Qc hQ => ?_⟩
            simp only [wpOpsIn, ho, wanted_of hg hn hgo E, if_true]
            refine hmet ι ro w a r R E _ _ ?_ ?_
            · intro v' hv'; cases hv'
            · intro v' hv' ι1 ro1 u w1 L R1 hv1
              cases hv'
              exact hQ _ _ _ _ _ L R1 (E.later R L) (M.later L) (.panic hv1)
      · rename_i hgo
        have hgo : gOk g env = some false := hgo
        obtain ⟨e, env', σ', hq, hn2, hrun⟩ := ih' _ _ (by rw [put_n]; exact hn) h
        refine ⟨e, env', σ', hq, by rw [hn2, put_n], fun ι ro w a r b hr R E M Qc hQ => ?_⟩
        simp only [wpOpsIn, ho, wanted_of hg hn hgo E, Bool.false_eq_true, if_false]
        exact ⟨fun f _ => trivial, hrun ι ro w _ r b hr R (E.put _ (tupNil _ _ _)) (M.put _ _) Qc hQ⟩
      · exact h.elim
end Go.Tc
namespace Go.Tc
set_option linter.unusedSimpArgs false
def RunC (P : Program) (rd : Option Nat) (c : Code) (env : AEnv) (σ : AHeap) (Q : AExit → AEnv → AHeap → Prop) : Prop :=
  ∃ e env' σ', Q e env' σ' ∧ env'.n = env.n ∧ ∀ ι ro w a r b, RdOk ι rd r → Rel ι ro σ w → EnvRel ι ro w env a → Marks b ι σ w a → b ≤ w.heap.size →
    ∀ Qc, Ends b ι ro σ w e env' σ' Qc → c.wpIn (Fr r) 0 P Qc a w
def thenA (K : AEnv → AHeap → Prop) (Q : AExit → AEnv → AHeap → Prop) : AExit → AEnv → AHeap → Prop
  | .normal, env, σ => K env σ
  | e, env, σ => Q e env σ
section
variable {P : Program} {rd : Option Nat} {env : AEnv} {σ : AHeap} {Q : AExit → AEnv → AHeap → Prop}
theorem RunC.mono {c : Code} {Q' : AExit → AEnv → AHeap → Prop} (h : RunC P rd c env σ Q) (hq : ∀ e env' σ', env'.n = env.n → Q e env' σ' → Q' e env' σ') : RunC P rd c env σ Q' :=
  let ⟨e, env', σ', q, hn, r⟩ := h; ⟨e, env', σ', hq _ _ _ hn q, hn, r⟩
theorem RunC.skip (h : Q .normal env σ) : RunC P rd .skip env σ Q :=
  ⟨_, _, _, h, rfl, fun _ _ _ _ _ _ _ R E M _ _ hQ => wpIn_skip (hQ _ _ _ _ _ (.refl _ _ _ _) R E M .normal)⟩
theorem RunC.exit {id : Nat} (h : Q (.exit id) env σ) : RunC P rd (.exit id) env σ Q :=
  ⟨_, _, _, h, rfl, fun _ _ _ _ _ _ _ R E M _ _ hQ => wpIn_exit (hQ _ _ _ _ _ (.refl _ _ _ _) R E M (.exit id))⟩
theorem RunC.ret (h : Q .ret env σ) : RunC P rd .ret env σ Q :=
  ⟨_, _, _, h, rfl, fun _ _ _ _ _ _ _ R E M _ _ hQ => wpIn_ret (hQ _ _ _ _ _ (.refl _ _ _ _) R E M .ret)⟩
theorem RunC.region {id : Nat} {ops : Array Oper} (h : RunL P rd ops (List.range ops.size) env σ Q) : RunC P rd (.region id ops false) env σ Q := by
  obtain ⟨e, env', σ', q, hn, r⟩ := h
  exact ⟨e, env', σ', q, hn, fun ι ro w a r' b hr R E M _ Qc hQ => wpIn_region (r ι ro w a r' b hr R E M Qc hQ)⟩
theorem RunC.seq {x y : Code} (h : RunC P rd x env σ (thenA (fun env' σ' => RunC P rd y env' σ' Q) Q)) : RunC P rd (.seq x y) env σ Q := by
  obtain ⟨e, env1, σ1, q, hn, r⟩ := h
  cases e with
  | normal =>
    obtain ⟨e2, env2, σ2, q2, hn2, r2⟩ := q
    refine ⟨e2, env2, σ2, q2, hn2.trans hn, fun ι ro w a r' b hr R E M hb Qc hQ => wpIn_seq (r ι ro w a r' b hr R E M hb _ ?_)⟩
    intro ι' ro' e' a' w' L R' E' M' X'
    cases X'
    exact r2 ι' ro' w' a' r' b (hr.later L.ext) R' E' M' (Nat.le_trans hb L.frame.size) Qc (hQ.later L)
  | exit id =>
    refine ⟨.exit id, env1, σ1, q, hn, fun ι ro w a r' b hr R E M hb Qc hQ => wpIn_seq (r ι ro w a r' b hr R E M hb _ ?_)⟩
    intro ι' ro' e' a' w' L R' E' M' X'
    have := hQ ι' ro' e' a' w' L R' E' M' X'
    cases X'; exact this
  | goto id =>
    refine ⟨.goto id, env1, σ1, q, hn, fun ι ro w a r' b hr R E M hb Qc hQ => wpIn_seq (r ι ro w a r' b hr R E M hb _ ?_)⟩
    intro ι' ro' e' a' w' L R' E' M' X'
    have := hQ ι' ro' e' a' w' L R' E' M' X'
    cases X'; exact this
  | ret =>
    refine ⟨.ret, env1, σ1, q, hn, fun ι ro w a r' b hr R E M hb Qc hQ => wpIn_seq (r ι ro w a r' b hr R E M hb _ ?_)⟩
    intro ι' ro' e' a' w' L R' E' M' X'
    have := hQ ι' ro' e' a' w' L R' E' M' X'
    cases X'; exact this
  | panic v =>
    refine ⟨.panic v, env1, σ1, q, hn, fun ι ro w a r' b hr R E M hb Qc hQ => wpIn_seq (r ι ro w a r' b hr R E M hb _ ?_)⟩
    intro ι' ro' e' a' w' L R' E' M' X'
    have := hQ ι' ro' e' a' w' L R' E' M' X'
    cases X'; exact this
theorem RunC.cond {c : Operand} {c' : Opnd} {x y : Code} {t : Bool} (hc : cOpnd env.n c = some c') (ht : env.ev c' = .bool t) (h : RunC P rd (if t then x else y) env σ Q) : RunC P rd (.cond c x y) env σ Q := by
  obtain ⟨e, env1, σ1, q, hn, r⟩ := h
  refine ⟨e, env1, σ1, q, hn, fun ι ro w a r' b hr R E M hb Qc hQ => ?_⟩
  have hv := eval_rel E hc
  rw [ht] at hv
  generalize hu : a.eval c = u at hv
  cases hv
  exact wpIn_cond hu (r ι ro w a r' b hr R E M hb Qc hQ)
def blockA (id : Nat) (Q : AExit → AEnv → AHeap → Prop) : AExit → AEnv → AHeap → Prop
  | .exit id', env, σ => if id' = id then Q .normal env σ else Q (.exit id') env σ
  | e, env, σ => Q e env σ
theorem RunC.block {id : Nat} {x : Code} (h : RunC P rd x env σ (blockA id Q)) : RunC P rd (.block id x) env σ Q := by
  obtain ⟨e, env1, σ1, q, hn, r⟩ := h
  have other : (∀ id', e ≠ .exit id') → Q e env1 σ1 → RunC P rd (.block id x) env σ Q := by
    intro he hq
    refine ⟨e, env1, σ1, hq, hn, fun ι ro w a r' b hr R E M hb Qc hQ => wpIn_block (r ι ro w a r' b hr R E M hb _ ?_)⟩
    intro ι' ro' e' a' w' L R' E' M' X'
    have := hQ ι' ro' e' a' w' L R' E' M' X'
    cases X' <;> first | exact this | exact absurd rfl (he _)
  cases e with
  | exit id' =>
    by_cases hid : id' = id
    · simp only [blockA, hid, if_true] at q
      refine ⟨.normal, env1, σ1, q, hn, fun ι ro w a r' b hr R E M hb Qc hQ => wpIn_block (r ι ro w a r' b hr R E M hb _ ?_)⟩
      intro ι' ro' e' a' w' L R' E' M' X'
      cases X'
      simp only [Exit.inBlock, hid, if_true]
      exact hQ ι' ro' _ a' w' L R' E' M' .normal
    · simp only [blockA, hid, if_false] at q
      refine ⟨.exit id', env1, σ1, q, hn, fun ι ro w a r' b hr R E M hb Qc hQ => wpIn_block (r ι ro w a r' b hr R E M hb _ ?_)⟩
      intro ι' ro' e' a' w' L R' E' M' X'
      have := hQ ι' ro' e' a' w' L R' E' M' X'
      cases X'
      simp only [Exit.inBlock, hid, if_false]
      exact this
  | normal => exact other (by simp) q
  | goto l => exact other (by simp) q
  | ret => exact other (by simp) q
  | panic v => exact other (by simp) q
def LoopAt (F : Fence) (n : Nat) (P : Program) (c : Code) (Q : Exit → Act → World → Prop) (a : Act) (w : World) : Prop :=
  ∀ (b : Go.Frame) (k : List Item) (cs : List Go.Frame), b.roundOf = F.round → F.fn b.fn → F.room (cs.length + 1 + n) →
    ∃ e a' w', Q e a' w' ∧ ArrivesIn (Machine.fenced P F) P (lone (b.atR a (.code c :: .inLoop c :: k)) cs w) b k cs e a' w'
theorem loopAt_step {F : Fence} {n : Nat} {c : Code} {Q : Exit → Act → World → Prop} {a : Act} {w : World} (h : c.wpIn F n P (Exit.then (LoopAt F n P c Q) Q) a w) : LoopAt F n P c Q a w := by
  intro b k cs hro hb hr
  obtain ⟨e, a₁, w₁, hq, harr⟩ := h b (.inLoop c :: k) cs hro hb hr
  cases e with
  | normal =>
    obtain ⟨e₂, a₂, w₂, hq₂, harr₂⟩ := hq b k cs hro hb hr
    exact ⟨e₂, a₂, w₂, hq₂, .of_steps (StepsIn.trans harr (.one (fenced_calm hb hr rfl) stepR_inLoop)) harr₂⟩
  | exit id => exact ⟨_, a₁, w₁, hq, .pass (x := .inLoop c) rfl (fun _ _ => .inl (by simp)) harr⟩
  | goto l => exact ⟨_, a₁, w₁, hq, .pass (x := .inLoop c) rfl (fun _ _ => .inl (by simp)) harr⟩
  | ret => exact ⟨_, a₁, w₁, hq, .pass (x := .inLoop c) rfl (fun _ _ => .inl (by simp)) harr⟩
  | panic ch => exact ⟨_, a₁, w₁, hq, .pass (x := .inLoop c) rfl (fun _ _ => .inl (by simp)) harr⟩
  | outgrown => exact ⟨_, a₁, w₁, hq, .pass (x := .inLoop c) rfl (fun _ _ => .inl (by simp)) harr⟩
theorem wpIn_loopAt {F : Fence} {n : Nat} {c : Code} {Q : Exit → Act → World → Prop} {a : Act} {w : World} (h : LoopAt F n P c Q a w) : (Code.loop c).wpIn F n P Q a w :=
  fun b k cs hro hb hr => let ⟨e, a', w', q, r⟩ := h b k cs hro hb hr; ⟨e, a', w', q, .of_steps (.one (fenced_calm hb hr rfl) stepR_loop) r⟩
def RunLp (P : Program) (rd : Option Nat) (c : Code) (env : AEnv) (σ : AHeap) (Q : AExit → AEnv → AHeap → Prop) : Prop :=
  ∃ e env' σ', Q e env' σ' ∧ env'.n = env.n ∧ ∀ ι ro w a r b, RdOk ι rd r → Rel ι ro σ w → EnvRel ι ro w env a → Marks b ι σ w a → b ≤ w.heap.size →
    ∀ Qc, Ends b ι ro σ w e env' σ' Qc → LoopAt (Fr r) 0 P c Qc a w
theorem RunLp.step {c : Code} (h : RunC P rd c env σ (thenA (fun env' σ' => RunLp P rd c env' σ' Q) Q)) : RunLp P rd c env σ Q := by
  obtain ⟨e, env1, σ1, q, hn, r⟩ := h
  have other : e ≠ .normal → Q e env1 σ1 → RunLp P rd c env σ Q := by
    intro he hq
    refine ⟨e, env1, σ1, hq, hn, fun ι ro w a r' b hr R E M hb Qc hQ => loopAt_step (r ι ro w a r' b hr R E M hb _ ?_)⟩
    intro ι' ro' e' a' w' L R' E' M' X'
    have := hQ ι' ro' e' a' w' L R' E' M' X'
    cases X' <;> first | exact this | exact absurd rfl he
  cases e with
  | normal =>
    obtain ⟨e2, env2, σ2, q2, hn2, r2⟩ := q
    refine ⟨e2, env2, σ2, q2, hn2.trans hn, fun ι ro w a r' b hr R E M hb Qc hQ => loopAt_step (r ι ro w a r' b hr R E M hb _ ?_)⟩
    intro ι' ro' e' a' w' L R' E' M' X'
    cases X'
    exact r2 ι' ro' w' a' r' b (hr.later L.ext) R' E' M' (Nat.le_trans hb L.frame.size) Qc (hQ.later L)
  | exit id => exact other (by simp) q
  | goto l => exact other (by simp) q
  | ret => exact other (by simp) q
  | panic v => exact other (by simp) q
theorem RunC.loop {c : Code} (I : AEnv → AHeap → Prop) (μ : AEnv → AHeap → Nat) (h0 : I env σ)
    (step : ∀ env' σ', env'.n = env.n → I env' σ' → RunC P rd c env' σ' (thenA (fun env2 σ2 => I env2 σ2 ∧ μ env2 σ2 < μ env' σ') Q)) : RunC P rd (.loop c) env σ Q := by
  have key : ∀ j env' σ', env'.n = env.n → μ env' σ' = j → I env' σ' → RunLp P rd c env' σ' Q := by
    intro j
    induction j using Nat.strongRecOn with
    | _ j ih =>
      intro env' σ' hn hj hI
      refine .step ((step env' σ' hn hI).mono fun e env2 σ2 hn2 hq => ?_)
      cases e with
      | normal => exact ih _ (hj ▸ hq.2) env2 σ2 (hn2.trans hn) rfl hq.1
      | exit id => exact hq
      | goto l => exact hq
      | ret => exact hq
      | panic v => exact hq
  obtain ⟨e, env1, σ1, q, hn, r⟩ := key _ env σ rfl rfl h0
  exact ⟨e, env1, σ1, q, hn, fun ι ro w a r' b hr R E M hb Qc hQ => wpIn_loopAt (r ι ro w a r' b hr R E M hb Qc hQ)⟩
theorem stepR_scope' {P : Program} {b : Go.Frame} {a : Act} {k : List Item} {cs : List Go.Frame} {w : World} {c : Code} :
    step P (lone (b.atR a (.code (.scope c) :: k)) cs w) = .next (lone (b.atR a (.code c :: .inScope c :: k)) cs w) :=
  step_lone_go (by simp [stepG, stepG.exec, Frame.atR])
theorem stepR_inScope' {P : Program} {b : Go.Frame} {a : Act} {k : List Item} {cs : List Go.Frame} {w : World} {c : Code} :
    step P (lone (b.atR a (.inScope c :: k)) cs w) = .next (lone (b.atR a k) cs w) :=
  step_lone_go (by simp [stepG, stepG.exec, Frame.atR])
theorem RunC.scope {c : Code} (h : RunC P rd c env σ (fun e env' σ' => (∀ l, e ≠ .goto l) ∧ Q e env' σ')) : RunC P rd (.scope c) env σ Q := by
  obtain ⟨e, env1, σ1, ⟨hg, q⟩, hn, r⟩ := h
  refine ⟨e, env1, σ1, q, hn, fun ι ro w a r' b hr R E M hb Qc hQ => ?_⟩
  intro fr k cs hro hbf hroom
  obtain ⟨e', a', w', hq, harr⟩ := r ι ro w a r' b hr R E M hb (fun e' a' w' => (∀ l, e' ≠ .goto l) ∧ Qc e' a' w')
    (fun ι' ro' e' a' w' L' R' E' M' X' => ⟨by intro l hl; subst hl; cases X'; exact hg _ rfl, hQ ι' ro' e' a' w' L' R' E' M' X'⟩) fr (.inScope c :: k) cs hro hbf hroom
  have h0 : StepsIn (Machine.fenced P (Fr r')) P (lone (fr.atR a (.code (.scope c) :: k)) cs w) (lone (fr.atR a (.code c :: .inScope c :: k)) cs w) := .one (fenced_calm hbf hroom rfl) stepR_scope'
  cases e' with
  | normal => exact ⟨.normal, a', w', hq.2, h0.trans (StepsIn.trans harr (.one (fenced_calm hbf hroom rfl) stepR_inScope'))⟩
  | exit id => exact ⟨_, a', w', hq.2, .of_steps h0 ⟨fun k' hk => harr.1 k' (by simpa [exitTo] using hk), fun h1 h2 => harr.2 h1 (by simpa [exitTo] using h2)⟩⟩
  | goto l => exact absurd rfl (hq.1 l)
  | ret => exact ⟨_, a', w', hq.2, .of_steps h0 harr⟩
  | panic ch => exact ⟨_, a', w', hq.2, .of_steps h0 harr⟩
  | outgrown => exact ⟨_, a', w', hq.2, .of_steps h0 harr⟩
theorem RunC.label {l : Nat} (h : Q .normal env σ) : RunC P rd (.label l) env σ Q :=
  ⟨_, _, _, h, rfl, fun _ _ _ _ _ _ _ R E M _ _ hQ => wpIn_label (hQ _ _ _ _ _ (.refl _ _ _ _) R E M .normal)⟩
end
end Go.Tc
namespace Go.Tc
set_option linter.unusedSimpArgs false
section
variable {P : Program} {ι : Nm} {ro : Ros} {σ : AHeap} {w : World}
theorem alloc_junk (R : Rel ι ro σ w) (o : Obj) : Rel ι ro σ (w.alloc o) ∧ Later ι ro σ w ι ro σ (w.alloc o) := by
  have hv : ∀ v u, VRel ι ro w v u → VRel ι ro (w.alloc o) v u := fun v u h =>
    h.mono (fun _ _ h => h) (fun _ _ h => h) (fun b x v hr hc => by rw [World.cell?_alloc_lt w o ⟨b, x, none⟩ (R.roIn b x hr)]; exact hc)
  refine ⟨⟨R.dom, fun N l x h hs => (R.obj N l x h hs).mono (fun _ _ h => h) hv ?_ ?_, R.apart, R.roSep, fun b x hr => ?_⟩, ⟨⟨rfl, rfl, rfl, by simp, ?_, ?_⟩, fun _ _ h => h, fun _ _ h => h, fun _ _ _ h => h, fun _ _ h => h, fun _ _ _ h => .inl h, .refl _ _⟩⟩
  · exact fun m b off ext _ c e f hb => ⟨c, by rw [heap_alloc_lt _ _ (Array.getElem?_eq_some_iff.1 hb).1]; exact hb, rfl, fun _ _ _ => rfl⟩
  · exact fun r x _ hr _ => by rw [heap_alloc_lt _ _ (Array.getElem?_eq_some_iff.1 hr).1]; exact hr
  · have := R.roIn b x hr
    simp; omega
  · exact fun b c e f hb => ⟨c, by rw [heap_alloc_lt _ _ (Array.getElem?_eq_some_iff.1 hb).1]; exact hb, rfl, fun _ _ => rfl⟩
  · exact fun r x hr _ _ => by rw [heap_alloc_lt _ _ (Array.getElem?_eq_some_iff.1 hr).1]; exact hr
theorem cell_putObj {r : Nat} {o o' : Obj} (h : w.heap[r]? = some o) (ho : isCells o = false) {b x : Nat} {v : Value} (hc : w.cell? ⟨b, x, none⟩ = some v) : (w.putObj r o').cell? ⟨b, x, none⟩ = some v := by
  by_cases hbr : b = r
  · subst hbr
    unfold World.cell? at hc
    dsimp only at hc
    rw [h] at hc
    cases o <;> first | (cases ho; done) | (cases hc; done)
  · unfold World.cell? at hc ⊢
    dsimp only at hc ⊢
    rw [World.putObj_heap_other hbr]; exact hc
def pendA : Option Code → (AExit → Prop) → Prop
  | none, Q => Q .normal
  | some .ret, Q => Q .ret
  | some (.exit id), Q => Q (.exit id)
  | some (.goto l), Q => Q (.goto l)
  | _, _ => False
def newLoop (env : AEnv) (ps : Array Tmp) (assign body : Code) : AObj :=
  .loop { size := env.n, env := env.t, params := ps, assign, body, state := .ready, pending := none }
def enters (P : Program) (f : FuncId) : Bool :=
  match P.funcs[f]? with
  | some fn => fn.body.isSome && !(fn.name == "runtime.NumGoroutine")
  | none => false
theorem enters_run {f : FuncId} (h : enters P f = true) (args : Array Value) (w : World) : (callFunc f args).run P w = .ok (.enter f args) w := by
  unfold enters at h
  split at h
  · rename_i fn hf
    simp only [Bool.and_eq_true, Bool.not_eq_true'] at h
    obtain ⟨c, hb⟩ : ∃ c, fn.body = some c := Option.isSome_iff_exists.1 h.1
    have hb' : fn.body.isNone = false := by rw [hb]; rfl
    simp only [callFunc, Sem.run_bind, run_program, Result.andThen, hf, h.2, hb', Bool.false_eq_true, if_false, Sem.run_pure]
  · cases h
theorem LocApart.symm' {l l' : Loc} (h : LocApart l l') : LocApart l' l := by
  cases l <;> cases l' <;> simp only [LocApart] at h ⊢ <;> omega
theorem RunC.rangeFunc {rd : Option Nat} {env : AEnv} {Q : AExit → AEnv → AHeap → Prop} {g : Operand} {g' : Opnd} {ps : Array Tmp} {assign body : Code} (hg : cOpnd env.n g = some g')
    {f : FuncId} {first caps : List AVal} (hf : env.ev g' = .func (.func f) first caps) (hrd : ∀ L, rd = some L → ∃ lo, σ.objs L = some (.loop lo)) (hent : enters P f = true)
    (h : RunV P (.func (.func f) first caps) [.yield σ.next] (σ.alloc (newLoop env ps assign body)) (fun out σ3 => match out with
      | .ret _ => ∃ lo, σ3.objs σ.next = some (.loop lo) ∧ lo.state ≠ .busy ∧ pendA lo.pending (fun e => Q e env (σ3.kill σ.next))
      | .panic v => Q (.panic v) env σ3)) : RunC P rd (.rangeFunc g ps assign body) env σ Q := by
  obtain ⟨out, σ3, hq, hcall⟩ := h
  have outc : ∃ e σ4, Q e env σ4 ∧ ((∃ v lo, out = .ret v ∧ σ3.objs σ.next = some (.loop lo) ∧ lo.state ≠ .busy ∧ σ4 = σ3.kill σ.next ∧
        ((lo.pending = none ∧ e = .normal) ∨ (lo.pending = some .ret ∧ e = .ret) ∨ (∃ id, lo.pending = some (.exit id) ∧ e = .exit id) ∨ (∃ l, lo.pending = some (.goto l) ∧ e = .goto l))) ∨
      (∃ v, out = .panic v ∧ e = .panic v ∧ σ4 = σ3)) := by
    cases out with
    | ret v =>
      obtain ⟨lo, h1, h2, h3⟩ := hq
      unfold pendA at h3
      split at h3
      · exact ⟨_, _, h3, .inl ⟨v, lo, rfl, h1, h2, rfl, .inl ⟨‹_›, rfl⟩⟩⟩
      · exact ⟨_, _, h3, .inl ⟨v, lo, rfl, h1, h2, rfl, .inr (.inl ⟨‹_›, rfl⟩)⟩⟩
      · exact ⟨_, _, h3, .inl ⟨v, lo, rfl, h1, h2, rfl, .inr (.inr (.inl ⟨_, ‹_›, rfl⟩))⟩⟩
      · exact ⟨_, _, h3, .inl ⟨v, lo, rfl, h1, h2, rfl, .inr (.inr (.inr ⟨_, ‹_›, rfl⟩))⟩⟩
      · exact h3.elim
    | panic v => exact ⟨.panic v, σ3, hq, .inr ⟨v, rfl, rfl, rfl⟩⟩
  obtain ⟨e, σ4, hQe, hout⟩ := outc
  refine ⟨e, env, σ4, hQe, rfl, fun ι ro w a r b hr R E M hb Qc hQ => wpIn_rangeFunc fun fn _ => ?_⟩
  obtain ⟨l, mark, w1, henter, hl, hM1, R1, L1⟩ : ∃ l mark w1, (Instr.enterLoop fn a.tmps ps assign body r).run P w = .ok (l, mark) w1 ∧
      (upd ι σ.next (.obj l) σ.next = some (.obj l)) ∧ (Marks b (upd ι σ.next (.obj l)) (σ.alloc (newLoop env ps assign body)) w1 { a with defers := mark ++ a.defers } ∧ mark.filter noMark = []) ∧
      Rel (upd ι σ.next (.obj l)) ro (σ.alloc (newLoop env ps assign body)) w1 ∧ Later ι ro σ w (upd ι σ.next (.obj l)) ro (σ.alloc (newLoop env ps assign body)) w1 := by
    have lay : ∀ (w0 : World) (d : Nat), Rel ι ro σ w0 → Later ι ro σ w ι ro σ w0 →
        Rel (upd ι σ.next (.obj w0.heap.size)) ro (σ.alloc (newLoop env ps assign body)) (w0.alloc (.loop { state := .ready, pending := none, fn, tmps := a.tmps, params := ps, assign, body, defers := d })) ∧
        Later ι ro σ w (upd ι σ.next (.obj w0.heap.size)) ro (σ.alloc (newLoop env ps assign body)) (w0.alloc (.loop { state := .ready, pending := none, fn, tmps := a.tmps, params := ps, assign, body, defers := d })) := by
      intro w0 d R0 L0
      have := alloc_obj R0 (.loop { state := .ready, pending := none, fn, tmps := a.tmps, params := ps, assign, body, defers := d }) (newLoop env ps assign body)
        ⟨a.tmps, d, fn, heap_alloc_new _ _, E.size, fun t u hu => ((E.later R L0).t t u hu).alloc R0 _ _⟩
      exact ⟨this.1, L0.trans this.2⟩
    cases rd with
    | none =>
      cases r with
      | some l => exact hr.elim
      | none =>
        obtain ⟨R0, L0⟩ := alloc_junk R (.deferred (some []))
        obtain ⟨R1, L1⟩ := lay _ w.heap.size R0 L0
        refine ⟨(w.alloc (.deferred (some []))).heap.size, [{ target := .collected w.heap.size, args := #[] }], _, ?_, upd_same _ _ _, ⟨?_, rfl⟩, R1, L1⟩
        · rw [run_enterLoop_outer]; simp
        · have M1 := M.later L1
          refine ⟨?_, ?_⟩
          · show (w.heap.size :: marksOf a.defers).Nodup
            rw [List.nodup_cons]
            refine ⟨fun hm => ?_, M.nodup⟩
            have := (Array.getElem?_eq_some_iff.1 (M.each _ hm).2.1).1
            omega
          · intro r hr
            have hr' : r ∈ w.heap.size :: marksOf a.defers := hr
            rw [List.mem_cons] at hr'
            rcases hr' with rfl | hr'
            · refine ⟨hb, ?_, ?_⟩
              · rw [heap_alloc_lt _ _ (by simp), heap_alloc_new]
              · rintro ⟨N, o, hN, ho⟩
                by_cases hn : N = σ.next
                · subst hn
                  rw [upd_same] at hN
                  simp at hN
                · rw [upd_ne _ _ hn] at hN
                  rw [AHeap.objs_alloc, if_neg hn] at ho
                  have := R.lt_obj hN ho
                  omega
            · exact M1.each r hr'
    | some L =>
      cases r with
      | none => exact hr.elim
      | some l0 =>
        obtain ⟨lo, hlo⟩ := hrd L rfl
        obtain ⟨tmps0, d0, fn0, h0, _, _⟩ := R.obj L _ _ hr hlo
        obtain ⟨R1, L1⟩ := lay w d0 R (.refl _ _ _ _)
        refine ⟨w.heap.size, [], _, ?_, upd_same _ _ _, ⟨M.later L1, rfl⟩, R1, L1⟩
        unfold Instr.enterLoop
        simp only [Sem.run_bind, run_getLoop h0, run_newObj_alloc, Result.andThen, Sem.run_pure]
  have hv := (eval_rel E hg).later R L1
  rw [hf] at hv
  have hv0 := hv
  generalize hu : a.eval g = u at hv
  rw [hu] at hv0
  cases hv with
  | @func _ _ _ first' caps' hnn h1 h2 h3 h4 =>
  have hy : VRels (upd ι σ.next (.obj l)) ro w1 [.yield σ.next] #[.func (.yield l) #[] #[]] := by
    refine ⟨rfl, fun i v u hv hu => ?_⟩
    cases i with
    | zero => simp at hv hu; subst hv; subst hu; exact .yield hl
    | succ i => simp at hv
  have hc := hcall _ _ w1 _ _ R1 hv0 hy
  simp only [Deferred.ofValue, pure_bind, invoke, enters_run hent] at hc
  refine ⟨l, mark, w1, { target := .fn (.func f) caps', args := first' ++ #[.func (.yield l) #[] #[]] }, w1, f, _, w1, henter, ?_, fun _ _ => trivial, enters_run hent _ w1, fun hh => by simp [Fr, Fence.wide] at hh, ?_⟩
  · have hy0 : Act.eval a (.const (.func (.yield l) #[] #[])) = .func (.yield l) #[] #[] := rfl
    simp only [resolve, rangeCall, hu, Deferred.ofValue, Sem.run_pure, List.map_toArray, List.map_cons, List.map_nil, hy0]
  · refine CallsIn.mono (R := Met (upd ι σ.next (.obj l)) ro (σ.alloc (newLoop env ps assign body)) w1 out σ3) hc fun e' w3 hmet => ?_
    obtain ⟨ι3, ro3, L3, R3, hend⟩ := hmet
    have E3 : EnvRel ι3 ro3 w3 env { a with defers := mark ++ a.defers } := by
      have E1 : EnvRel (upd ι σ.next (.obj l)) ro w1 env { a with defers := mark ++ a.defers } := by
        have := E.later R L1
        refine ⟨this.size, this.t, ?_⟩
        show (List.filter noMark (mark ++ a.defers)).length = _ ∧ _
        rw [List.filter_append, hM1.2, List.nil_append]
        exact this.ds
      exact E1.later R1 L3
    have M3 := hM1.1.later L3
    have L13 := L1.trans L3
    rcases hout with ⟨v, lo, rfl, hlo, hbusy, rfl, hp⟩ | ⟨v, rfl, rfl, rfl⟩
    · cases hend with
      | ret hvr =>
        have hl3 : ι3 σ.next = some (.obj l) := L3.ext _ _ hl
        obtain ⟨tmps3, d3, fn3, h30, h31, h32⟩ := R3.obj _ _ _ hl3 hlo
        have hend := run_endLoop (P := P) h30 hbusy
        have hlt : l < w3.heap.size := (Array.getElem?_eq_some_iff.1 h30).1
        obtain ⟨R4, L4⟩ := write_obj (w' := w3.putObj l (.loop { state := .exhausted, pending := lo.pending, fn := fn3, tmps := tmps3, params := lo.params, assign := lo.assign, body := lo.body, defers := d3 })) R3 hl3 hlo
          (.loop { lo with state := .exhausted }) ⟨tmps3, d3, fn3, World.putObj_heap_same hlt, h31, fun t u hu => (h32 t u hu).mono (fun _ _ h => h) (fun _ _ h => h) (fun b' x v _ hc => by
            exact cell_putObj h30 rfl hc)⟩ rfl rfl rfl World.putObj_size (fun k hk => World.putObj_heap_other hk)
        obtain ⟨R5, L5⟩ := kill_rel R4 σ.next
        have hk : (σ3.set σ.next (.loop { lo with state := .exhausted })).kill σ.next = σ3.kill σ.next := by
          unfold AHeap.kill AHeap.set
          congr 1
          funext M'
          show (if M' = σ.next then none else if M' = σ.next then some _ else σ3.objs M') = if M' = σ.next then none else σ3.objs M'
          by_cases hM' : M' = σ.next
          · rw [if_pos hM', if_pos hM']
          · rw [if_neg hM', if_neg hM', if_neg hM']
        rw [hk] at R5 L5
        have L45 := L4.trans L5
        have L35 := L13.trans L45
        have E5 := E3.later R3 L45
        have M5 := M3.later L45
        refine ⟨lo.pending, _, hend, ?_⟩
        rcases hp with ⟨hp, rfl⟩ | ⟨hp, rfl⟩ | ⟨id, hp, rfl⟩ | ⟨id, hp, rfl⟩
        · rw [hp]; rw [hp] at L35 R5 E5 M5; exact hQ _ _ _ _ _ L35 R5 E5 M5 .normal
        · rw [hp]; rw [hp] at L35 R5 E5 M5; exact wpIn_ret (hQ _ _ _ _ _ L35 R5 E5 M5 .ret)
        · rw [hp]; rw [hp] at L35 R5 E5 M5; exact wpIn_exit (hQ _ _ _ _ _ L35 R5 E5 M5 (.exit id))
        · rw [hp]; rw [hp] at L35 R5 E5 M5; exact wpIn_goto (hQ _ _ _ _ _ L35 R5 E5 M5 (.goto id))
    · cases hend with
      | panic hvr => exact hQ _ _ _ _ _ L13 R3 E3 M3 (.panic hvr)
end
end Go.Tc
namespace Go.Tc
set_option linter.unusedSimpArgs false
section
variable {P : Program} {σ : AHeap}
def setPs (t : Nat → AVal) : List Nat → List AVal → (Nat → AVal)
  | p :: ps, v :: vs => setPs (fun i => if i = p then v else t i) ps vs
  | _, _ => t
theorem setPs_rel {ι : Nm} {ro : Ros} {w : World} : ∀ (ps : List Nat) (vs : List AVal) (us : List Value) (t : Nat → AVal) (tmps : Array Value),
    us.length = vs.length → (∀ (i : Nat) v u, vs[i]? = some v → us[i]? = some u → VRel ι ro w v u) → (∀ (i : Nat) u, tmps[i]? = some u → VRel ι ro w (t i) u) →
    (((ps.zip us).foldl (fun tmps (x : Nat × Value) => tmps.setIfInBounds x.1 x.2) tmps).size = tmps.size ∧
      ∀ (i : Nat) u, ((ps.zip us).foldl (fun tmps (x : Nat × Value) => tmps.setIfInBounds x.1 x.2) tmps)[i]? = some u → VRel ι ro w (setPs t ps vs i) u) := by
  intro ps
  induction ps with
  | nil => intro vs us t tmps _ _ ht; exact ⟨rfl, ht⟩
  | cons p ps ih =>
    intro vs us t tmps hl hv ht
    cases us with
    | nil => cases vs with
      | nil => exact ⟨rfl, ht⟩
      | cons => simp at hl
    | cons u us =>
      cases vs with
      | nil => simp at hl
      | cons v vs =>
        have h1 : VRel ι ro w v u := hv 0 v u rfl rfl
        have := ih vs us (fun i => if i = p then v else t i) (tmps.setIfInBounds p u) (by simpa using hl) (fun i => hv (i + 1)) (fun i x hx => by
          by_cases hi : i = p
          · subst hi
            rw [Array.getElem?_setIfInBounds_self] at hx
            split at hx
            · cases hx; simpa using h1
            · cases hx
          · rw [Array.getElem?_setIfInBounds_ne (Ne.symm hi)] at hx
            simpa [hi] using ht i x hx)
        refine ⟨by simpa using this.1, ?_⟩
        exact this.2
def roundA (L : Nat) (σ2 : AHeap) (lo2 : ALoop) (Q : AOut → AHeap → Prop) : AExit → Prop
  | .normal => Q (.ret (.bool true)) (σ2.set L (.loop { lo2 with state := .ready, pending := none }))
  | .ret => Q (.ret (.bool false)) (σ2.set L (.loop { lo2 with state := .done, pending := some .ret }))
  | .exit id => Q (.ret (.bool false)) (σ2.set L (.loop { lo2 with state := .done, pending := some (.exit id) }))
  | .goto l => Q (.ret (.bool false)) (σ2.set L (.loop { lo2 with state := .done, pending := some (.goto l) }))
  | .panic _ => False
theorem set_loop {ι : Nm} {ro : Ros} {w : World} (R : Rel ι ro σ w) {L l : Nat} (hl : ι L = some (.obj l)) {lo : ALoop} (hs : σ.objs L = some (.loop lo)) (st : LoopState) (pe : Option Code) :
    ∃ r : Loop, w.heap[l]? = some (.loop r) ∧ r.state = lo.state ∧ r.params = lo.params ∧ r.assign = lo.assign ∧ r.body = lo.body ∧ r.tmps.size = lo.size ∧ (∀ (t : Nat) u, r.tmps[t]? = some u → VRel ι ro w (lo.env t) u) ∧
      Rel ι ro (σ.set L (.loop { lo with state := st, pending := pe })) (w.putObj l (.loop { r with state := st, pending := pe })) ∧
      Later ι ro σ w ι ro (σ.set L (.loop { lo with state := st, pending := pe })) (w.putObj l (.loop { r with state := st, pending := pe })) := by
  obtain ⟨tmps3, d3, fn3, h30, h31, h32⟩ := R.obj _ _ _ hl hs
  have hlt : l < w.heap.size := (Array.getElem?_eq_some_iff.1 h30).1
  refine ⟨_, h30, rfl, rfl, rfl, rfl, h31, h32, ?_⟩
  exact write_obj (w' := w.putObj l (.loop { state := st, pending := pe, fn := fn3, tmps := tmps3, params := lo.params, assign := lo.assign, body := lo.body, defers := d3 })) R hl hs
          (.loop { lo with state := st, pending := pe }) ⟨tmps3, d3, fn3, World.putObj_heap_same hlt, h31, fun t u hu => (h32 t u hu).mono (fun _ _ h => h) (fun _ _ h => h) (fun b' x v _ hc => cell_putObj h30 rfl hc)⟩ rfl rfl rfl World.putObj_size (fun k hk => World.putObj_heap_other hk)
theorem RunV.yield {L : Nat} {lo : ALoop} {args : List AVal} {Q : AOut → AHeap → Prop} (hs : σ.objs L = some (.loop lo)) (hlen : args.length = lo.params.size)
    (h : RunC P (some L) lo.assign { n := lo.size, t := setPs lo.env lo.params.toList args, ds := [] } σ (fun e env1 σ1 => e = .normal ∧ ∃ lo1, σ1.objs L = some (.loop lo1) ∧ lo1.state = .ready ∧
      RunC P (some L) lo.body env1 (σ1.set L (.loop { lo1 with state := .busy })) (fun e env2 σ2 => ∃ lo2, σ2.objs L = some (.loop lo2) ∧ roundA L σ2 lo2 Q e))) : RunV P (.yield L) args σ Q := by
  obtain ⟨e1, env1, σ1, ⟨rfl, lo1, hs1, hst1, e2, env2, σ2, ⟨lo2, hs2, hQ⟩, hn2, r2⟩, hn1, r1⟩ := h
  obtain ⟨b, σ3, hQ3, hform⟩ : ∃ (b : Bool) (σ3 : AHeap), Q (.ret (.bool b)) σ3 ∧ ((∀ v, e2 ≠ .panic v) ∧ ∀ ι ro w, Rel ι ro σ2 w → ∀ l, ι L = some (.obj l) → ∀ e', ExitRel ι ro w e2 e' →
      ∀ a R, (∀ v w', (∃ r, w.heap[l]? = some (.loop r)) → Rel ι ro σ3 w' → Later ι ro σ2 w ι ro σ3 w' → v = .bool b → R (.returned v) w') → roundPost P l R e' a w) := by
    cases e2 with
    | normal =>
      refine ⟨true, _, hQ, by simp, fun ι ro w Rw l hl e' he a R hR => ?_⟩
      cases he
      obtain ⟨r, h0, _, _, _, _, _, _, R', L'⟩ := set_loop Rw hl hs2 .ready none
      exact ⟨_, _, run_endRound none h0, hR _ _ ⟨r, h0⟩ R' L' rfl⟩
    | ret =>
      refine ⟨false, _, hQ, by simp, fun ι ro w Rw l hl e' he a R hR => ?_⟩
      cases he
      obtain ⟨r, h0, _, _, _, _, _, _, R', L'⟩ := set_loop Rw hl hs2 .done (some .ret)
      exact ⟨_, _, run_endRound (some .ret) h0, hR _ _ ⟨r, h0⟩ R' L' rfl⟩
    | exit id =>
      refine ⟨false, _, hQ, by simp, fun ι ro w Rw l hl e' he a R hR => ?_⟩
      cases he
      obtain ⟨r, h0, _, _, _, _, _, _, R', L'⟩ := set_loop Rw hl hs2 .done (some (.exit id))
      exact ⟨_, _, run_endRound (some (.exit id)) h0, hR _ _ ⟨r, h0⟩ R' L' rfl⟩
    | goto t =>
      refine ⟨false, _, hQ, by simp, fun ι ro w Rw l hl e' he a R hR => ?_⟩
      cases he
      obtain ⟨r, h0, _, _, _, _, _, _, R', L'⟩ := set_loop Rw hl hs2 .done (some (.goto t))
      exact ⟨_, _, run_endRound (some (.goto t)) h0, hR _ _ ⟨r, h0⟩ R' L' rfl⟩
    | panic v => exact hQ.elim
  obtain ⟨hnp, hform⟩ := hform
  refine ⟨.ret (.bool b), σ3, hQ3, fun ι ro w fu us R hfu hus => ?_⟩
  cases hfu with
  | @yield _ l hl =>
  obtain ⟨r, h0, _, hp, has, hbo, hsz, ht, _⟩ := set_loop R hl hs .busy none
  have hsize : (#[] ++ us : Array Value).size = r.params.size := by rw [hp, ← hlen, ← hus.1]; simp
  simp only [Deferred.ofValue, pure_bind, invoke, run_yield h0 hsize, Upon]
  refine roundIn_of_wpIn trivial ?_
  rw [has, hbo]
  have E0 : EnvRel ι ro w { n := lo.size, t := setPs lo.env lo.params.toList args, ds := [] } { tmps := (r.params.zip (#[] ++ us)).foldl (fun tmps (t, a) => tmps.setIfInBounds t a) r.tmps, defers := [] } := by
    have := setPs_rel (ι := ι) (ro := ro) (w := w) lo.params.toList args us.toList lo.env r.tmps (by simpa using hus.1) (fun i v u hv hu => hus.2 i v u hv (by simpa using hu)) ht
    have hz : (r.params.zip (#[] ++ us)).foldl (fun tmps (t, a) => tmps.setIfInBounds t a) r.tmps = (lo.params.toList.zip us.toList).foldl (fun tmps (x : Nat × Value) => tmps.setIfInBounds x.1 x.2) r.tmps := by
      rw [← Array.foldl_toList, Array.toList_zip, hp]
      simp
    rw [hz]
    exact ⟨this.1.trans hsz, this.2, rfl, by simp⟩
  have M0 : Marks w.heap.size ι σ w { tmps := (r.params.zip (#[] ++ us)).foldl (fun tmps (t, a) => tmps.setIfInBounds t a) r.tmps, defers := [] } := ⟨by simp [marksOf], by simp [marksOf]⟩
  refine r1 ι ro w _ (some l) w.heap.size hl R E0 M0 (Nat.le_refl _) _ ?_
  intro ι1 ro1 e1' a1 w1 L1 R1 E1 M1 X1
  cases X1
  have hl1 : ι1 L = some (.obj l) := L1.ext _ _ hl
  obtain ⟨r', h1, hst, _, _, _, _, _, R2, L2⟩ := set_loop R1 hl1 hs1 .busy lo1.pending
  have hpend : r'.pending = lo1.pending := by
    obtain ⟨t5, d5, f5, h5, _⟩ := R1.obj _ _ _ hl1 hs1
    rw [h1] at h5; cases h5; rfl
  refine ⟨_, run_beginRound h1 (hst.trans hst1), ?_⟩
  have hw : (w1.putObj l (.loop { r' with state := .busy, pending := lo1.pending })) = w1.putObj l (.loop { r' with state := .busy }) := by rw [← hpend]
  rw [hw] at R2 L2
  refine r2 ι1 ro1 _ a1 (some l) w.heap.size hl1 R2 (E1.later R1 L2) (M1.later L2) (Nat.le_trans L1.frame.size L2.frame.size) _ ?_
  intro ι3 ro3 e3 a3 w3 L3 R3 E3 M3 X3
  refine hform ι3 ro3 w3 R3 l (L3.ext _ _ hl1) e3 X3 a3 _ ?_
  intro v w4 _ R4 L4 hv
  subst hv
  exact ⟨ι3, ro3, (L1.trans L2).trans (L3.trans L4), R4, .ret (.bool b)⟩
end
end Go.Tc
namespace Go.Tc
set_option linter.unusedSimpArgs false
def opndsOf : AOp → List Opnd
  | .b2s x | .mv x | .box x | .load _ _ x | .nilck x | .un _ x | .conv _ x | .mkI _ x | .fa _ x | .fld _ _ _ x | .rngStr x | .nextStr x | .tas _ _ x _ | .ext x _ | .lenStr x | .lenS x | .lenM x | .panic x => [x]
  | .pick c a b => [c, a, b]
  | .alloc _ | .mkM _ | .lenA _ | .recov => []
  | .build _ ps => ps.map (·.2.2)
  | .buildS _ _ _ ps => ps.map (·.2)
  | .store _ a x | .bin _ _ a x | .mkS _ _ a x | .ixA _ _ a x | .ixS _ a x | .ixV _ _ _ a x | .ixStr a x | .look _ _ a x _ | .del _ a x | .app _ _ a x | .cpy _ a x => [a, x]
  | .mkF _ a b => a ++ b
  | .slS _ x lo hi mx => x :: (lo.toList ++ hi.toList ++ mx.toList)
  | .slStr x lo hi | .slA _ _ x lo hi => x :: (lo.toList ++ hi.toList)
  | .upd _ m i x => [m, i, x]
  | .mx xs | .mn xs => xs
  | .callF _ xs => xs
  | .callV f xs => f :: xs
  | .callI r _ xs => r :: xs
  | .dfr f xs => f :: xs
theorem optMap_congr {f g : Opnd → AVal} {x : Option Opnd} (h : ∀ y ∈ x.toList, f y = g y) : x.map f = x.map g := by
  cases x with
  | none => rfl
  | some y => simp [h y (by simp)]
theorem OpW_congr {P : Program} {o : AOp} {env env' : AEnv} {σ : AHeap} {K X : AVal → AHeap → Prop} (h : ∀ x ∈ opndsOf o, env.ev x = env'.ev x) (hw : OpW P o env σ K X) : OpW P o env' σ K X := by
  have mp : ∀ xs : List Opnd, (∀ x ∈ xs, env.ev x = env'.ev x) → xs.map env.ev = xs.map env'.ev := fun xs hx => List.map_congr_left hx
  cases o with
  | build z ps =>
    have : (ps.map fun p => (p.1, p.2.1, env.ev p.2.2)) = ps.map fun p => (p.1, p.2.1, env'.ev p.2.2) :=
      List.map_congr_left fun p hp => by rw [h p.2.2 (List.mem_map.2 ⟨p, hp, rfl⟩)]
    simpa only [OpW, opA, this] using hw
  | buildS m z len ps =>
    have : (ps.map fun p => (p.1, env.ev p.2)) = ps.map fun p => (p.1, env'.ev p.2) :=
      List.map_congr_left fun p hp => by rw [h p.2 (List.mem_map.2 ⟨p, hp, rfl⟩)]
    simpa only [OpW, opA, this] using hw
  | mkF fn a b =>
    have h1 := mp a fun x hx => h x (by simp [opndsOf, hx])
    have h2 := mp b fun x hx => h x (by simp [opndsOf, hx])
    simpa only [OpW, opA, h1, h2] using hw
  | slS m x lo hi mx =>
    have h0 := h x (by simp [opndsOf])
    have h1 := optMap_congr (x := lo) fun y hy => h y (by simp [opndsOf]; simp at hy; simp [hy])
    have h2 := optMap_congr (x := hi) fun y hy => h y (by simp [opndsOf]; simp at hy; simp [hy])
    have h3 := optMap_congr (x := mx) fun y hy => h y (by simp [opndsOf]; simp at hy; simp [hy])
    simpa only [OpW, opA, h0, h1, h2, h3] using hw
  | slStr x lo hi =>
    have h0 := h x (by simp [opndsOf])
    have h1 := optMap_congr (x := lo) fun y hy => h y (by simp [opndsOf]; simp at hy; simp [hy])
    have h2 := optMap_congr (x := hi) fun y hy => h y (by simp [opndsOf]; simp at hy; simp [hy])
    simpa only [OpW, opA, h0, h1, h2] using hw
  | slA n m x lo hi =>
    have h0 := h x (by simp [opndsOf])
    simpa only [OpW, opA, h0] using hw
  | mx xs =>
    cases xs with
    | nil => exact hw
    | cons y ys =>
      have h0 := h y (by simp [opndsOf])
      have h1 := mp ys fun x hx => h x (by simp [opndsOf, hx])
      simpa only [OpW, opA, h0, h1] using hw
  | mn xs =>
    cases xs with
    | nil => exact hw
    | cons y ys =>
      have h0 := h y (by simp [opndsOf])
      have h1 := mp ys fun x hx => h x (by simp [opndsOf, hx])
      simpa only [OpW, opA, h0, h1] using hw
  | callF f xs =>
    have h1 := mp xs fun x hx => h x (by simp [opndsOf, hx])
    simpa only [OpW, h1] using hw
  | callV f xs =>
    have h0 := h f (by simp [opndsOf])
    have h1 := mp xs fun x hx => h x (by simp [opndsOf, hx])
    simpa only [OpW, h0, h1] using hw
  | callI f m xs =>
    have h0 := h f (by simp [opndsOf])
    have h1 := mp xs fun x hx => h x (by simp [opndsOf, hx])
    simpa only [OpW, h0, h1] using hw
  | dfr f xs => exact hw
  | recov => exact hw
  | alloc z => exact hw
  | mkM K => exact hw
  | lenA n => exact hw
  | pick c a b =>
    have h0 := h c (by simp [opndsOf]); have h1 := h a (by simp [opndsOf]); have h2 := h b (by simp [opndsOf])
    simpa only [OpW, opA, h0, h1, h2] using hw
  | upd K a b c =>
    have h0 := h a (by simp [opndsOf]); have h1 := h b (by simp [opndsOf]); have h2 := h c (by simp [opndsOf])
    simpa only [OpW, opA, h0, h1, h2] using hw
  | store n a x | bin op e a x | mkS z bytes a x | ixA l m a x | ixS m a x | ixV l g m a x | ixStr a x | look K z a x ok | del K a x | app m b a x | cpy m a x =>
    have h0 := h a (by simp [opndsOf]); have h1 := h x (by simp [opndsOf])
    simpa only [OpW, opA, h0, h1] using hw
  | panic x =>
    have h0 := h x (by simp [opndsOf])
    simpa only [OpW, h0] using hw
  | b2s x | mv x | box x | load agg n x | nilck x | un op x | conv c x | mkI t x | fa off x | fld agg n off x | rngStr x | nextStr x | tas t z x ok | ext x i | lenStr x | lenS x | lenM x =>
    have h0 := h x (by simp [opndsOf])
    simpa only [OpW, opA, h0] using hw
inductive Eff where
  | no | rd | wr
  deriving DecidableEq
def effOf (quiet : Bool) : AOp → Eff
  | .mv _ | .pick .. | .build .. | .nilck _ | .bin .. | .un .. | .conv .. | .mkI .. | .mkF .. | .slS .. | .slStr .. | .slA .. | .fa .. | .fld .. | .ixA .. | .ixS .. | .ixV .. | .ixStr .. | .tas .. | .ext .. | .lenStr _ | .lenS _ | .lenA _ | .mx _ | .mn _ => .no
  | .load .. | .look .. | .lenM _ | .b2s _ => .rd
  | .callF .. | .callV .. | .callI .. => if quiet then .rd else .wr
  | _ => .wr
theorem map_ins (x : Option AVal) (σ σ0 : AHeap) : x.map (·, σ) = ((x.map (·, σ0)).map (·.1)).map (·, σ) := by cases x <;> rfl
theorem opA_ins {q : Bool} {o : AOp} {env : AEnv} (he : effOf q o = .no) (σ σ0 : AHeap) : opA o env σ = ((opA o env σ0).map (·.1)).map (·, σ) := by
  cases o <;> simp only [effOf] at he <;> try (first | (cases he; done) | (split at he <;> cases he; done))
  all_goals simp only [opA]
  all_goals first
    | exact map_ins _ _ _
    | rfl
    | skip
  case pick c a b => generalize env.ev c = y; cases y <;> rfl
  case nilck x =>
    generalize env.ev x = y
    cases y with
    | func fn first caps => cases fn <;> rfl
    | _ => rfl
  case conv c x => generalize env.ev x = y; cases c <;> cases y <;> rfl
  case slStr x lo hi => generalize env.ev x = y; cases y <;> first | exact map_ins _ _ _ | rfl
  case slA n m x lo hi => split <;> first | exact map_ins _ _ _ | rfl
  case fld agg n off x => generalize env.ev x = y; cases y <;> first | exact map_ins _ _ _ | rfl
  case ixA len m x i => generalize env.ev i = y; cases y <;> first | exact map_ins _ _ _ | rfl
  case ixS m x i => generalize env.ev i = y; cases y <;> first | exact map_ins _ _ _ | rfl
  case ixV len agg m x i => generalize env.ev i = y; generalize env.ev x = z; cases z <;> cases y <;> first | exact map_ins _ _ _ | rfl
  case ixStr x i => generalize env.ev i = y; generalize env.ev x = z; cases z <;> cases y <;> first | exact map_ins _ _ _ | rfl
  case ext x i => generalize env.ev x = y; cases y <;> first | exact map_ins _ _ _ | rfl
  case lenStr x => generalize env.ev x = y; cases y <;> rfl
  case mx xs => cases xs <;> first | exact map_ins _ _ _ | rfl
  case mn xs => cases xs <;> first | exact map_ins _ _ _ | rfl
theorem OpW_ins {P : Program} {q : Bool} {o : AOp} {env : AEnv} {σ σ2 : AHeap} {v : AVal} (he : effOf q o = .no) {σ' : AHeap} (hw : OpW P o env σ (fun v' s => v' = v ∧ s = σ') (fun _ _ => False)) :
    OpW P o env σ2 (fun v' s => v' = v ∧ s = σ2) (fun _ _ => False) := by
  have h1 := opA_ins he (env := env) σ2 σ
  have key : (match opA o env σ with | some (v', s) => v' = v ∧ s = σ' | none => False) → (match opA o env σ2 with | some (v', s) => v' = v ∧ s = σ2 | none => False) := by
    intro h
    rw [h1]
    cases ho : opA o env σ with
    | none => rw [ho] at h; exact h
    | some p => rw [ho] at h; exact ⟨h.1, rfl⟩
  cases o <;> simp only [effOf] at he <;> first | (cases he; done) | (split at he <;> cases he; done) | exact key hw
end Go.Tc
namespace Go.Tc
set_option linter.unusedSimpArgs false
def rdTmps (o : AOper) : List Nat := (opndsOf o.op).filterMap (fun | .t n => some n | _ => none) ++ (match o.guard with | some (t, _) => [t] | none => [])
def ancs : List AOper → List Nat → List Nat
  | [], acc => acc
  | o :: os, acc => ancs os (acc ++ [o.aft.foldl (fun s k => s ||| 2 ^ k ||| acc.getD k 0) 0])
def noDraw : AOp → Bool
  | .dfr .. => true
  | _ => false
def isSt (q st : List Nat) (i : Nat) (a : AOper) : Bool := st.contains i && (effOf (q.contains i) a.op == .rd)
def needs (q st : List Nat) (i j : Nat) (a b : AOper) : Bool :=
  (match a.dst with | some t => (rdTmps b).contains t | none => false) ||
  (match b.dst with | some t => (rdTmps a).contains t | none => false) ||
  (match a.dst, b.dst with | some t, some u => t == u | _, _ => false) ||
  (match effOf (q.contains i) a.op, effOf (q.contains j) b.op with
    | .wr, .wr => true
    | .wr, .rd => !isSt q st j b
    | .rd, .wr => !isSt q st i a
    | _, _ => false)
def drOk (q st : List Nat) (l : List AOper) : Bool :=
  let m := ancs l []
  (List.range l.length).all fun j => match l[j]? with
    | none => false
    | some b => b.aft.all (· < j) && !noDraw b.op &&
      (List.range j).all fun i => match l[i]? with
        | none => false
        | some a => !needs q st i j a b || (m.getD j 0).testBit i
def poss (q : List Nat) (l : List AOper) (m : List Nat) (j k : Nat) : Bool :=
  (List.range l.length).all fun i => match l[i]? with
    | none => true
    | some a => if effOf (q.contains i) a.op = .wr then
        (if i < j then !(m.getD j 0).testBit i || decide (i < k) else !(m.getD i 0).testBit j || decide (k ≤ i)) else true
def panOk (q : List Nat) (l : List AOper) (j : Nat) : Bool :=
  let m := ancs l []
  (List.range l.length).all fun i => match l[i]? with
    | none => true
    | some a => if i < j then (effOf (q.contains i) a.op != .wr) || (m.getD j 0).testBit i else decide (i = j) || (m.getD i 0).testBit j
def AEnv.junk (env : AEnv) (ds : List Nat) : AEnv := { env with t := fun i => if ds.contains i then .junk else env.t i }
theorem AEnv.junk_ds (env : AEnv) (ds : List Nat) : (env.junk ds).ds = env.ds := rfl
theorem AEnv.junk_n (env : AEnv) (ds : List Nat) : (env.junk ds).n = env.n := rfl
def dstsOf (l : List AOper) : List Nat := l.filterMap (·.dst)
def Same (P : Program) (o : AOp) (env : AEnv) (σ : AHeap) (v : AVal) : Prop := OpW P o env σ (fun v' s => v' = v ∧ s = σ) (fun _ _ => False)
def wpDr (P : Program) (q st : List Nat) (ps : Nat → Nat → Bool) : Nat → List AOper → AEnv → AHeap → List (Nat × AHeap) → List (Nat × AOp × AEnv × AVal) → (AEnv → AHeap → Prop) → (Nat → AVal → AHeap → Prop) → Prop
  | _, [], env, σ, _, _, K, _ => K env σ
  | i, o :: os, env, σ, past, pend, K, X =>
    let past' := fun σ' : AHeap => if effOf (q.contains i) o.op = .wr then (i + 1, σ') :: past else past
    match gOk o.guard env with
    | some true => OpW P o.op env σ (fun v σ' => (effOf (q.contains i) o.op = .rd → σ' = σ) ∧
        (isSt q st i o = true → ∀ p ∈ past, ps i p.1 = true → Same P o.op env p.2 v) ∧
        (effOf (q.contains i) o.op = .wr → ∀ p ∈ pend, ps p.1 (i + 1) = true → Same P p.2.1 p.2.2.1 σ' p.2.2.2) ∧
        wpDr P q st ps (i + 1) os (env.put o.dst v) σ' (past' σ') (if isSt q st i o then (i, o.op, env, v) :: pend else pend) K X) (fun v σ' => X i v σ')
    | some false => (effOf (q.contains i) o.op = .wr → ∀ p ∈ pend, ps p.1 (i + 1) = true → Same P p.2.1 p.2.2.1 σ p.2.2.2) ∧ wpDr P q st ps (i + 1) os (env.put o.dst (.tup [])) σ (past' σ) pend K X
    | none => False
theorem testBit_fold (acc : List Nat) (i : Nat) : ∀ (l : List Nat) (s : Nat), (l.foldl (fun s k => s ||| 2 ^ k ||| acc.getD k 0) s).testBit i = true →
    s.testBit i = true ∨ ∃ k ∈ l, k = i ∨ (acc.getD k 0).testBit i = true := by
  intro l
  induction l with
  | nil => intro s h; exact .inl h
  | cons k l ih =>
    intro s h
    rcases ih _ h with h | ⟨k', hk, h⟩
    · simp only [Nat.testBit_or, Bool.or_eq_true] at h
      rcases h with (h | h) | h
      · exact .inl h
      · rw [Nat.testBit_two_pow] at h
        exact .inr ⟨k, by simp, .inl (of_decide_eq_true h)⟩
      · exact .inr ⟨k, by simp, .inr h⟩
    · exact .inr ⟨k', by simp [hk], h⟩
theorem ancs_spec : ∀ (l : List AOper) (acc : List Nat) (pre : List AOper), acc.length = pre.length →
    (∀ j o, pre[j]? = some o → acc.getD j 0 = o.aft.foldl (fun s k => s ||| 2 ^ k ||| (acc.take j).getD k 0) 0) →
    (ancs l acc).length = (pre ++ l).length ∧ ∀ j o, (pre ++ l)[j]? = some o → (ancs l acc).getD j 0 = o.aft.foldl (fun s k => s ||| 2 ^ k ||| ((ancs l acc).take j).getD k 0) 0 := by
  intro l
  induction l with
  | nil => intro acc pre hl h; simp only [ancs, List.append_nil]; exact ⟨hl, h⟩
  | cons o os ih =>
    intro acc pre hl h
    have := ih (acc ++ [o.aft.foldl (fun s k => s ||| 2 ^ k ||| acc.getD k 0) 0]) (pre ++ [o]) (by simp [hl]) (fun j b hb => by
      by_cases hj : j < pre.length
      · rw [List.getElem?_append_left hj] at hb
        have h1 := h j b hb
        have h2 : (acc ++ [o.aft.foldl (fun s k => s ||| 2 ^ k ||| acc.getD k 0) 0]).getD j 0 = acc.getD j 0 := by
          simp only [List.getD_eq_getElem?_getD]; rw [List.getElem?_append_left (by omega)]
        have h3 : (acc ++ [o.aft.foldl (fun s k => s ||| 2 ^ k ||| acc.getD k 0) 0]).take j = acc.take j := List.take_append_of_le_length (by omega)
        rw [h2, h3, h1]
      · have hlt := (List.getElem?_eq_some_iff.1 hb).1
        simp at hlt
        have hj' : j = pre.length := by omega
        subst hj'
        rw [List.getElem?_append_right (by omega)] at hb
        simp at hb; subst hb
        have h3 : (acc ++ [o.aft.foldl (fun s k => s ||| 2 ^ k ||| acc.getD k 0) 0]).take pre.length = acc := by rw [← hl]; simp
        rw [h3, ← hl]
        simp [List.getD_eq_getElem?_getD])
    simp only [ancs]
    rw [List.append_assoc] at this
    exact this
def Closed (l : List AOper) (S : Nat → Bool) : Prop := ∀ j o, l[j]? = some o → S j = true → ∀ k ∈ o.aft, S k = true
theorem closed_anc {l : List AOper} (hlt : ∀ (j : Nat) (o : AOper), l[j]? = some o → ∀ k ∈ o.aft, k < j) {S : Nat → Bool} (hS : Closed l S) :
    ∀ (j : Nat) (o : AOper), l[j]? = some o → (∀ k ∈ o.aft, S k = true) → ∀ i, ((ancs l []).getD j 0).testBit i = true → S i = true := by
  have hsp := ancs_spec l [] [] rfl (by simp)
  intro j
  induction j using Nat.strongRecOn with
  | _ j ih =>
    intro o ho hk i hi
    rw [hsp.2 j o (by simpa using ho)] at hi
    rcases testBit_fold _ i _ _ hi with h | ⟨k, hkm, h | h⟩
    · simp at h
    · subst h; exact hk _ hkm
    · have hkj := hlt j o ho k hkm
      have hjl := (List.getElem?_eq_some_iff.1 ho).1
      have hkl : k < l.length := by omega
      have h2 : ((ancs l []).take j).getD k 0 = (ancs l []).getD k 0 := by
        simp only [List.getD_eq_getElem?_getD, List.getElem?_take, hkj, if_true]
      rw [h2] at h
      have hok : l[k]? = some l[k] := List.getElem?_eq_getElem hkl
      exact ih k hkj _ hok (hS k _ hok (hk k hkm)) i h
def putS (S : Nat → Bool) (vs : Nat → AVal) : Nat → List AOper → AEnv → AEnv
  | _, [], env => env
  | i, o :: os, env => putS S vs (i + 1) os (if S i then env.put o.dst (vs i) else env)
def verS (q : List Nat) (S : Nat → Bool) (σs : Nat → AHeap) : Nat → List AOper → AHeap → AHeap
  | _, [], σ => σ
  | i, o :: os, σ => verS q S σs (i + 1) os (if S i && (effOf (q.contains i) o.op == .wr) then σs (i + 1) else σ)
theorem putS_congr {S S' : Nat → Bool} {vs : Nat → AVal} {t : Nat} : ∀ (l : List AOper) (i : Nat) (env env' : AEnv), env.t t = env'.t t →
    (∀ k o, l[k]? = some o → o.dst = some t → S (i + k) = S' (i + k)) → (putS S vs i l env).t t = (putS S' vs i l env').t t := by
  intro l
  induction l with
  | nil => intro i env env' h _; exact h
  | cons o os ih =>
    intro i env env' h hS
    refine ih (i + 1) _ _ ?_ (fun k o' ho' hd => by have := hS (k + 1) o' (by simpa using ho') hd; rwa [Nat.add_assoc, Nat.add_comm 1 k])
    by_cases hd : o.dst = some t
    · have h0 := hS 0 o rfl hd
      simp only [Nat.add_zero] at h0
      rw [h0]
      split
      · simp [AEnv.put, hd, AEnv.set]
      · exact h
    · have skip : ∀ (e : AEnv) v, (e.put o.dst v).t t = e.t t := by
        intro e v
        cases hdd : o.dst with
        | none => rfl
        | some d =>
          have : t ≠ d := fun hh => hd (by rw [hdd, hh])
          simp [AEnv.put, AEnv.set, this]
      split <;> split <;> simp [skip, h]
theorem putS_other {S : Nat → Bool} {vs : Nat → AVal} {t : Nat} : ∀ (l : List AOper) (i : Nat) (env : AEnv),
    (∀ k o, l[k]? = some o → o.dst = some t → S (i + k) = false) → (putS S vs i l env).t t = env.t t := by
  intro l
  induction l with
  | nil => intro i env _; rfl
  | cons o os ih =>
    intro i env hS
    show (putS S vs (i + 1) os _).t t = _
    rw [ih (i + 1) _ (fun k o' ho' hd => by have := hS (k + 1) o' (by simpa using ho') hd; rwa [Nat.add_assoc, Nat.add_comm 1 k])]
    split
    · rename_i hs
      cases hdd : o.dst with
      | none => rfl
      | some d =>
        by_cases htd : t = d
        · have := hS 0 o rfl (by rw [hdd, htd]); rw [Nat.add_zero, hs] at this; cases this
        · simp [AEnv.put, AEnv.set, htd]
    · rfl
theorem putS_last {S : Nat → Bool} {vs : Nat → AVal} {t : Nat} : ∀ (l : List AOper) (i j : Nat) (env : AEnv) (o : AOper), l[j]? = some o → o.dst = some t → S (i + j) = true →
    (∀ k o, j < k → l[k]? = some o → o.dst = some t → S (i + k) = false) → (putS S vs i l env).t t = vs (i + j) := by
  intro l
  induction l with
  | nil => intro i j env o ho; simp at ho
  | cons a os ih =>
    intro i j env o ho hd hs hk
    cases j with
    | zero =>
      simp at ho; subst ho
      show (putS S vs (i + 1) os _).t t = _
      rw [putS_other os (i + 1) _ (fun k o' ho' hd' => by have := hk (k + 1) o' (by omega) (by simpa using ho') hd'; rwa [Nat.add_assoc, Nat.add_comm 1 k])]
      rw [Nat.add_zero] at hs
      rw [hs, Nat.add_zero]
      simp [AEnv.put, hd, AEnv.set]
    | succ j =>
      have := ih (i + 1) j (if S i then env.put a.dst (vs i) else env) o (by simpa using ho) hd (by rwa [Nat.add_assoc, Nat.add_comm 1 j])
        (fun k o' hjk ho' hd' => by have := hk (k + 1) o' (by omega) (by simpa using ho') hd'; rwa [Nat.add_assoc, Nat.add_comm 1 k])
      rw [Nat.add_assoc, Nat.add_comm 1 j] at this
      exact this
theorem putS_n {S : Nat → Bool} {vs : Nat → AVal} : ∀ (l : List AOper) (i : Nat) (env : AEnv), (putS S vs i l env).n = env.n ∧ (putS S vs i l env).ds = env.ds := by
  intro l
  induction l with
  | nil => intro i env; exact ⟨rfl, rfl⟩
  | cons o os ih =>
    intro i env
    show (putS S vs (i + 1) os _).n = _ ∧ (putS S vs (i + 1) os _).ds = _
    rw [(ih (i + 1) _).1, (ih (i + 1) _).2]
    split
    · cases o.dst <;> exact ⟨rfl, rfl⟩
    · exact ⟨rfl, rfl⟩
theorem verS_congr {q : List Nat} {S S' : Nat → Bool} {σs : Nat → AHeap} : ∀ (l : List AOper) (i : Nat) (σ : AHeap),
    (∀ k o, l[k]? = some o → effOf (q.contains (i + k)) o.op = .wr → S (i + k) = S' (i + k)) → verS q S σs i l σ = verS q S' σs i l σ := by
  intro l
  induction l with
  | nil => intro i σ _; rfl
  | cons o os ih =>
    intro i σ hS
    show verS q S σs (i + 1) os _ = verS q S' σs (i + 1) os _
    have h0 : (if (S i && (effOf (q.contains i) o.op == .wr)) = true then σs (i + 1) else σ) = if (S' i && (effOf (q.contains i) o.op == .wr)) = true then σs (i + 1) else σ := by
      by_cases he : effOf (q.contains i) o.op = .wr
      · have := hS 0 o rfl he
        rw [Nat.add_zero] at this
        rw [this]
      · have : (effOf (q.contains i) o.op == .wr) = false := beq_eq_false_iff_ne.2 he
        simp only [this, Bool.and_false, Bool.false_eq_true, if_false]
    rw [h0]
    exact ih (i + 1) _ (fun k o' ho' he => by have := hS (k + 1) o' (by simpa using ho') (by rwa [show i + (k + 1) = i + 1 + k by omega]); rwa [show i + (k + 1) = i + 1 + k by omega] at this)
theorem verS_other {q : List Nat} {S : Nat → Bool} {σs : Nat → AHeap} : ∀ (l : List AOper) (i : Nat) (σ : AHeap),
    (∀ k o, l[k]? = some o → effOf (q.contains (i + k)) o.op = .wr → S (i + k) = false) → verS q S σs i l σ = σ := by
  intro l
  induction l with
  | nil => intro i σ _; rfl
  | cons o os ih =>
    intro i σ hS
    show verS q S σs (i + 1) os _ = σ
    rw [ih (i + 1) _ (fun k o' ho' he => by have := hS (k + 1) o' (by simpa using ho') (by rwa [show i + (k + 1) = i + 1 + k by omega]); rwa [show i + (k + 1) = i + 1 + k by omega] at this)]
    by_cases he : effOf (q.contains i) o.op = .wr
    · have := hS 0 o rfl he
      rw [Nat.add_zero] at this
      simp [this]
    · have : (effOf (q.contains i) o.op == .wr) = false := beq_eq_false_iff_ne.2 he
      simp only [this, Bool.and_false, Bool.false_eq_true, if_false]
theorem verS_last {q : List Nat} {S : Nat → Bool} {σs : Nat → AHeap} : ∀ (l : List AOper) (i j : Nat) (σ : AHeap) (o : AOper), l[j]? = some o → effOf (q.contains (i + j)) o.op = .wr → S (i + j) = true →
    (∀ k o, j < k → l[k]? = some o → effOf (q.contains (i + k)) o.op = .wr → S (i + k) = false) → verS q S σs i l σ = σs (i + j + 1) := by
  intro l
  induction l with
  | nil => intro i j σ o ho; simp at ho
  | cons a os ih =>
    intro i j σ o ho he hs hk
    cases j with
    | zero =>
      simp at ho; subst ho
      show verS q S σs (i + 1) os _ = _
      rw [verS_other os (i + 1) _ (fun k o' ho' he' => by have := hk (k + 1) o' (by omega) (by simpa using ho') (by rwa [show i + (k + 1) = i + 1 + k by omega]); rwa [show i + (k + 1) = i + 1 + k by omega] at this)]
      rw [Nat.add_zero] at hs he
      have he' := beq_iff_eq.2 he
      simp only [hs, he', Bool.and_self, if_true, Nat.add_zero]
    | succ j =>
      have := ih (i + 1) j (if (S i && (effOf (q.contains i) a.op == .wr)) = true then σs (i + 1) else σ) o (by simpa using ho) (by rwa [show i + 1 + j = i + (j + 1) by omega]) (by rwa [show i + 1 + j = i + (j + 1) by omega])
        (fun k o' hjk ho' he' => by have := hk (k + 1) o' (by omega) (by simpa using ho') (by rwa [show i + (k + 1) = i + 1 + k by omega]); rwa [show i + (k + 1) = i + 1 + k by omega] at this)
      rw [show i + (j + 1) + 1 = i + 1 + j + 1 by omega]
      exact this
theorem verS_pos {q : List Nat} {S : Nat → Bool} {σs : Nat → AHeap} : ∀ (l : List AOper) (i : Nat) (σ : AHeap),
    (verS q S σs i l σ = σ ∧ ∀ k o, l[k]? = some o → effOf (q.contains (i + k)) o.op = .wr → S (i + k) = false) ∨
    ∃ k o, l[k]? = some o ∧ effOf (q.contains (i + k)) o.op = .wr ∧ S (i + k) = true ∧ verS q S σs i l σ = σs (i + k + 1) ∧ ∀ k' o', k < k' → l[k']? = some o' → effOf (q.contains (i + k')) o'.op = .wr → S (i + k') = false := by
  intro l
  induction l with
  | nil => intro i σ; exact .inl ⟨rfl, by simp⟩
  | cons o os ih =>
    intro i σ
    have sh : ∀ k, i + 1 + k = i + (k + 1) := fun k => by omega
    rcases ih (i + 1) (if S i && (effOf (q.contains i) o.op == .wr) then σs (i + 1) else σ) with ⟨h1, h2⟩ | ⟨k, o', ho', he, hs, hv, hl⟩
    · have hrest : ∀ k' o', 0 < k' → (o :: os)[k']? = some o' → effOf (q.contains (i + k')) o'.op = .wr → S (i + k') = false := by
        intro k' o' hk' ho' he
        cases k' with
        | zero => omega
        | succ k' => have := h2 k' o' (by simpa using ho') (by rw [sh]; exact he); rwa [sh] at this
      by_cases hc : (S i && (effOf (q.contains i) o.op == .wr)) = true
      · right
        simp only [Bool.and_eq_true, beq_iff_eq] at hc
        refine ⟨0, o, rfl, hc.2, hc.1, ?_, hrest⟩
        show verS q S σs (i + 1) os _ = _
        rw [h1]
        have := beq_iff_eq.2 hc.2
        simp only [hc.1, this, Bool.and_self, if_true, Nat.add_zero]
      · left
        have hcf : (S i && (effOf (q.contains i) o.op == .wr)) = false := by simpa using hc
        refine ⟨?_, ?_⟩
        · show verS q S σs (i + 1) os _ = _
          rw [h1, hcf]
          rfl
        · intro k o' ho' he
          cases k with
          | zero =>
            simp at ho'; subst ho'
            rw [Nat.add_zero] at he ⊢
            have := beq_iff_eq.2 he
            rw [this, Bool.and_true] at hcf
            exact hcf
          | succ k => exact hrest (k + 1) o' (by omega) ho' he
    · right
      rw [sh] at he hs hv
      refine ⟨k + 1, o', by simpa using ho', he, hs, hv, fun k' o2 hk' ho2 he2 => ?_⟩
      cases k' with
      | zero => omega
      | succ k' => have := hl k' o2 (by omega) (by simpa using ho2) (by rw [sh]; exact he2); rwa [sh] at this
end Go.Tc
namespace Go.Tc
set_option linter.unusedSimpArgs false
theorem putS_none {S : Nat → Bool} {vs : Nat → AVal} : ∀ (l : List AOper) (i : Nat) (env : AEnv), (∀ x, i ≤ x → S x = false) → putS S vs i l env = env := by
  intro l
  induction l with
  | nil => intro i env _; rfl
  | cons o os ih =>
    intro i env h
    show putS S vs (i + 1) os _ = env
    rw [h i (Nat.le_refl _)]
    exact ih (i + 1) env fun x hx => h x (by omega)
theorem putS_vs {S : Nat → Bool} {vs vs' : Nat → AVal} : ∀ (l : List AOper) (i : Nat) (env : AEnv), (∀ x, i ≤ x → vs x = vs' x) → putS S vs i l env = putS S vs' i l env := by
  intro l
  induction l with
  | nil => intro i env _; rfl
  | cons o os ih =>
    intro i env h
    show putS S vs (i + 1) os _ = putS S vs' (i + 1) os _
    rw [h i (Nat.le_refl _)]
    exact ih (i + 1) _ fun x hx => h x (by omega)
theorem putS_S {S S' : Nat → Bool} {vs : Nat → AVal} : ∀ (l : List AOper) (i : Nat) (env : AEnv), (∀ x, i ≤ x → S x = S' x) → putS S vs i l env = putS S' vs i l env := by
  intro l
  induction l with
  | nil => intro i env _; rfl
  | cons o os ih =>
    intro i env h
    show putS S vs (i + 1) os _ = putS S' vs (i + 1) os _
    rw [h i (Nat.le_refl _)]
    exact ih (i + 1) _ fun x hx => h x (by omega)
theorem verS_canon {q : List Nat} {σs : Nat → AHeap} : ∀ (l : List AOper) (i j : Nat), j ≤ l.length →
    (∀ k o, l[k]? = some o → effOf (q.contains (i + k)) o.op ≠ .wr → σs (i + k + 1) = σs (i + k)) → verS q (fun x => decide (x < i + j)) σs i l (σs i) = σs (i + j) := by
  intro l
  induction l with
  | nil => intro i j hj _; simp at hj; subst hj; rfl
  | cons o os ih =>
    intro i j hj h
    cases j with
    | zero => exact verS_other _ _ _ fun k o' _ _ => by simp
    | succ j =>
      show verS q _ σs (i + 1) os _ = _
      have h0 : (if ((decide (i < i + (j + 1))) && (effOf (q.contains i) o.op == .wr)) = true then σs (i + 1) else σs i) = σs (i + 1) := by
        by_cases he : effOf (q.contains i) o.op = .wr
        · have := beq_iff_eq.2 he
          simp only [this, Bool.and_true]
          rw [if_pos (by simp)]
        · have h1 := beq_eq_false_iff_ne.2 he
          simp only [h1, Bool.and_false, Bool.false_eq_true, if_false]
          exact (h 0 o rfl he).symm
      rw [h0]
      have := ih (i + 1) j (by simpa using hj) (fun k o' ho' he => by
        have := h (k + 1) o' (by simpa using ho') (by rwa [show i + (k + 1) = i + 1 + k by omega])
        rwa [show i + (k + 1) = i + 1 + k by omega] at this)
      rw [show i + (j + 1) = i + 1 + j by omega]
      exact this
structure DrFact (P : Program) (q : List Nat) (o : AOper) (i : Nat) (env : AEnv) (σ σ' : AHeap) (v : AVal) : Prop where
  guard : ∃ b, gOk o.guard env = some b ∧ (b = true → OpW P o.op env σ (fun v' s => v' = v ∧ s = σ') (fun _ _ => False)) ∧ (b = false → v = .tup [] ∧ σ' = σ)
  keep : effOf (q.contains i) o.op ≠ .wr → σ' = σ
theorem OpW_pick {P : Program} {o : AOp} {env : AEnv} {σ : AHeap} {K X : AVal → AHeap → Prop} (h : OpW P o env σ K X) :
    (∃ v σ', K v σ' ∧ OpW P o env σ (fun v' s => v' = v ∧ s = σ') (fun _ _ => False)) ∨ ∃ v σ', X v σ' ∧ OpW P o env σ (fun _ _ => False) (fun v' s => v' = v ∧ s = σ') := by
  have gen : (match opA o env σ with | some (v, σ') => K v σ' | none => False) → ∃ v σ', K v σ' ∧ (match opA o env σ with | some (v', s) => v' = v ∧ s = σ' | none => False) := by
    intro h
    cases ho : opA o env σ with
    | none => rw [ho] at h; exact h.elim
    | some p => rw [ho] at h; exact ⟨_, _, h, rfl, rfl⟩
  cases o with
  | callF f xs =>
    obtain ⟨out, s, hk, hr⟩ := h
    cases out with
    | ret v => exact .inl ⟨v, s, hk, .ret v, s, ⟨rfl, rfl⟩, hr⟩
    | panic v => exact .inr ⟨v, s, hk, .panic v, s, ⟨rfl, rfl⟩, hr⟩
  | callV f xs =>
    obtain ⟨out, s, hk, hr⟩ := h
    cases out with
    | ret v => exact .inl ⟨v, s, hk, .ret v, s, ⟨rfl, rfl⟩, hr⟩
    | panic v => exact .inr ⟨v, s, hk, .panic v, s, ⟨rfl, rfl⟩, hr⟩
  | callI f m xs =>
    obtain ⟨out, s, hk, hr⟩ := h
    cases out with
    | ret v => exact .inl ⟨v, s, hk, .ret v, s, ⟨rfl, rfl⟩, hr⟩
    | panic v => exact .inr ⟨v, s, hk, .panic v, s, ⟨rfl, rfl⟩, hr⟩
  | panic x =>
    simp only [OpW] at h ⊢
    split at h
    · exact .inr ⟨_, _, h, by simp⟩
    · exact h.elim
  | _ => exact .inl (gen h)
theorem OpW_no_keep {P : Program} {q : Bool} {o : AOp} {env : AEnv} {σ σ' : AHeap} {v : AVal} (he : effOf q o = .no) (hw : OpW P o env σ (fun v' s => v' = v ∧ s = σ') (fun _ _ => False)) : σ' = σ := by
  have h1 := opA_ins he (env := env) σ σ
  have key : (match opA o env σ with | some (v', s) => v' = v ∧ s = σ' | none => False) → σ' = σ := by
    intro h
    rw [h1] at h
    cases ho : opA o env σ with
    | none => rw [ho] at h; exact h.elim
    | some p => rw [ho] at h; exact h.2.symm
  cases o <;> simp only [effOf] at he <;> first | (cases he; done) | (split at he <;> cases he; done) | exact key hw
theorem wpDr_facts {P : Program} {q st : List Nat} {ps : Nat → Nat → Bool} {K : AEnv → AHeap → Prop} {X : Nat → AVal → AHeap → Prop} : ∀ (l : List AOper) (i : Nat) (env : AEnv) (σ : AHeap) (past : List (Nat × AHeap)) (pend : List (Nat × AOp × AEnv × AVal)),
    wpDr P q st ps i l env σ past pend K X →
    ∃ (vs : Nat → AVal) (σs : Nat → AHeap) (J : Nat), J ≤ l.length ∧ σs i = σ ∧ (∀ k o, l[k]? = some o → effOf (q.contains (i + k)) o.op ≠ .wr → σs (i + k + 1) = σs (i + k)) ∧
      (∀ k o, k < J → l[k]? = some o → DrFact P q o (i + k) (putS (fun x => decide (x < i + k)) vs i l env) (σs (i + k)) (σs (i + k + 1)) (vs (i + k))) ∧
      (∀ k o, k < J → l[k]? = some o → isSt q st (i + k) o = true → gOk o.guard (putS (fun x => decide (x < i + k)) vs i l env) = some true → ∀ p ∈ past, ps (i + k) p.1 = true →
        Same P o.op (putS (fun x => decide (x < i + k)) vs i l env) p.2 (vs (i + k))) ∧
      (∀ p ∈ pend, ∀ k o, k < J → l[k]? = some o → effOf (q.contains (i + k)) o.op = .wr → ps p.1 (i + k + 1) = true → Same P p.2.1 p.2.2.1 (σs (i + k + 1)) p.2.2.2) ∧
      (∀ k1 k2 o1 o2, k1 < J → k2 < J → l[k1]? = some o1 → l[k2]? = some o2 → isSt q st (i + k1) o1 = true → gOk o1.guard (putS (fun x => decide (x < i + k1)) vs i l env) = some true → effOf (q.contains (i + k2)) o2.op = .wr → ps (i + k1) (i + k2 + 1) = true →
        Same P o1.op (putS (fun x => decide (x < i + k1)) vs i l env) (σs (i + k2 + 1)) (vs (i + k1))) ∧
      ((J = l.length ∧ K (putS (fun x => decide (x < i + l.length)) vs i l env) (σs (i + l.length))) ∨
        ∃ o v s, l[J]? = some o ∧ gOk o.guard (putS (fun x => decide (x < i + J)) vs i l env) = some true ∧ OpW P o.op (putS (fun x => decide (x < i + J)) vs i l env) (σs (i + J)) (fun _ _ => False) (fun v' s' => v' = v ∧ s' = s) ∧ X (i + J) v s) := by
  intro l
  induction l with
  | nil => intro i env σ past pend h; exact ⟨fun _ => .junk, fun _ => σ, 0, by simp, rfl, by simp, by simp, by simp, by simp, by simp, .inl ⟨rfl, h⟩⟩
  | cons o os ih =>
    intro i env σ past pend h
    have sh : ∀ k, i + (k + 1) = i + 1 + k := fun k => by omega
    by_cases hpan : ∃ v s, gOk o.guard env = some true ∧ OpW P o.op env σ (fun _ _ => False) (fun v' s' => v' = v ∧ s' = s) ∧ X i v s
    · obtain ⟨v, s, hg, hw, hx⟩ := hpan
      have e0 : putS (fun x => decide (x < i + 0)) (fun _ => .junk) i (o :: os) env = env := putS_none _ _ _ fun x hx => by simp; omega
      exact ⟨fun _ => .junk, fun _ => σ, 0, by simp, rfl, fun _ _ _ _ => rfl, by simp, by simp, by simp, by simp, .inr ⟨o, v, s, rfl, by rw [e0]; exact hg, by rw [e0]; exact hw, hx⟩⟩
    obtain ⟨v, σ1, b, hg, hb1, hb2, hkeep, hpast, hpend, past', pend', hp1, hp2, hp3, hp4, hrest⟩ : ∃ v σ1 b, gOk o.guard env = some b ∧ (b = true → OpW P o.op env σ (fun v' s => v' = v ∧ s = σ1) (fun _ _ => False)) ∧ (b = false → v = .tup [] ∧ σ1 = σ) ∧
        (effOf (q.contains i) o.op ≠ .wr → σ1 = σ) ∧ (b = true → isSt q st i o = true → ∀ p ∈ past, ps i p.1 = true → Same P o.op env p.2 v) ∧
        (effOf (q.contains i) o.op = .wr → ∀ p ∈ pend, ps p.1 (i + 1) = true → Same P p.2.1 p.2.2.1 σ1 p.2.2.2) ∧
        ∃ past' pend', (∀ p ∈ past, p ∈ past') ∧ (effOf (q.contains i) o.op = .wr → (i + 1, σ1) ∈ past') ∧ (∀ p ∈ pend, p ∈ pend') ∧ (b = true → isSt q st i o = true → (i, o.op, env, v) ∈ pend') ∧
        wpDr P q st ps (i + 1) os (env.put o.dst v) σ1 past' pend' K X := by
      have hpm : ∀ σ' : AHeap, (∀ p ∈ past, p ∈ (if effOf (q.contains i) o.op = .wr then (i + 1, σ') :: past else past)) ∧ (effOf (q.contains i) o.op = .wr → (i + 1, σ') ∈ (if effOf (q.contains i) o.op = .wr then (i + 1, σ') :: past else past)) := by
        intro σ'
        refine ⟨fun p hp => ?_, fun he => ?_⟩
        · split
          · exact List.mem_cons_of_mem _ hp
          · exact hp
        · rw [if_pos he]; exact List.mem_cons_self
      simp only [wpDr] at h
      split at h
      · rename_i hg
        rcases OpW_pick h with ⟨v, σ1, ⟨hk, hs1, hs2, hr⟩, hw⟩ | ⟨v, s, hx, hw⟩
        · refine ⟨v, σ1, true, hg, fun _ => hw, by simp, fun he => ?_, fun _ => hs1, hs2, _, _, (hpm σ1).1, (hpm σ1).2, fun p hp => ?_, fun _ hst => ?_, hr⟩
          · cases hee : effOf (q.contains i) o.op with
            | no => exact OpW_no_keep hee hw
            | rd => exact hk hee
            | wr => exact absurd hee he
          · split
            · exact List.mem_cons_of_mem _ hp
            · exact hp
          · rw [if_pos hst]; exact List.mem_cons_self
        · exact absurd ⟨v, s, hg, hw, hx⟩ hpan
      · rename_i hg
        exact ⟨.tup [], σ, false, hg, by simp, fun _ => ⟨rfl, rfl⟩, fun _ => rfl, by simp, h.1, _, pend, (hpm σ).1, (hpm σ).2, fun _ hp => hp, by simp, h.2⟩
      · exact h.elim
    obtain ⟨vs, σs, J, hJ, h0, hkp, hf, hA, hB, hC, hK⟩ := ih (i + 1) _ _ _ _ hrest
    have e0 : putS (fun x => decide (x < i)) (fun x => if x = i then v else vs x) i (o :: os) env = env := putS_none _ _ _ fun x hx => by simp; omega
    have ek : ∀ k, putS (fun x => decide (x < i + 1 + k)) (fun x => if x = i then v else vs x) i (o :: os) env = putS (fun x => decide (x < i + 1 + k)) vs (i + 1) os (env.put o.dst v) := by
      intro k
      show putS _ _ (i + 1) os (if decide (i < i + 1 + k) = true then env.put o.dst (if i = i then v else vs i) else env) = _
      rw [if_pos (by simp; omega), if_pos rfl, putS_vs (vs' := vs) os (i + 1) _ (fun x hx => by rw [if_neg (by omega)])]
    have ne : ∀ k, ¬ (i + 1 + k = i) := fun k => by omega
    have ne1 : ∀ k, ¬ (i + 1 + k + 1 = i) := fun k => by omega
    refine ⟨fun x => if x = i then v else vs x, fun x => if x = i then σ else σs x, J + 1, by simp; omega, by simp, fun k a ha he => ?_, fun k a hkJ ha => ?_, fun k a hkJ ha hst hgk p hp hps => ?_, fun p hp k a hkJ ha he hps => ?_, fun k1 k2 o1 o2 hkJ1 hkJ2 ho1 ho2 hst hgk he hps => ?_, ?_⟩
    · cases k with
      | zero =>
        simp at ha; subst ha
        simp only [Nat.add_zero, if_true] at he ⊢
        rw [if_neg (by omega : ¬ i + 1 = i), h0]
        exact hkeep he
      | succ k =>
        simp at ha
        rw [sh] at he ⊢
        simp only [ne, ne1, if_false]
        exact hkp k a ha he
    · cases k with
      | zero =>
        simp at ha; subst ha
        simp only [Nat.add_zero, if_true]
        rw [e0, if_neg (by omega : ¬ i + 1 = i), h0]
        exact ⟨⟨b, hg, hb1, hb2⟩, hkeep⟩
      | succ k =>
        simp at ha
        rw [sh, ek]
        simp only [ne, ne1, if_false]
        exact hf k a (by omega) ha
    · cases k with
      | zero =>
        simp at ha; subst ha
        simp only [Nat.add_zero, if_true] at hst hgk hps ⊢
        rw [e0] at hgk ⊢
        rw [hg] at hgk
        exact hpast (Option.some.inj hgk) hst p hp hps
      | succ k =>
        simp at ha
        rw [sh] at hst hgk hps ⊢
        rw [ek] at hgk ⊢
        simp only [ne, if_false]
        exact hA k a (by omega) ha hst hgk p (hp1 p hp) hps
    · cases k with
      | zero =>
        simp at ha; subst ha
        simp only [Nat.add_zero] at he hps ⊢
        rw [if_neg (by omega : ¬ i + 1 = i), h0]
        exact hpend he p hp hps
      | succ k =>
        simp at ha
        rw [sh] at he hps ⊢
        simp only [ne1, if_false]
        exact hB p (hp3 p hp) k a (by omega) ha he hps
    · cases k1 with
      | zero =>
        simp at ho1; subst ho1
        simp only [Nat.add_zero, if_true] at hst hgk hps ⊢
        rw [e0] at hgk ⊢
        rw [hg] at hgk
        cases k2 with
        | zero =>
          simp at ho2; subst ho2
          have he' : effOf (q.contains i) o.op = .wr := he
          unfold isSt at hst
          rw [he'] at hst
          rw [Bool.and_eq_true] at hst
          exact absurd hst.2 (by decide)
        | succ k2 =>
          simp at ho2
          rw [sh] at he hps ⊢
          simp only [ne1, if_false]
          exact hB _ (hp4 (Option.some.inj hgk) hst) k2 o2 (by omega) ho2 he hps
      | succ k1 =>
        simp at ho1
        rw [sh] at hst hgk hps ⊢
        rw [ek] at hgk ⊢
        simp only [ne, if_false]
        cases k2 with
        | zero =>
          simp at ho2; subst ho2
          simp only [Nat.add_zero] at he hps ⊢
          rw [if_neg (by omega : ¬ i + 1 = i), h0]
          exact hA k1 o1 (by omega) ho1 hst hgk _ (hp2 he) hps
        | succ k2 =>
          simp at ho2
          rw [sh k2] at he hps ⊢
          simp only [ne1, if_false]
          exact hC k1 k2 o1 o2 (by omega) (by omega) ho1 ho2 hst hgk he hps
    · rcases hK with ⟨rfl, hK⟩ | ⟨o', v', s', ho', hg', hw', hx'⟩
      · left
        have hl : i + (o :: os).length = i + 1 + os.length := by simp; omega
        rw [hl, ek]
        simp only [ne, if_false]
        exact ⟨by simp, hK⟩
      · right
        refine ⟨o', v', s', by simpa using ho', ?_, ?_, ?_⟩
        · rw [sh, ek]; exact hg'
        · rw [sh, ek]; simp only [ne, if_false]; exact hw'
        · rw [sh]; exact hx'
theorem ready_iff {ops : Array Oper} {listed : Array Bool} {i : Nat} (hs : listed.size = ops.size) : i ∈ Region.ready .any ops listed ↔
    ∃ o, ops[i]? = some o ∧ listed.getD i false = false ∧ ∀ k ∈ edgesOf o, listed.getD k false = true := by
  unfold Region.ready
  simp only [List.mem_filter, List.mem_range, Bool.and_eq_true, Bool.not_eq_true']
  constructor
  · rintro ⟨hi, h1, h2⟩
    have ho : ops[i]? = some ops[i] := Array.getElem?_eq_getElem hi
    refine ⟨_, ho, ?_, ?_⟩
    · rw [← h1]; simp [Array.getD, hs, hi]
    · rw [ho] at h2
      simp only [Option.map_some, Option.getD_some, Array.all_eq_true'] at h2
      intro k hk
      simp only [edgesOf, List.mem_filterMap] at hk
      obtain ⟨e, he, hke⟩ := hk
      have := h2 e (by simpa using he)
      split at hke
      · rename_i hb; cases hke; simpa [hb] using this
      · cases hke
  · rintro ⟨o, ho, h1, h2⟩
    have hi := (Array.getElem?_eq_some_iff.1 ho).1
    refine ⟨hi, ?_, ?_⟩
    · rw [← h1]; simp [Array.getD, hs, hi]
    · rw [ho]
      simp only [Option.map_some, Option.getD_some, Array.all_eq_true']
      intro e he
      by_cases hb : Region.binds .any e = true
      · simp only [hb, Bool.not_true, Bool.false_or]
        exact h2 e.on (by simp only [edgesOf, List.mem_filterMap]; exact ⟨e, by simpa using he, by simp [hb]⟩)
      · simp [hb]
end Go.Tc
namespace Go.Tc
set_option linter.unusedSimpArgs false
theorem compOp_alloc {P : Program} {n : Nat} {o : Oper} {z : List AVal} (hc : compOp P n o = some (.alloc z)) : ∃ t ty, o.op = .alloc t ∧ tyOf P t = some ty ∧ ty.z = z := by
  unfold compOp at hc
  split at hc
  all_goals
    repeat' (first
      | (simp only [Option.bind_eq_some_iff, Option.map_eq_some_iff] at hc)
      | (cases hc; done)
      | (cases hc; exact ⟨_, _, ‹_›, ‹_›, rfl⟩)
      | (obtain ⟨_, _, hc⟩ := hc)
      | (split at hc))
  all_goals
    exfalso
    unfold compCall at hc
    repeat' (first
      | (simp only [Option.bind_eq_some_iff, Option.map_eq_some_iff] at hc)
      | (obtain ⟨_, _, hc⟩ := hc)
      | (cases hc; done)
      | (split at hc))
theorem alloc_run {P : Program} {n : Nat} {o : Oper} {z : List AVal} (hc : compOp P n o = some (.alloc z)) : ∃ t cs, (∀ v ∈ z, v.one = true) ∧ (∀ ι ro w, VRels ι ro w z cs) ∧
    (∀ (ev : Operand → Value) (w : World), (execOp ev o).run P w = .ok (.value (.pointer (some ⟨w.heap.size, 0, none⟩))) (w.alloc (.cells cs t))) ∧ ∀ c, o.op ≠ .defer c := by
  obtain ⟨t, ty, ho, ht, rfl⟩ := compOp_alloc hc
  obtain ⟨i, d, z, hi, hd, hz, hcv, _, _, hone, _⟩ := tyOf_spec ht
  refine ⟨t, z.cells, one_all hone, fun ι ro w => cvCells_rel (ι := ι) (ro := ro) (w := w) hcv, fun ev w => ?_, by rw [ho]; simp⟩
  have hr : (newVar t z).run P w = .ok ⟨w.heap.size, 0, none⟩ (w.alloc (.cells z.cells t)) := rfl
  simp [execOp, ho, Instr.alloc, run_zero hi hz, hr]
theorem Later.trans0 {ι ι1 ι2 : Nm} {ro ro1 ro2 : Ros} {σ σ1 σ2 : AHeap} {w w1 w2 : World} {n : Nat} (h : Later ι ro σ w ι1 ro1 σ1 w1) (k : Later ι1 ro1 ⟨σ1.objs, n⟩ w1 ι2 ro2 σ2 w2) (kk : Kept ι σ ι2 σ2) :
    Later ι ro σ w ι2 ro2 σ2 w2 where
  frame := by
    refine ⟨k.frame.os.trans h.frame.os, k.frame.tape.trans h.frame.tape, k.frame.output.trans h.frame.output, Nat.le_trans h.frame.size k.frame.size, ?_, ?_⟩
    · intro b c e f hb
      have hlt : b < w.heap.size := (Array.getElem?_eq_some_iff.1 hb).1
      obtain ⟨c1, h1, s1, k1⟩ := h.frame.cells b c e f hb
      obtain ⟨c2, h2, s2, k2⟩ := k.frame.cells b c1 e f h1
      exact ⟨c2, h2, s2.trans s1, fun o ho => (k2 o (fun hc => ho (h.own b o hlt hc))).trans (k1 o ho)⟩
    · intro r o hr hc hn
      have hlt : r < w.heap.size := (Array.getElem?_eq_some_iff.1 hr).1
      exact k.frame.objs r o (h.frame.objs r o hr hc hn) hc (fun x => hn (h.ownO r hlt x))
  ext := fun N l hl => k.ext N l (h.ext N l hl)
  roLe := fun b o hb => k.roLe b o (h.roLe b o hb)
  own := fun b o hlt ho => h.own b o hlt (k.own b o (Nat.lt_of_lt_of_le hlt h.frame.size) ho)
  ownO := fun r hlt ho => h.ownO r hlt (k.ownO r (Nat.lt_of_lt_of_le hlt h.frame.size) ho)
  roNew := fun b o hlt ho => by
    rcases k.roNew b o (Nat.lt_of_lt_of_le hlt h.frame.size) ho with h1 | h1
    · exact h.roNew b o hlt h1
    · exact .inr (h.own b o hlt h1)
  kept := kk
theorem ghost_rel {ι : Nm} {ro : Ros} {σ0 σ : AHeap} {w : World} (R : Rel ι ro σ0 w) (hn : σ0.next ≤ σ.next) (ho : ∀ N, N < σ0.next → σ.objs N = σ0.objs N) : Rel ι ro σ w ∧ Later ι ro σ0 w ι ro σ w := by
  have get : ∀ {N l o}, ι N = some l → σ.objs N = some o → σ0.objs N = some o := fun h hs => by rw [← ho _ (R.dom _ _ h)]; exact hs
  have own : ∀ b o, Own ι σ b o → Own ι σ0 b o := by
    rintro b o ⟨N, m, off, ext, m', rows, h1, h2, h3, h4⟩
    exact ⟨N, m, off, ext, m', rows, h1, get h1 h2, h3, h4⟩
  refine ⟨⟨fun N l h => Nat.lt_of_lt_of_le (R.dom N l h) hn, fun N l o h hs => R.obj N l o h (get h hs), fun N N' l l' o o' hne h h' hs hs' => R.apart N N' l l' o o' hne h h' (get h hs) (get h' hs'),
    fun b o hr hown => R.roSep b o hr (own b o hown), R.roIn⟩, ⟨.refl _ _ _, fun _ _ h => h, fun _ _ h => h, fun b o _ h => own b o h, ?_, fun _ _ _ h => .inl h, ⟨hn, fun _ _ _ h => h, fun N o' hN _ h => ⟨o', by rw [← ho N hN]; exact h, fun _ => rfl⟩⟩⟩⟩
  rintro r _ ⟨N, o, h1, h2⟩
  exact ⟨N, o, h1, get h1 h2⟩
theorem ghost_alloc {ι : Nm} {ro : Ros} {σ : AHeap} {w : World} (R : Rel ι ro σ w) {N : Nat} {z : List AVal} {cs : Array Value} (t : TypeId) (hN : N < σ.next) (hι : ι N = none) (ho : ∀ o, σ.objs N = some o → o = .cells z.length [z])
    (hone : ∀ v ∈ z, v.one = true) (hcs : ∀ ι ro w, VRels ι ro w z cs) :
    Rel (upd ι N (.cells z.length w.heap.size 0 cs.size)) ro σ (w.alloc (.cells cs t)) ∧
    Later ι ro ⟨σ.objs, 0⟩ w (upd ι N (.cells z.length w.heap.size 0 cs.size)) ro σ (w.alloc (.cells cs t)) ∧
    (∀ v u, VRel ι ro w v u → VRel (upd ι N (.cells z.length w.heap.size 0 cs.size)) ro (w.alloc (.cells cs t)) v u) ∧
    VRel (upd ι N (.cells z.length w.heap.size 0 cs.size)) ro (w.alloc (.cells cs t)) (.ptr N 0 0) (.pointer (some ⟨w.heap.size, 0, none⟩)) := by
  generalize hl : Loc.cells z.length w.heap.size 0 cs.size = l
  have hsz : cs.size = z.length := by have := (hcs ι ro w).1; simpa using this
  have ext : ∀ M k, ι M = some k → upd ι N l M = some k := fun M k h => by
    rw [upd_ne]
    · exact h
    · rintro rfl; rw [hι] at h; cases h
  have old : ∀ {M k}, upd ι N l M = some k → M ≠ N → ι M = some k := fun h hn => by rw [upd_ne ι l hn] at h; exact h
  have hv : ∀ v u, VRel ι ro w v u → VRel (upd ι N l) ro (w.alloc (.cells cs t)) v u := fun v u h =>
    h.mono ext (fun _ _ h => h) (fun b x v hr hc => by rw [World.cell?_alloc_lt w _ ⟨b, x, none⟩ (R.roIn b x hr)]; exact hc)
  have ownOld : ∀ b x, b < w.heap.size → Own (upd ι N l) σ b x → Own ι σ b x := by
    rintro b x hb ⟨M, m, off, e, m', rows, h, hs, h1, h2⟩
    by_cases hn : M = N
    · subst hn
      rw [upd_same, ← hl] at h
      cases h; omega
    · exact ⟨M, m, off, e, m', rows, old h hn, hs, h1, h2⟩
  have frame : Frame ι ⟨σ.objs, 0⟩ w (w.alloc (.cells cs t)) := ⟨rfl, rfl, rfl, by simp, fun b c e f hb => ⟨c, by rw [heap_alloc_lt _ _ (Array.getElem?_eq_some_iff.1 hb).1]; exact hb, rfl, fun _ _ => rfl⟩,
    fun r x hr _ _ => by rw [heap_alloc_lt _ _ (Array.getElem?_eq_some_iff.1 hr).1]; exact hr⟩
  have half : ∀ M k x, M ≠ N → ι M = some k → σ.objs M = some x → LocApart k l ∧ LocApart l k := by
    intro M k x hn h hs
    subst hl
    cases k with
    | obj r => exact ⟨trivial, trivial⟩
    | cells m b off e =>
      have := R.lt_cells h hs
      constructor <;> simp only [LocApart] <;> omega
  refine ⟨⟨?_, ?_, ?_, ?_, ?_⟩, ⟨frame, ext, fun _ _ h => h, ownOld, ?_, fun _ _ _ h => .inl h, ⟨Nat.zero_le _, fun _ _ h => (by simp at h), fun _ _ h => (by simp at h)⟩⟩, hv, ?_⟩
  · intro M k h
    by_cases hn : M = N
    · omega
    · exact R.dom _ _ (old h hn)
  · intro M k x h hs
    by_cases hn : M = N
    · subst hn
      rw [upd_same] at h
      have := ho _ hs
      subst this
      have hk : k = l := (Option.some.inj h).symm
      subst hk; subst hl
      refine ⟨rfl, by intro row hr; simp at hr; subst hr; exact ⟨rfl, hone⟩, by simp [hsz], ⟨cs, t, (0, 0), heap_alloc_new _ _, by omega, fun o _ _ h => by simp at h⟩, fun j q v hv => ?_⟩
      obtain ⟨rfl, hq⟩ := cellAt_single hv
      have hlt := (List.getElem?_eq_some_iff.1 hq).1
      have hx : cs[q]? = some cs[q] := Array.getElem?_eq_getElem (by omega)
      refine ⟨cs[q]'(by omega), ?_, (hcs _ _ _).2 q v _ hq hx⟩
      have : 0 + 0 * z.length + q = q := by omega
      rw [this, World.cell?_alloc_new]
      exact hx
    · refine (R.obj M k x (old h hn) hs).mono ext hv (fun m b off e _ c _ _ hb => ⟨c, by rw [heap_alloc_lt _ _ (Array.getElem?_eq_some_iff.1 hb).1]; exact hb, rfl, fun _ _ _ => rfl⟩) ?_
      intro r y _ hr _
      rw [heap_alloc_lt _ _ (Array.getElem?_eq_some_iff.1 hr).1]; exact hr
  · intro M M' k k' x x' hne h h' hs hs'
    by_cases hn : M = N
    · subst hn
      rw [upd_same] at h; cases h
      exact (half M' k' x' (Ne.symm hne) (old h' (Ne.symm hne)) hs').2
    · by_cases hn' : M' = N
      · subst hn'
        rw [upd_same] at h'; cases h'
        exact (half M k x hn (old h hn) hs).1
      · exact R.apart M M' k k' x x' hne (old h hn) (old h' hn') hs hs'
  · intro b x hr hown
    exact R.roSep b x hr (ownOld b x (R.roIn b x hr) hown)
  · intro b x hr
    have := R.roIn b x hr
    simp; omega
  · rintro r hr ⟨M, x, h, hs⟩
    by_cases hn : M = N
    · subst hn
      rw [upd_same, ← hl] at h; cases h
    · exact ⟨M, x, old h hn, hs⟩
  · subst hl
    have := VRel.ptr (ι := upd ι N (.cells z.length w.heap.size 0 cs.size)) (ro := ro) (w := w.alloc (.cells cs t)) 0 0 (upd_same ι N (.cells z.length w.heap.size 0 cs.size))
    simpa using this
theorem EnvRel.monoV {ι ι' : Nm} {ro ro' : Ros} {w w' : World} (hv : ∀ v u, VRel ι ro w v u → VRel ι' ro' w' v u) {env : AEnv} {a : Act} (h : EnvRel ι ro w env a) : EnvRel ι' ro' w' env a := by
  refine ⟨h.size, fun i u hu => hv _ _ (h.t i u hu), h.ds.1, fun i d x hx hd => ?_⟩
  obtain ⟨fn, cap, h1, first, h2, rest, h3, h4⟩ := h.ds.2 i d x hx hd
  exact ⟨fn, cap, h1, first, hv _ _ h2, rest, h3, h4.1, fun i v u h h' => hv _ _ (h4.2 i v u h h')⟩
def bares : List AVal → Bool
  | [] => true
  | v :: vs => bif v.bare then bares vs else false
theorem bares_all : ∀ (l : List AVal), bares l = true → ∀ v ∈ l, v.bare = true := by
  intro l
  induction l with
  | nil => intro _ v hv; simp at hv
  | cons a l ih =>
    intro h v hv
    simp only [bares] at h
    cases ha : a.bare with
    | false => rw [ha] at h; cases h
    | true =>
      rw [ha] at h
      rcases List.mem_cons.1 hv with rfl | hv
      · exact ha
      · exact ih h v hv
def isGh : AOp → Option (List AVal)
  | .alloc z => bif bares z then some z else none
  | _ => none
theorem isGh_eq {o : AOp} {z : List AVal} (h : isGh o = some z) : o = .alloc z ∧ ∀ v ∈ z, v.bare = true := by
  cases o <;> simp only [isGh] at h <;> try (cases h; done)
  cases hb : bares _ with
  | false => rw [hb] at h; cases h
  | true =>
    rw [hb] at h
    cases h
    exact ⟨rfl, bares_all _ hb⟩
def ghL : Nat → List AOper → List AOper
  | _, [] => []
  | n, o :: os => match isGh o.op with
    | some _ => { o with op := .mv (.c (.ptr n 0 0)) } :: ghL (n + 1) os
    | none => o :: ghL n os
def ghH : AHeap → List AOper → AHeap
  | σ, [] => σ
  | σ, o :: os => match isGh o.op with
    | some z => ghH (σ.alloc (.cells z.length [z])) os
    | none => ghH σ os
def ghN : Nat → List AOper → Nat → Option (Nat × List AVal)
  | _, [], _ => none
  | n, o :: os, 0 => (isGh o.op).map (n, ·)
  | n, o :: os, j + 1 => match isGh o.op with
    | some _ => ghN (n + 1) os j
    | none => ghN n os j
theorem ghL_length : ∀ (l : List AOper) (n : Nat), (ghL n l).length = l.length := by
  intro l
  induction l with
  | nil => intro n; rfl
  | cons o os ih => intro n; unfold ghL; split <;> simp [ih]
theorem ghL_get : ∀ (l : List AOper) (n j : Nat), (ghL n l)[j]? = (l[j]?).map fun o => match ghN n l j with | some (N, _) => { o with op := .mv (.c (.ptr N 0 0)) } | none => o := by
  intro l
  induction l with
  | nil => intro n j; simp [ghL]
  | cons o os ih =>
    intro n j
    unfold ghL
    cases j with
    | zero =>
      cases h : isGh o.op with
      | none => simp [ghN, h]
      | some z => simp [ghN, h]
    | succ j =>
      cases h : isGh o.op with
      | none => simp [ghN, h, ih]
      | some z => simp [ghN, h, ih]
theorem ghN_op : ∀ (l : List AOper) (n j N : Nat) (z : List AVal), ghN n l j = some (N, z) → ∃ o, l[j]? = some o ∧ isGh o.op = some z ∧ n ≤ N := by
  intro l
  induction l with
  | nil => intro n j N z h; cases j <;> simp [ghN] at h
  | cons o os ih =>
    intro n j N z h
    cases j with
    | zero =>
      simp only [ghN, Option.map_eq_some_iff] at h
      obtain ⟨z', hz, he⟩ := h
      cases he
      exact ⟨o, rfl, hz, Nat.le_refl _⟩
    | succ j =>
      simp only [ghN] at h
      split at h
      · obtain ⟨o', h1, h2, h3⟩ := ih _ _ _ _ h
        exact ⟨o', h1, h2, by omega⟩
      · exact ih _ _ _ _ h
theorem ghN_inj : ∀ (l : List AOper) (n j j' N : Nat) (z z' : List AVal), ghN n l j = some (N, z) → ghN n l j' = some (N, z') → j = j' := by
  intro l
  induction l with
  | nil => intro n j j' N z z' h; cases j <;> simp [ghN] at h
  | cons o os ih =>
    intro n j j' N z z' h h'
    cases j with
    | zero =>
      cases j' with
      | zero => rfl
      | succ j' =>
        simp only [ghN, Option.map_eq_some_iff] at h
        obtain ⟨z1, hz, he⟩ := h
        cases he
        simp only [ghN, hz] at h'
        obtain ⟨_, _, _, h3⟩ := ghN_op _ _ _ _ _ h'
        omega
    | succ j =>
      cases j' with
      | zero =>
        simp only [ghN, Option.map_eq_some_iff] at h'
        obtain ⟨z1, hz, he⟩ := h'
        cases he
        simp only [ghN, hz] at h
        obtain ⟨_, _, _, h3⟩ := ghN_op _ _ _ _ _ h
        omega
      | succ j' =>
        simp only [ghN] at h h'
        cases hg : isGh o.op with
        | none => simp only [hg] at h h'; rw [ih _ _ _ _ _ _ h h']
        | some z1 => simp only [hg] at h h'; rw [ih _ _ _ _ _ _ h h']
theorem ghH_old : ∀ (l : List AOper) (σ : AHeap), σ.next ≤ (ghH σ l).next ∧ ∀ N, N < σ.next → (ghH σ l).objs N = σ.objs N := by
  intro l
  induction l with
  | nil => intro σ; exact ⟨Nat.le_refl _, fun _ _ => rfl⟩
  | cons o os ih =>
    intro σ
    unfold ghH
    split
    · rename_i z hz
      obtain ⟨h1, h2⟩ := ih (σ.alloc (.cells z.length [z]))
      rw [AHeap.next_alloc] at h1 h2
      refine ⟨by omega, fun N hN => ?_⟩
      rw [h2 N (by omega), AHeap.objs_alloc, if_neg (by omega)]
    · exact ih σ
theorem ghH_new : ∀ (l : List AOper) (σ : AHeap) (j N : Nat) (z : List AVal), ghN σ.next l j = some (N, z) → N < (ghH σ l).next ∧ (ghH σ l).objs N = some (.cells z.length [z]) := by
  intro l
  induction l with
  | nil => intro σ j N z h; cases j <;> simp [ghN] at h
  | cons o os ih =>
    intro σ j N z h
    unfold ghH
    cases hg : isGh o.op with
    | none =>
      cases j with
      | zero => simp [ghN, hg] at h
      | succ j => simp only [ghN, hg] at h; exact ih σ j N z h
    | some z1 =>
      cases j with
      | zero =>
        simp only [ghN, hg, Option.map_some, Option.some.injEq, Prod.mk.injEq] at h
        obtain ⟨rfl, rfl⟩ := h
        obtain ⟨h1, h2⟩ := ghH_old os (σ.alloc (.cells z1.length [z1]))
        rw [AHeap.next_alloc] at h1 h2
        refine ⟨by simp only; omega, ?_⟩
        simp only
        rw [h2 _ (by omega), AHeap.objs_alloc, if_pos rfl]
      | succ j =>
        simp only [ghN, hg] at h
        exact ih (σ.alloc (.cells z1.length [z1])) j N z h
def cls (o : AOper) : AOper := match o.op with
  | .mv (.c _) => { o with op := .mv (.c .nilP) }
  | _ => o
theorem cls_dst (o : AOper) : (cls o).dst = o.dst := by unfold cls; split <;> rfl
theorem cls_aft (o : AOper) : (cls o).aft = o.aft := by unfold cls; split <;> rfl
theorem cls_guard (o : AOper) : (cls o).guard = o.guard := by unfold cls; split <;> rfl
theorem cls_eff (q : Bool) (o : AOper) : effOf q (cls o).op = effOf q o.op := by
  unfold cls; split
  · rename_i h; rw [h]; rfl
  · rfl
theorem cls_draw (o : AOper) : noDraw (cls o).op = noDraw o.op := by
  unfold cls; split
  · rename_i h; rw [h]; rfl
  · rfl
theorem cls_rd (o : AOper) : rdTmps (cls o) = rdTmps o := by
  unfold cls; split
  · rename_i h; simp only [rdTmps, h, opndsOf]; rfl
  · rfl
theorem cls_st (q st : List Nat) (i : Nat) (o : AOper) : isSt q st i (cls o) = isSt q st i o := by simp only [isSt, cls_eff]
theorem cls_needs (q st : List Nat) (i j : Nat) (a b : AOper) : needs q st i j (cls a) (cls b) = needs q st i j a b := by
  simp only [needs, cls_dst, cls_rd, cls_eff, cls_st]
theorem cls_ancs : ∀ (l : List AOper) (acc : List Nat), ancs (l.map cls) acc = ancs l acc := by
  intro l
  induction l with
  | nil => intro acc; rfl
  | cons o os ih => intro acc; simp only [List.map_cons, ancs, cls_aft, ih]
theorem cls_drOk (q st : List Nat) (l : List AOper) : drOk q st (l.map cls) = drOk q st l := by
  unfold drOk
  simp only [cls_ancs, List.length_map, List.getElem?_map]
  congr 1
  funext j
  cases l[j]? with
  | none => rfl
  | some b =>
    simp only [Option.map_some, cls_aft, cls_draw]
    congr 2
    funext i
    cases l[i]? with
    | none => rfl
    | some a => simp only [Option.map_some, cls_needs]
theorem cls_panOk (q : List Nat) (l : List AOper) (j : Nat) : panOk q (l.map cls) j = panOk q l j := by
  unfold panOk
  simp only [cls_ancs, List.length_map, List.getElem?_map]
  congr 1
  funext i
  cases l[i]? with
  | none => rfl
  | some a => simp only [Option.map_some, cls_eff]
theorem cls_poss (q : List Nat) (l : List AOper) : poss q (l.map cls) (ancs (l.map cls) []) = poss q l (ancs l []) := by
  funext j k
  unfold poss
  simp only [cls_ancs, List.length_map, List.getElem?_map]
  congr 1
  funext i
  cases l[i]? with
  | none => rfl
  | some a => simp only [Option.map_some, cls_eff]
theorem cls_dsts (l : List AOper) : dstsOf (l.map cls) = dstsOf l := by
  induction l with
  | nil => rfl
  | cons o os ih =>
    simp only [dstsOf, List.map_cons, List.filterMap_cons, cls_dst] at ih ⊢
    rw [ih]
theorem ghL_cls : ∀ (l : List AOper) (n m : Nat), (ghL n l).map cls = (ghL m l).map cls := by
  intro l
  induction l with
  | nil => intro n m; rfl
  | cons o os ih =>
    intro n m
    unfold ghL
    split
    · simp only [List.map_cons]
      rw [ih (n + 1) (m + 1)]
      rfl
    · simp only [List.map_cons]
      rw [ih n m]
theorem ghL_dsts : ∀ (l : List AOper) (n : Nat), dstsOf (ghL n l) = dstsOf l := by
  intro l
  induction l with
  | nil => intro n; rfl
  | cons o os ih =>
    intro n
    unfold ghL
    split
    · have := ih (n + 1)
      simp only [dstsOf, List.filterMap_cons] at this ⊢
      rw [this]
    · have := ih n
      simp only [dstsOf, List.filterMap_cons] at this ⊢
      rw [this]
theorem ghL_mem : ∀ (l : List AOper) (n : Nat) (o : AOper), o ∈ ghL n l → ∃ o' ∈ l, o'.dst = o.dst := by
  intro l
  induction l with
  | nil => intro n o h; simp [ghL] at h
  | cons o os ih =>
    intro n x h
    unfold ghL at h
    split at h
    · rcases List.mem_cons.1 h with rfl | h
      · exact ⟨o, by simp, rfl⟩
      · obtain ⟨o', h1, h2⟩ := ih _ _ h
        exact ⟨o', by simp [h1], h2⟩
    · rcases List.mem_cons.1 h with rfl | h
      · exact ⟨x, by simp, rfl⟩
      · obtain ⟨o', h1, h2⟩ := ih _ _ h
        exact ⟨o', by simp [h1], h2⟩
def ghS (l : List AOper) : List AOper := (ghL 0 l).map cls
theorem ghS_eq (n : Nat) (l : List AOper) : ghS l = (ghL n l).map cls := ghL_cls l 0 n
end Go.Tc
namespace Go.Tc
set_option linter.unusedSimpArgs false
theorem EnvRel.congr {ι : Nm} {ro : Ros} {w : World} {env env' : AEnv} {a : Act} (h : EnvRel ι ro w env a) (hn : env'.n = env.n) (ht : ∀ t, env'.t t = env.t t) (hd : env'.ds = env.ds) : EnvRel ι ro w env' a :=
  ⟨by rw [hn]; exact h.size, fun i u hu => by rw [ht]; exact h.t i u hu, by rw [hd]; exact h.ds⟩
theorem drOk_spec {q st : List Nat} {l : List AOper} (h : drOk q st l = true) :
    (∀ (j : Nat) (b : AOper), l[j]? = some b → (∀ k ∈ b.aft, k < j) ∧ noDraw b.op = false) ∧
    ∀ (i j : Nat) (a b : AOper), l[i]? = some a → l[j]? = some b → i < j → needs q st i j a b = true → ((ancs l []).getD j 0).testBit i = true := by
  unfold drOk at h
  simp only [List.all_eq_true, List.mem_range] at h
  refine ⟨fun j b hb => ?_, fun i j a b ha hb hij hn => ?_⟩
  · have hj := (List.getElem?_eq_some_iff.1 hb).1
    have := h j hj
    rw [hb] at this
    simp only [Bool.and_eq_true, List.all_eq_true, Bool.not_eq_true', decide_eq_true_eq] at this
    exact ⟨this.1.1, this.1.2⟩
  · have hj := (List.getElem?_eq_some_iff.1 hb).1
    have := h j hj
    rw [hb] at this
    simp only [Bool.and_eq_true, List.all_eq_true, List.mem_range] at this
    have := this.2 i hij
    rw [ha] at this
    simp only [hn, Bool.not_true, Bool.false_or] at this
    exact this
theorem countP_less {p : Nat → Bool} {j : Nat} : ∀ (L : List Nat), L.Nodup → j ∈ L → p j = true → L.countP (fun i => p i && !(i == j)) + 1 = L.countP p := by
  intro L
  induction L with
  | nil => intro _ h; simp at h
  | cons x xs ih =>
    intro hn hm hp
    rw [List.nodup_cons] at hn
    by_cases hx : x = j
    · subst hx
      have h1 : xs.countP (fun i => p i && !(i == x)) = xs.countP p := List.countP_congr fun i hi => by
        have : i ≠ x := fun e => hn.1 (e ▸ hi)
        simp [this]
      rw [List.countP_cons, List.countP_cons, h1]
      simp [hp]
    · have hm' : j ∈ xs := by simpa [Ne.symm hx] using hm
      have := ih hn.2 hm' hp
      rw [List.countP_cons, List.countP_cons]
      have hxx : (p x && !(x == j)) = p x := by simp [hx]
      rw [hxx]; omega
theorem drawn_gh {P : Program} {rd : Option Nat} {ops : Array Oper} {n : Nat} {q st : List Nat} {l : List AOper} {env : AEnv} {σ0 σ : AHeap} {Q : AExit → AEnv → AHeap → Prop} {id : Nat} (gz : Nat → Option (Nat × List AVal))
    (hn0 : σ0.next ≤ σ.next) (ho0 : ∀ N, N < σ0.next → σ.objs N = σ0.objs N)
    (hgz : ∀ j N z, gz j = some (N, z) → σ0.next ≤ N ∧ N < σ.next ∧ σ.objs N = some (.cells z.length [z]) ∧ ∀ v ∈ z, v.bare = true) (hinj : ∀ j j' N z z', gz j = some (N, z) → gz j' = some (N, z') → j = j')
    (hP : P.follows .mixedOrders = true) (hn : env.n = n) (hl : l.length = ops.size)
    (hc : ∀ (j : Nat) o, ops[j]? = some o → ∃ ao g oj, compOp P n o = some ao ∧ guardOf ops n o.guard = some g ∧ l[j]? = some oj ∧ o.dst = oj.dst ∧ oj.guard = g ∧ oj.aft = edgesOf o ∧
      (gz j = none ∧ oj.op = ao ∨ ∃ N z, gz j = some (N, z) ∧ ao = .alloc z ∧ oj.op = .mv (.c (.ptr N 0 0)))) (hok : drOk q st l = true)
    (h : wpDr P q st (poss q l (ancs l [])) 0 l env σ [(0, σ)] [] (fun env' σ' => Q .normal env' σ') (fun i v σ' => panOk q l i = true ∧ Q (.panic v) (env.junk (dstsOf l)) σ')) : RunC P rd (.region id ops true) env σ0 Q := by
  obtain ⟨hlt, hneed⟩ := drOk_spec hok
  obtain ⟨vs, σs, J, hJl, h0, hkp, hf, hA, -, hC, hK⟩ := wpDr_facts l 0 env σ _ _ h
  simp only [Nat.zero_add] at hf hA hC hK hkp
  have hnn : ∀ S, (putS S vs 0 l env).n = env.n := fun S => (putS_n l 0 env).1
  have hds : ∀ S, (putS S vs 0 l env).ds = env.ds := fun S => (putS_n l 0 env).2
  have hend : ∃ e env' σ', Q e env' σ' ∧ env'.n = env.n ∧ ((J = l.length ∧ e = .normal ∧ env' = putS (fun x => decide (x < l.length)) vs 0 l env ∧ σ' = σs l.length) ∨
      ∃ o v, l[J]? = some o ∧ gOk o.guard (putS (fun x => decide (x < J)) vs 0 l env) = some true ∧ OpW P o.op (putS (fun x => decide (x < J)) vs 0 l env) (σs J) (fun _ _ => False) (fun v' s' => v' = v ∧ s' = σ') ∧
        panOk q l J = true ∧ e = .panic v ∧ env' = env.junk (dstsOf l)) := by
    rcases hK with ⟨hJ, hK⟩ | ⟨o, v, s, h1, h2, h3, h4, h5⟩
    · exact ⟨_, _, _, hK, hnn _, .inl ⟨hJ, rfl, rfl, rfl⟩⟩
    · exact ⟨_, _, _, h5, rfl, .inr ⟨o, v, h1, h2, h3, h4, rfl, rfl⟩⟩
  obtain ⟨eE, envE, σE, hQE, hnE, hE⟩ := hend
  have hdJ : ∀ i a, l[i]? = some a → J < i → ((ancs l []).getD i 0).testBit J = true := by
    intro i a ha hi
    rcases hE with ⟨hJ, _⟩ | ⟨o, v, ho, _, _, hp, _⟩
    · have := (List.getElem?_eq_some_iff.1 ha).1; omega
    · unfold panOk at hp
      simp only [List.all_eq_true, List.mem_range] at hp
      have := hp i (List.getElem?_eq_some_iff.1 ha).1
      rw [ha] at this
      simp only [if_neg (show ¬ i < J by omega), Bool.or_eq_true, decide_eq_true_eq] at this
      rcases this with h | h
      · omega
      · exact h
  refine ⟨eE, envE, σE, hQE, hnE, fun ι ro w a r b hr R0 E M hb Qc hQ => ?_⟩
  obtain ⟨R, LG⟩ := ghost_rel R0 hn0 ho0
  refine wpIn_region_any hP ?_
  rw [World.drew_eq]
  have main : ∀ (fuel : Nat) (listed : Array Bool) (ι' : Nm) (ro' : Ros) (w' : World) (a' : Act), listed.size = ops.size → Closed l (fun i => listed.getD i false) → (∀ k, J ≤ k → listed.getD k false = false) →
      (List.range ops.size).countP (fun i => !listed.getD i false) = fuel → Rel ι' ro' (verS q (fun i => listed.getD i false) σs 0 l σ) w' →
      EnvRel ι' ro' w' (putS (fun i => listed.getD i false) vs 0 l env) a' → Marks b ι' (verS q (fun i => listed.getD i false) σs 0 l σ) w' a' →
      Later ι ro σ0 w ι' ro' (verS q (fun i => listed.getD i false) σs 0 l σ) w' → σ.next ≤ (verS q (fun i => listed.getD i false) σs 0 l σ).next →
      (∀ j N z, gz j = some (N, z) → listed.getD j false = false → ι' N = none ∧ ∀ o, (verS q (fun i => listed.getD i false) σs 0 l σ).objs N = some o → o = .cells z.length [z]) →
      wpAnyIn (Fr r) 0 P .any ops Qc fuel listed a' w' := by
    intro fuel
    induction fuel with
    | zero =>
      intro listed ι' ro' w' a' hs hcl hlow hcnt R' E' M' LT hnx hGI
      have hall : ∀ i, i < ops.size → listed.getD i false = true := by
        intro i hi
        rw [List.countP_eq_zero] at hcnt
        have := hcnt i (by simpa using hi)
        simpa using this
      have hJe : J = l.length := by
        apply Classical.byContradiction
        intro hne
        have := hall J (by omega)
        rw [hlow J (Nat.le_refl _)] at this; cases this
      rcases hE with ⟨_, rfl, rfl, rfl⟩ | ⟨o, v, ho, _⟩
      rotate_left
      · have := (List.getElem?_eq_some_iff.1 ho).1; omega
      refine ⟨?_, ?_⟩
      · rw [List.eq_nil_iff_forall_not_mem]
        intro i hi
        obtain ⟨o, ho, h1, _⟩ := (ready_iff hs).1 hi
        rw [hall i (Array.getElem?_eq_some_iff.1 ho).1] at h1; cases h1
      · have hS : ∀ k o, l[k]? = some o → listed.getD (0 + k) false = decide (0 + k < l.length) := by
          intro k o ho
          have := (List.getElem?_eq_some_iff.1 ho).1
          rw [hall (0 + k) (by omega)]; simp; omega
        have hv : verS q (fun i => listed.getD i false) σs 0 l σ = σs l.length := by
          rw [verS_congr (S' := fun x => decide (x < 0 + l.length)) l 0 σ (fun k o ho _ => by rw [hS k o ho]; simp)]
          rw [← h0]
          have := verS_canon (q := q) (σs := σs) l 0 l.length (Nat.le_refl _) (fun k o ho he => by have := hkp k o ho (by simpa using he); simpa using this)
          simpa using this
        have E2 : EnvRel ι' ro' w' (putS (fun x => decide (x < l.length)) vs 0 l env) a' :=
          E'.congr (by rw [hnn, hnn]) (fun t => (putS_congr l 0 env env rfl (fun k o ho _ => (hS k o ho))).symm) (by rw [hds, hds])
        rw [hv] at R' M' LT
        exact hQ ι' ro' _ _ _ LT R' E2 M' .normal
    | succ fuel ih =>
      intro listed ι' ro' w' a' hs hcl hlow hcnt R' E' M' LT hnx hGI
      refine ⟨?_, ?_⟩
      · intro hnil
        exfalso
        have hex : ∃ i, i < ops.size ∧ listed.getD i false = false := by
          have : 0 < (List.range ops.size).countP (fun i => !listed.getD i false) := by omega
          rw [List.countP_pos_iff] at this
          obtain ⟨i, hi, h1⟩ := this
          exact ⟨i, by simpa using hi, by simpa using h1⟩
        have hmin : ∃ i, i < ops.size ∧ listed.getD i false = false ∧ ∀ k, k < i → listed.getD k false = true := by
          obtain ⟨i, hi, h1⟩ := hex
          induction i using Nat.strongRecOn with
          | _ i ihh =>
            by_cases hk : ∀ k, k < i → listed.getD k false = true
            · exact ⟨i, hi, h1, hk⟩
            · have : ∃ k, k < i ∧ listed.getD k false = false := by
                apply Classical.byContradiction
                intro hno
                apply hk
                intro k hki
                cases hkk : listed.getD k false with
                | true => rfl
                | false => exact absurd ⟨k, hki, hkk⟩ hno
              obtain ⟨k, hki, hkf⟩ := this
              exact ihh k hki (by omega) hkf
        obtain ⟨i, hi, h1, h2⟩ := hmin
        have ho : ops[i]? = some ops[i] := Array.getElem?_eq_getElem hi
        obtain ⟨ao, g, oi, hop, hg, hli, _, _, haft, _⟩ := hc i _ ho
        have : i ∈ Region.ready .any ops listed := (ready_iff hs).2 ⟨_, ho, h1, fun k hk => h2 k (by
          have := (hlt i _ hli).1 k (by rw [haft]; exact hk)
          exact this)⟩
        rw [hnil] at this; cases this
      · intro j hj
        obtain ⟨o, ho, hjf, hjk⟩ := (ready_iff hs).1 hj
        have hjs := (Array.getElem?_eq_some_iff.1 ho).1
        obtain ⟨ao, g, oj, hop, hg, hlj, hdst, hgd, haft, hgo⟩ := hc j _ ho
        have hedge : ∀ k ∈ oj.aft, listed.getD k false = true := fun k hk => hjk k (by rw [haft] at hk; exact hk)
        have ahead : ∀ i a, l[i]? = some a → i < j → needs q st i j a oj = true → listed.getD i false = true := fun i a ha hij hnd =>
          closed_anc (fun j o h => (hlt j o h).1) hcl j oj hlj hedge i (hneed i j a oj ha hlj hij hnd)
        have behind0 : ∀ i a, l[i]? = some a → ((ancs l []).getD i 0).testBit j = true → listed.getD i false = false := fun i a ha hnd => by
          cases hii : listed.getD i false with
          | false => rfl
          | true =>
            have := closed_anc (fun j o h => (hlt j o h).1) hcl i a ha (hcl i a ha hii) j hnd
            simp only [hjf] at this; cases this
        have behind : ∀ i a, l[i]? = some a → j < i → needs q st j i oj a = true → listed.getD i false = false := fun i a ha hij hnd => behind0 i a ha (hneed j i oj a hlj ha hij hnd)
        have hjJ : j ≤ J := by
          apply Classical.byContradiction
          intro hn'
          have := closed_anc (fun j o h => (hlt j o h).1) hcl j oj hlj hedge J (hdJ j oj hlj (by omega))
          rw [hlow J (Nat.le_refl _)] at this; cases this
        have hreads : ∀ t ∈ rdTmps oj, (putS (fun i => listed.getD i false) vs 0 l env).t t = (putS (fun x => decide (x < j)) vs 0 l env).t t := by
          intro t ht
          refine putS_congr l 0 env env rfl fun k o' ho' hd => ?_
          simp only [Nat.zero_add]
          have hct : (rdTmps oj).contains t = true := by simpa using ht
          rcases Nat.lt_trichotomy k j with hkj | hkj | hkj
          · rw [ahead k o' ho' hkj (by simp only [needs, hd, hct, Bool.true_or])]; simp [hkj]
          · subst hkj; rw [hjf]; simp
          · rw [behind k o' ho' hkj (by simp only [needs, hd, hct, Bool.true_or, Bool.or_true])]; simp; omega
        have hver : effOf (q.contains j) oj.op ≠ .no → isSt q st j oj = false → verS q (fun i => listed.getD i false) σs 0 l σ = σs j := by
          intro he hst
          have : verS q (fun i => listed.getD i false) σs 0 l σ = verS q (fun x => decide (x < 0 + j)) σs 0 l σ := by
            refine verS_congr l 0 σ fun k o' ho' he' => ?_
            simp only [Nat.zero_add] at he' ⊢
            rcases Nat.lt_trichotomy k j with hkj | hkj | hkj
            · rw [ahead k o' ho' hkj (by
                simp only [needs, he', Bool.or_eq_true]
                right
                cases hee : effOf (q.contains j) oj.op <;> first | rfl | exact absurd hee he | (simp only [hst]; rfl))]
              simp [hkj]
            · subst hkj; rw [hjf]; simp
            · rw [behind k o' ho' hkj (by
                simp only [needs, he', Bool.or_eq_true]
                right
                cases hee : effOf (q.contains j) oj.op <;> first | rfl | exact absurd hee he | (simp only [hst]; rfl))]
              simp; omega
          rw [this, ← h0]
          have := verS_canon (q := q) (σs := σs) l 0 j (by omega) (fun k o ho he => by have := hkp k o ho (by simpa using he); simpa using this)
          simpa using this
        rcases Nat.lt_or_eq_of_le hjJ with hjJ | hjJ
        rotate_left
        ·
          rcases hE with ⟨hJ, _⟩ | ⟨oJ, v, hoJ, hgJ, hwJ, hpan, rfl, rfl⟩
          · omega
          subst hjJ
          rw [hlj] at hoJ; cases hoJ
          have hverJ : verS q (fun i => listed.getD i false) σs 0 l σ = σs j := by
            have : verS q (fun i => listed.getD i false) σs 0 l σ = verS q (fun x => decide (x < 0 + j)) σs 0 l σ := by
              refine verS_congr l 0 σ fun k o' ho' he' => ?_
              simp only [Nat.zero_add] at he' ⊢
              by_cases hkj : k < j
              · have hk : ((ancs l []).getD j 0).testBit k = true := by
                  unfold panOk at hpan
                  simp only [List.all_eq_true, List.mem_range] at hpan
                  have := hpan k (List.getElem?_eq_some_iff.1 ho').1
                  rw [ho'] at this
                  simp only [if_pos hkj, he', bne_self_eq_false, Bool.false_or] at this
                  exact this
                rw [closed_anc (fun j o h => (hlt j o h).1) hcl j oj hlj hedge k hk]
                simp [hkj]
              · rw [hlow k (by omega)]; simp; omega
            rw [this, ← h0]
            have := verS_canon (q := q) (σs := σs) l 0 j (by omega) (fun k o ho he => by have := hkp k o ho (by simpa using he); simpa using this)
            simpa using this
          have hgS : gOk oj.guard (putS (fun i => listed.getD i false) vs 0 l env) = some true := by
            rw [← hgJ]
            unfold gOk
            cases hgg : oj.guard with
            | none => rfl
            | some p =>
              obtain ⟨t, want⟩ := p
              simp only
              rw [hreads t (by simp [rdTmps, hgg])]
          have hwant : Region.wanted o (yielded ops a'.tmps) = true := wanted_of hg (env := putS (fun i => listed.getD i false) vs 0 l env) (by rw [hnn]; exact hn) (by rw [hgd] at hgS; exact hgS) E'
          unfold wpOpIn
          rw [ho]
          simp only [hwant, if_true]
          have hev : ∀ x ∈ opndsOf oj.op, (putS (fun x => decide (x < j)) vs 0 l env).ev x = (putS (fun i => listed.getD i false) vs 0 l env).ev x := by
            intro x hx
            cases x with
            | t t => exact (hreads t (by simp only [rdTmps, List.mem_append, List.mem_filterMap]; exact .inl ⟨.t t, hx, rfl⟩)).symm
            | c v => rfl
            | f f => rfl
          have hw1 := OpW_congr hev hwJ
          rw [← hverJ] at hw1
          have hop' : compOp P n o = some oj.op := by
            rcases hgo with ⟨_, he⟩ | ⟨N, z, _, _, he⟩
            · rw [he]; exact hop
            · rw [he] at hwJ
              exact hwJ.elim
          obtain ⟨out, σ1, hk, hmet⟩ := op_sound hop' (by
            intro f args he
            have := (hlt j oj hlj).2
            rw [he] at this
            cases this) (show (putS (fun i => listed.getD i false) vs 0 l env).n = n by rw [hnn]; exact hn) hw1
          cases out with
          | ret v => exact hk.elim
          | panic v =>
            obtain ⟨rfl, rfl⟩ := hk
            refine hmet ι' ro' w' a' r R' E' _ _ ?_ ?_
            · intro v' hv'; cases hv'
            · intro v' hv' ι1 ro1 u w1 L R1 hv1
              cases hv'
              refine hQ ι1 ro1 _ _ _ (LT.trans L) R1 ?_ (M'.later L) (.panic hv1)
              have E1 := E'.later R' L
              refine ⟨E1.size.trans (hnn _), fun i x hx => ?_, by have := E1.ds; rw [hds] at this; exact this⟩
              show VRel ι1 ro1 w1 (if (dstsOf l).contains i = true then .junk else env.t i) x
              by_cases hi : (dstsOf l).contains i = true
              · rw [if_pos hi]; exact .junk _
              · rw [if_neg hi]
                have := E1.t i x hx
                rwa [putS_other (t := i) l 0 env (fun k o' ho' hd => by
                  exfalso
                  apply hi
                  simp only [dstsOf, List.contains_iff_mem, List.mem_filterMap]
                  exact ⟨o', List.mem_of_getElem? ho', hd⟩)] at this
        obtain ⟨⟨bb, hgb, hb1, hb2⟩, hkeep⟩ := hf j oj hjJ hlj
        have hS' : ∀ i, (listed.setIfInBounds j true).getD i false = if i = j then true else listed.getD i false := by
          intro i
          simp only [Array.getD_eq_getD_getElem?]
          by_cases hij : i = j
          · subst hij; simp [hs, hjs]
          · rw [Array.getElem?_setIfInBounds_ne (Ne.symm hij), if_neg hij]
        have hput : ∀ t, (putS (fun i => (listed.setIfInBounds j true).getD i false) vs 0 l env).t t = ((putS (fun i => listed.getD i false) vs 0 l env).put oj.dst (vs j)).t t := by
          intro t
          by_cases hd : oj.dst = some t
          · have := putS_last (S := fun i => (listed.setIfInBounds j true).getD i false) (vs := vs) l 0 j env oj hlj hd (by simp only [Nat.zero_add, hS', if_true]) (fun k o' hjk ho' hd' => by
              simp only [Nat.zero_add, hS', if_neg (show ¬ k = j by omega)]
              exact behind k o' ho' hjk (by simp [needs, hd, hd']))
            rw [this]
            simp [AEnv.put, hd, AEnv.set]
          · have h1 : ((putS (fun i => listed.getD i false) vs 0 l env).put oj.dst (vs j)).t t = (putS (fun i => listed.getD i false) vs 0 l env).t t := by
              cases hdd : oj.dst with
              | none => rfl
              | some d =>
                have : t ≠ d := fun hh => hd (by rw [hdd, hh])
                simp [AEnv.put, AEnv.set, this]
            rw [h1]
            refine putS_congr l 0 env env rfl fun k o' ho' hd' => ?_
            simp only [Nat.zero_add, hS']
            rw [if_neg]
            rintro rfl
            rw [hlj] at ho'; cases ho'
            exact hd hd'
        have hverS : verS q (fun i => (listed.setIfInBounds j true).getD i false) σs 0 l σ = (if effOf (q.contains j) oj.op = .wr then σs (j + 1) else verS q (fun i => listed.getD i false) σs 0 l σ) := by
          split
          · rename_i he
            have := verS_last (S := fun i => (listed.setIfInBounds j true).getD i false) (σs := σs) (q := q) l 0 j σ oj hlj (by simpa using he) (by simp only [Nat.zero_add, hS', if_true]) (fun k o' hjk ho' he' => by
              simp only [Nat.zero_add] at he' ⊢
              simp only [hS', if_neg (show ¬ k = j by omega)]
              exact behind k o' ho' hjk (by simp only [needs, he, he', Bool.or_true]))
            simpa using this
          · rename_i he
            refine verS_congr l 0 σ fun k o' ho' he' => ?_
            simp only [Nat.zero_add, hS'] at he' ⊢
            rw [if_neg]
            rintro rfl
            rw [hlj] at ho'; cases ho'
            exact he he'
        have hcl' : Closed l (fun i => (listed.setIfInBounds j true).getD i false) := by
          intro i a ha hSi k hk
          simp only [hS'] at hSi ⊢
          by_cases hij : i = j
          · subst hij
            rw [hlj] at ha; cases ha
            rw [hedge k hk]; split <;> rfl
          · rw [if_neg hij] at hSi
            have h9 : listed.getD k false = true := hcl i a ha hSi k hk
            rw [h9]; split <;> rfl
        have hcnt' : (List.range ops.size).countP (fun i => !(listed.setIfInBounds j true).getD i false) = fuel := by
          have := countP_less (p := fun i => !listed.getD i false) (j := j) (List.range ops.size) List.nodup_range (by simpa using hjs) (by simp [hjf])
          rw [hcnt] at this
          have h2 : (List.range ops.size).countP (fun i => !(listed.setIfInBounds j true).getD i false) = (List.range ops.size).countP (fun i => (!listed.getD i false) && !(i == j)) := by
            refine List.countP_congr fun i _ => ?_
            rw [hS']
            by_cases hij : i = j <;> simp [hij]
          omega
        have go : ∀ ι2 ro2 w2 u, Later ι' ro' (verS q (fun i => listed.getD i false) σs 0 l σ) w' ι2 ro2 (verS q (fun i => (listed.setIfInBounds j true).getD i false) σs 0 l σ) w2 →
            Rel ι2 ro2 (verS q (fun i => (listed.setIfInBounds j true).getD i false) σs 0 l σ) w2 → VRel ι2 ro2 w2 (vs j) u →
            wpAnyIn (Fr r) 0 P .any ops Qc fuel (listed.setIfInBounds j true) (a'.put o.dst u) w2 := by
          intro ι2 ro2 w2 u L2 R2 hv2
          refine ih _ ι2 ro2 w2 _ (by simp [hs]) hcl' (fun k hk => by rw [hS', if_neg (by omega)]; exact hlow k hk) hcnt' R2 ?_ ((M'.later L2).put _ _) (LT.trans L2) (Nat.le_trans hnx L2.kept.nx) ?_
          rotate_left
          · intro j' N z hgj hf'
            rw [hS'] at hf'
            split at hf'
            · cases hf'
            obtain ⟨hn1, ho1⟩ := hGI j' N z hgj hf'
            obtain ⟨hN1, hN2, _, hz⟩ := hgz j' N z hgj
            refine ⟨?_, fun o' ho' => ?_⟩
            · cases hx : ι2 N with
              | none => rfl
              | some l' => rw [L2.kept.fresh N l' (by omega) hx] at hn1; cases hn1
            · obtain ⟨o1, ho2, hz2⟩ := L2.kept.keep N o' (by omega) hn1 ho'
              have := ho1 _ ho2
              subst this
              exact hz2 ⟨_, _, rfl, hz⟩
          rw [hdst]
          exact ((E'.later R' L2).put oj.dst hv2).congr (by rw [put_n, hnn, hnn]) hput (by
            have : ∀ (e : AEnv) d v, (e.put d v).ds = e.ds := by intro e d v; cases d <;> rfl
            rw [this, hds, hds])
        have hgS : gOk oj.guard (putS (fun i => listed.getD i false) vs 0 l env) = some bb := by
          rw [← hgb]
          unfold gOk
          cases hgg : oj.guard with
          | none => rfl
          | some p =>
            obtain ⟨t, want⟩ := p
            simp only
            rw [hreads t (by simp [rdTmps, hgg])]
        have hwant : Region.wanted o (yielded ops a'.tmps) = bb := wanted_of hg (env := putS (fun i => listed.getD i false) vs 0 l env) (by rw [hnn]; exact hn) (by rw [hgd] at hgS; exact hgS) E'
        unfold wpOpIn
        rw [ho]
        simp only [hwant]
        cases bb with
        | false =>
          obtain ⟨hv0, hσ0⟩ := hb2 rfl
          simp only [Bool.false_eq_true, if_false]
          refine ⟨fun _ _ => trivial, ?_⟩
          have hsame : verS q (fun i => (listed.setIfInBounds j true).getD i false) σs 0 l σ = verS q (fun i => listed.getD i false) σs 0 l σ := by
            rw [hverS]
            split
            · rename_i he
              rw [hσ0, hver (by rw [he]; simp) (by simp only [isSt, he]; simp)]
            · rfl
          refine go ι' ro' w' undef (by rw [hsame]; exact .refl _ _ _ _) (by rw [hsame]; exact R') ?_
          rw [hv0]; exact tupNil _ _ _
        | true =>
          simp only [if_true]
          have hw := hb1 rfl
          rcases hgo with ⟨hgn, hoo⟩ | ⟨N, z, hgj, rfl, hoo⟩
          rotate_left
          ·
            rw [hoo] at hw hverS
            obtain ⟨hv, -⟩ := hw
            have hv : vs j = .ptr N 0 0 := hv.symm
            have hsame : verS q (fun i => (listed.setIfInBounds j true).getD i false) σs 0 l σ = verS q (fun i => listed.getD i false) σs 0 l σ := by
              rw [hverS]; rfl
            obtain ⟨hN1, hN2, _, hz⟩ := hgz j N z hgj
            obtain ⟨hn1, ho1⟩ := hGI j N z hgj hjf
            obtain ⟨t, cs, hone, hcs, hrun, hnd⟩ := alloc_run hop
            obtain ⟨R2, L2, hV2, hP2⟩ := ghost_alloc R' t (by omega) hn1 ho1 hone hcs
            refine wpIn_of_upon (R := fun e w2 => e = .returned (.pointer (some ⟨w'.heap.size, 0, none⟩)) ∧ w2 = w'.alloc (.cells cs t)) hnd ?_ ?_ ?_ ?_
            · rw [hrun]; exact ⟨rfl, rfl⟩
            · rintro u w2 ⟨he, rfl⟩
              cases he
              have kk : Kept ι σ0 (upd ι' N (.cells z.length w'.heap.size 0 cs.size)) (verS q (fun i => listed.getD i false) σs 0 l σ) := by
                refine ⟨LT.kept.nx, fun M l' hM hl' => ?_, LT.kept.keep⟩
                rw [upd_ne _ _ (by omega)] at hl'
                exact LT.kept.fresh M l' hM hl'
              refine ih _ _ ro' _ _ (by simp [hs]) hcl' (fun k hk => by rw [hS', if_neg (by omega)]; exact hlow k hk) hcnt' (by rw [hsame]; exact R2) ?_ ?_ (by rw [hsame]; exact LT.trans0 L2 kk) (by rw [hsame]; exact hnx) ?_
              · rw [hdst]
                exact ((E'.monoV hV2).put oj.dst (by rw [← hv] at hP2; exact hP2)).congr (by rw [put_n, hnn, hnn]) hput (by
                  have : ∀ (e : AEnv) d v, (e.put d v).ds = e.ds := by intro e d v; cases d <;> rfl
                  rw [this, hds, hds])
              · rw [hsame]
                have M1 : Marks b ι' ⟨(verS q (fun i => listed.getD i false) σs 0 l σ).objs, 0⟩ w' a' := ⟨M'.nodup, M'.each⟩
                exact (M1.later L2).put _ _
              · intro j' N' z' hgj' hf'
                rw [hS'] at hf'
                split at hf'
                · cases hf'
                rename_i hjj
                obtain ⟨hn2, ho2⟩ := hGI j' N' z' hgj' hf'
                refine ⟨?_, by rw [hsame]; exact ho2⟩
                rw [upd_ne]
                · exact hn2
                · rintro rfl
                  exact hjj (hinj _ _ _ _ _ hgj' hgj)
            · rintro ch w2 ⟨he, _⟩; cases he
            · rintro w2 ⟨he, _⟩; cases he
          have hev : ∀ x ∈ opndsOf oj.op, (putS (fun x => decide (x < j)) vs 0 l env).ev x = (putS (fun i => listed.getD i false) vs 0 l env).ev x := by
            intro x hx
            cases x with
            | t t => exact (hreads t (by simp only [rdTmps, List.mem_append, List.mem_filterMap]; exact .inl ⟨.t t, hx, rfl⟩)).symm
            | c v => rfl
            | f f => rfl
          have hw1 := OpW_congr hev hw
          have hw2 : OpW P oj.op (putS (fun i => listed.getD i false) vs 0 l env) (verS q (fun i => listed.getD i false) σs 0 l σ)
              (fun v' s => v' = vs j ∧ s = verS q (fun i => (listed.setIfInBounds j true).getD i false) σs 0 l σ) (fun _ _ => False) := by
            rw [hverS]
            cases hee : effOf (q.contains j) oj.op with
            | no =>
              rw [if_neg (by simp)]
              exact OpW_ins hee hw1
            | rd =>
              rw [if_neg (by simp)]
              cases hst : isSt q st j oj with
              | false =>
                rw [hver (by rw [hee]; simp) hst]
                have := hkeep (by rw [hee]; simp)
                rw [this] at hw1
                exact hw1
              | true =>
                refine OpW_congr hev ?_
                have hwr : ∀ i i0 a a0, l[i]? = some a → l[i0]? = some a0 → i < i0 → effOf (q.contains i) a.op = .wr → effOf (q.contains i0) a0.op = .wr → ((ancs l []).getD i0 0).testBit i = true :=
                  fun i i0 a a0 ha ha0 hlt0 he he0 => hneed i i0 a a0 ha ha0 hlt0 (by simp only [needs, he, he0, Bool.or_true])
                have hposs : ∀ k0, (∀ i a, l[i]? = some a → effOf (q.contains i) a.op = .wr → listed.getD i false = true → i < k0) → (k0 = 0 ∨ ∃ i0 a0, k0 = i0 + 1 ∧ l[i0]? = some a0 ∧ effOf (q.contains i0) a0.op = .wr ∧ listed.getD i0 false = true) →
                    poss q l (ancs l []) j k0 = true := by
                  intro k0 hmax hk0
                  unfold poss
                  simp only [List.all_eq_true, List.mem_range]
                  intro i hi
                  have hli : l[i]? = some l[i] := List.getElem?_eq_getElem hi
                  rw [hli]
                  dsimp only
                  split
                  · rename_i hwi
                    split
                    · cases hb : ((ancs l []).getD j 0).testBit i with
                      | false => rfl
                      | true =>
                        have hS := closed_anc (fun j o h => (hlt j o h).1) hcl j oj hlj hedge i hb
                        simp only [Bool.not_true, Bool.false_or, decide_eq_true_eq]
                        exact hmax i _ hli hwi hS
                    · cases hb : ((ancs l []).getD i 0).testBit j with
                      | false => rfl
                      | true =>
                        have hS := behind0 i _ hli hb
                        simp only [Bool.not_true, Bool.false_or, decide_eq_true_eq]
                        rcases hk0 with rfl | ⟨i0, a0, rfl, ha0, he0, hs0⟩
                        · omega
                        · rcases Nat.lt_trichotomy i i0 with h | h | h
                          · have := closed_anc (fun j o h => (hlt j o h).1) hcl i0 a0 ha0 (hcl i0 a0 ha0 hs0) i (hwr i i0 _ a0 hli ha0 h hwi he0)
                            simp only [hS] at this; cases this
                          · subst h; rw [hS] at hs0; cases hs0
                          · omega
                  · rfl
                rcases verS_pos (q := q) (S := fun i => listed.getD i false) (σs := σs) l 0 σ with ⟨hv1, hv2⟩ | ⟨k, a0, ha0, he0, hs0, hv1, hv2⟩
                · rw [hv1]
                  exact hA j oj hjJ hlj hst hgb (0, σ) (by simp) (hposs 0 (fun i a ha he hs => by have := hv2 i a ha (by simpa using he); simp only [Nat.zero_add] at this; rw [hs] at this; cases this) (.inl rfl))
                · rw [hv1]
                  simp only [Nat.zero_add] at hv2 he0 hs0 ⊢
                  refine hC j k oj a0 hjJ (by
                    apply Classical.byContradiction
                    intro hkJ
                    have hs1 : listed.getD k false = true := hs0
                    rw [hlow k (by omega)] at hs1; cases hs1) hlj ha0 hst hgb he0 (hposs (k + 1) (fun i a ha he hs => ?_) (.inr ⟨k, a0, rfl, ha0, he0, hs0⟩))
                  apply Classical.byContradiction
                  intro hlt0
                  have := hv2 i a (by omega) ha he
                  rw [hs] at this; cases this
            | wr =>
              rw [if_pos rfl]
              rw [hver (by rw [hee]; simp) (by simp only [isSt, hee]; simp)]
              exact hw1
          have hop' : compOp P n o = some oj.op := by rw [hoo]; exact hop
          obtain ⟨out, σ1, hk, hmet⟩ := op_sound hop' (by
            intro f args he
            have := (hlt j oj hlj).2
            rw [he] at this
            cases this) (show (putS (fun i => listed.getD i false) vs 0 l env).n = n by rw [hnn]; exact hn) hw2
          cases out with
          | panic v => exact hk.elim
          | ret v =>
            obtain ⟨rfl, rfl⟩ := hk
            refine hmet ι' ro' w' a' r R' E' _ _ ?_ ?_
            · intro v' hv' ι1 ro1 u w1 L R1 hv1
              cases hv'
              exact go ι1 ro1 w1 u L R1 hv1
            · intro v' hv'; cases hv'
  have hlf : ∀ i, (Array.replicate ops.size false).getD i false = false := by
    intro i; simp [Array.getD]
  have hfun : (fun i => (Array.replicate ops.size false).getD i false) = fun _ => false := funext hlf
  have hp0 : putS (fun i => (Array.replicate ops.size false).getD i false) vs 0 l env = env := by rw [hfun]; exact putS_none _ _ _ (fun _ _ => rfl)
  have hv0 : verS q (fun i => (Array.replicate ops.size false).getD i false) σs 0 l σ = σ := by rw [hfun]; exact verS_other _ _ _ (fun _ _ _ _ => rfl)
  refine main ops.size _ ι ro w.drew a (by simp) ?_ (fun k _ => hlf k) ?_ ?_ ?_ ?_ ?_ ?_ ?_
  · intro j o _ hS
    have hS' : (Array.replicate ops.size false).getD j false = true := hS
    rw [hlf] at hS'; cases hS'
  · simp only [hlf]; simp
  · rw [hv0]; exact R.drew
  · rw [hp0]; exact E.later R (.drew _ _ _ _)
  · rw [hv0]; exact (M.later LG).later (.drew ι ro σ w)
  · rw [hv0]; exact LG.trans (.drew _ _ _ _)
  · rw [hv0]; exact Nat.le_refl _
  · intro j N z hgj _
    obtain ⟨hN1, hN2, hN3, _⟩ := hgz j N z hgj
    refine ⟨?_, fun o ho => ?_⟩
    · cases hx : ι N with
      | none => rfl
      | some l' => have := R0.dom _ _ hx; omega
    · rw [hv0, hN3] at ho
      exact (Option.some.inj ho).symm
theorem drawn_rule {P : Program} {rd : Option Nat} {ops : Array Oper} {n : Nat} {q st : List Nat} {l : List AOper} {env : AEnv} {σ : AHeap} {Q : AExit → AEnv → AHeap → Prop} {id : Nat}
    (hP : P.follows .mixedOrders = true) (hn : env.n = n) (hl : l.length = ops.size) (hc : ∀ (j : Nat) o, ops[j]? = some o → compOper P n ops o = l[j]?) (hok : drOk q st l = true)
    (h : wpDr P q st (poss q l (ancs l [])) 0 l env σ [(0, σ)] [] (fun env' σ' => Q .normal env' σ') (fun i v σ' => panOk q l i = true ∧ Q (.panic v) (env.junk (dstsOf l)) σ')) : RunC P rd (.region id ops true) env σ Q := by
  refine drawn_gh (σ0 := σ) (fun _ => none) (Nat.le_refl _) (fun _ _ => rfl) (fun j N z h => (by cases h)) (fun j j' N z z' h => (by cases h)) hP hn hl (fun j o ho => ?_) hok h
  have hj := (Array.getElem?_eq_some_iff.1 ho).1
  have hlj : l[j]? = some l[j] := List.getElem?_eq_getElem (by omega)
  have hco := hc j o ho
  rw [hlj] at hco
  simp only [compOper, Option.bind_eq_some_iff, Option.map_eq_some_iff] at hco
  obtain ⟨ao, hop, g, hg, hge⟩ := hco
  exact ⟨ao, g, _, hop, hg, hlj, by rw [← hge], by rw [← hge], by rw [← hge], .inl ⟨rfl, by rw [← hge]⟩⟩
theorem drawn_ghost {P : Program} {rd : Option Nat} {ops : Array Oper} {n : Nat} {q st : List Nat} {l : List AOper} {env : AEnv} {σ : AHeap} {Q : AExit → AEnv → AHeap → Prop} {id : Nat}
    (hP : P.follows .mixedOrders = true) (hn : env.n = n) (hl : l.length = ops.size) (hc : ∀ (j : Nat) o, ops[j]? = some o → compOper P n ops o = l[j]?) (hok : drOk q st (ghS l) = true)
    (h : wpDr P q st (poss q (ghS l) (ancs (ghS l) [])) 0 (ghL σ.next l) env (ghH σ l) [(0, ghH σ l)] [] (fun env' σ' => Q .normal env' σ') (fun i v σ' => panOk q (ghS l) i = true ∧ Q (.panic v) (env.junk (dstsOf l)) σ')) : RunC P rd (.region id ops true) env σ Q := by
  simp only [ghS_eq σ.next, cls_drOk, cls_panOk, cls_poss] at hok h
  rw [← ghL_dsts l σ.next] at h
  obtain ⟨g1, g2⟩ := ghH_old l σ
  refine drawn_gh (σ0 := σ) (ghN σ.next l) g1 g2 (fun j N z h => ?_) (fun j j' N z z' h h' => ghN_inj _ _ _ _ _ _ _ h h') hP hn (by rw [ghL_length]; exact hl) (fun j o ho => ?_) hok h
  · obtain ⟨o, _, h2, h3⟩ := ghN_op _ _ _ _ _ h
    obtain ⟨h4, h5⟩ := ghH_new _ _ _ _ _ h
    exact ⟨h3, h4, h5, (isGh_eq h2).2⟩
  have hj := (Array.getElem?_eq_some_iff.1 ho).1
  have hlj : l[j]? = some l[j] := List.getElem?_eq_getElem (by omega)
  have hco := hc j o ho
  rw [hlj] at hco
  have hget := ghL_get l σ.next j
  rw [hlj] at hget
  have hop' := ghN_op l σ.next j
  rw [hlj] at hop'
  generalize l[j] = lj at hco hget hop'
  simp only [compOper, Option.bind_eq_some_iff, Option.map_eq_some_iff] at hco
  obtain ⟨ao, hop, g, hg, hge⟩ := hco
  cases hN : ghN σ.next l j with
  | none =>
    rw [hN] at hget
    exact ⟨ao, g, _, hop, hg, hget, by rw [← hge], by rw [← hge], by rw [← hge], .inl ⟨rfl, by rw [← hge]⟩⟩
  | some p =>
    obtain ⟨N, z⟩ := p
    rw [hN] at hget
    obtain ⟨o', ho', hz, _⟩ := hop' N z hN
    cases ho'
    have := (isGh_eq hz).1
    exact ⟨ao, g, _, hop, hg, hget, by rw [← hge], by rw [← hge], by rw [← hge], .inr ⟨N, z, rfl, by rw [← this, ← hge], rfl⟩⟩
end Go.Tc
namespace Go.Tc
set_option linter.unusedSimpArgs false
inductive ACode where
  | skip
  | ops (l : List AOper)
  | dr (l : List AOper)
  | seq (a b : ACode)
  | cond (c : Opnd) (a b : ACode)
  | block (id : Nat) (a : ACode)
  | loop (a : ACode)
  | exit (id : Nat)
  | ret
  | rangeF (f : Opnd) (ps : List Nat) (a b : ACode)
  deriving Inhabited
def rangeA (L : Nat) (env : AEnv) (Q : AExit → AEnv → AHeap → Prop) : AOut → AHeap → Prop
  | .ret _, σ3 => ∃ lo, σ3.objs L = some (.loop lo) ∧ lo.state ≠ .busy ∧ pendA lo.pending (fun e => Q e env (σ3.kill L))
  | .panic v, σ3 => Q (.panic v) env σ3
def wpA (P : Program) : ACode → Option Nat → AEnv → AHeap → (AExit → AEnv → AHeap → Prop) → Prop
  | .skip, _, env, σ, Q => Q .normal env σ
  | .ops l, rd, env, σ, Q => wpOps P rd l env σ Q
  | .dr l, _, env, σ, Q => (∃ q st, drOk q st l = true ∧ wpDr P q st (poss q l (ancs l [])) 0 l env σ [(0, σ)] [] (fun env' σ' => Q .normal env' σ') (fun i v σ' => panOk q l i = true ∧ Q (.panic v) (env.junk (dstsOf l)) σ')) ∨
    (∃ q st, drOk q st (ghS l) = true ∧ wpDr P q st (poss q (ghS l) (ancs (ghS l) [])) 0 (ghL σ.next l) env (ghH σ l) [(0, ghH σ l)] [] (fun env' σ' => Q .normal env' σ') (fun i v σ' => panOk q (ghS l) i = true ∧ Q (.panic v) (env.junk (dstsOf l)) σ'))
  | .seq a b, rd, env, σ, Q => wpA P a rd env σ (thenA (fun env' σ' => wpA P b rd env' σ' Q) Q)
  | .cond c a b, rd, env, σ, Q => (match env.ev c with
    | .bool true => wpA P a rd env σ Q
    | .bool false => wpA P b rd env σ Q
    | _ => False)
  | .block id a, rd, env, σ, Q => wpA P a rd env σ (blockA id Q)
  | .loop a, rd, env, σ, Q => ∃ (I : AEnv → AHeap → Prop) (μ : AEnv → AHeap → Nat), I env σ ∧
      ∀ env' σ', env'.n = env.n → I env' σ' → wpA P a rd env' σ' (thenA (fun e2 s2 => I e2 s2 ∧ μ e2 s2 < μ env' σ') Q)
  | .exit id, _, env, σ, Q => Q (.exit id) env σ
  | .ret, _, env, σ, Q => Q .ret env σ
  | .rangeF f ps a b, rd, env, σ, Q => ∃ g first caps, env.ev f = .func (.func g) first caps ∧ enters P g = true ∧ (∀ L, rd = some L → ∃ lo, σ.objs L = some (.loop lo)) ∧
      ∀ assign body : Code, (∀ rd' env' σ' Q', env'.n = env.n → wpA P a rd' env' σ' Q' → RunC P rd' assign env' σ' Q') → (∀ rd' env' σ' Q', env'.n = env.n → wpA P b rd' env' σ' Q' → RunC P rd' body env' σ' Q') →
        RunV P (.func (.func g) first caps) [.yield σ.next] (σ.alloc (newLoop env ps.toArray assign body)) (rangeA σ.next env Q)
def bare (o : AOper) : AOper := { o with aft := [] }
theorem wpOps_bare {P : Program} {rd : Option Nat} {Q : AExit → AEnv → AHeap → Prop} : ∀ (l : List AOper) (env : AEnv) (σ : AHeap), wpOps P rd (l.map bare) env σ Q → wpOps P rd l env σ Q := by
  intro l
  induction l with
  | nil => intro env σ h; exact h
  | cons o os ih =>
    intro env σ h
    have mono : ∀ (K K' : AEnv → AHeap → Prop) (X : AVal → AHeap → Prop), (∀ e s, K e s → K' e s) → wpOne P rd (bare o) env σ K X → wpOne P rd o env σ K' X := by
      intro K K' X hk h
      have om : ∀ (ao : AOp), OpW P ao env σ (fun v σ' => K (env.put o.dst v) σ') X → OpW P ao env σ (fun v σ' => K' (env.put o.dst v) σ') X := by
        intro ao h
        have gen : (match opA ao env σ with | some (v, σ') => K (env.put o.dst v) σ' | none => False) → (match opA ao env σ with | some (v, σ') => K' (env.put o.dst v) σ' | none => False) := by
          intro h
          split at h
          · exact hk _ _ h
          · exact h.elim
        cases ao with
        | callF f xs => exact RunV.mono h fun out s hq => by cases out <;> first | exact hk _ _ hq | exact hq
        | callV f xs => exact RunV.mono h fun out s hq => by cases out <;> first | exact hk _ _ hq | exact hq
        | callI f m xs => exact RunI.mono h fun out s hq => by cases out <;> first | exact hk _ _ hq | exact hq
        | panic x => exact h
        | _ => exact gen h
      unfold wpOne at h ⊢
      have hop : (bare o).op = o.op := rfl
      have hdst : (bare o).dst = o.dst := rfl
      rw [hop, hdst] at h
      split at h
      · split at h
        · exact ⟨h.1, hk _ _ h.2⟩
        · exact h.elim
      · exact om _ h
    simp only [List.map_cons, wpOps] at h ⊢
    have hg : (bare o).guard = o.guard := rfl
    rw [hg] at h
    split at h
    · exact mono _ _ _ (fun e s => ih e s) h
    · exact ih _ _ h
    · exact h.elim
def noRange : ACode → Bool
  | .skip | .ops _ | .dr _ | .exit _ | .ret => true
  | .seq a b | .cond _ a b => noRange a && noRange b
  | .block _ a | .loop a => noRange a
  | .rangeF .. => false
theorem wpOps_imp {P : Program} {rd : Option Nat} {Q Q' : AExit → AEnv → AHeap → Prop} (h1 : ∀ env σ, Q .normal env σ → Q' .normal env σ) (h2 : ∀ v env σ, Q (.panic v) env σ → Q' (.panic v) env σ) : ∀ (l : List AOper) (env : AEnv) (σ : AHeap), wpOps P rd l env σ Q → wpOps P rd l env σ Q' := by
  intro l
  induction l with
  | nil => intro env σ h; exact h1 _ _ h
  | cons o os ih =>
    intro env σ h
    simp only [wpOps] at h ⊢
    split at h
    · unfold wpOne at h ⊢
      split at h
      · split at h
        · exact ⟨h.1, ih _ _ h.2⟩
        · exact h.elim
      · have om : ∀ (ao : AOp), OpW P ao env σ (fun v σ' => wpOps P rd os (env.put o.dst v) σ' Q) (fun v σ' => Q (.panic v) env σ') → OpW P ao env σ (fun v σ' => wpOps P rd os (env.put o.dst v) σ' Q') (fun v σ' => Q' (.panic v) env σ') := by
          intro ao h
          have gen : (match opA ao env σ with | some (v, σ') => wpOps P rd os (env.put o.dst v) σ' Q | none => False) → (match opA ao env σ with | some (v, σ') => wpOps P rd os (env.put o.dst v) σ' Q' | none => False) := by
            intro h
            split at h
            · exact ih _ _ h
            · exact h.elim
          cases ao with
          | callF f xs => exact RunV.mono h fun out s hq => by cases out <;> first | exact ih _ _ hq | exact h2 _ _ _ hq
          | callV f xs => exact RunV.mono h fun out s hq => by cases out <;> first | exact ih _ _ hq | exact h2 _ _ _ hq
          | callI f m xs => exact RunI.mono h fun out s hq => by cases out <;> first | exact ih _ _ hq | exact h2 _ _ _ hq
          | panic x =>
            simp only [OpW] at h ⊢
            split at h
            · exact h2 _ _ _ h
            · exact h.elim
          | _ => exact gen h
        exact om _ h
    · exact ih _ _ h
    · exact h.elim
theorem wpDr_imp {P : Program} {q st : List Nat} {ps : Nat → Nat → Bool} {K K' : AEnv → AHeap → Prop} {X X' : Nat → AVal → AHeap → Prop} (hK : ∀ env σ, K env σ → K' env σ) (hX : ∀ i v σ, X i v σ → X' i v σ) :
    ∀ (l : List AOper) (i : Nat) (env : AEnv) (σ : AHeap) (past : List (Nat × AHeap)) (pend : List (Nat × AOp × AEnv × AVal)), wpDr P q st ps i l env σ past pend K X → wpDr P q st ps i l env σ past pend K' X' := by
  intro l
  induction l with
  | nil => intro i env σ past pend h; exact hK _ _ h
  | cons o os ih =>
    intro i env σ past pend h
    simp only [wpDr] at h ⊢
    split at h
    · have om : ∀ (ao : AOp) (A B C D : AVal → AHeap → Prop), (∀ v s, A v s → B v s) → (∀ v s, C v s → D v s) → OpW P ao env σ A C → OpW P ao env σ B D := by
        intro ao A B C D hA hC h
        have gen : (match opA ao env σ with | some (v, σ') => A v σ' | none => False) → (match opA ao env σ with | some (v, σ') => B v σ' | none => False) := by
          intro h
          split at h
          · exact hA _ _ h
          · exact h.elim
        cases ao with
        | callF f xs => exact RunV.mono h fun out s hq => by cases out <;> first | exact hA _ _ hq | exact hC _ _ hq
        | callV f xs => exact RunV.mono h fun out s hq => by cases out <;> first | exact hA _ _ hq | exact hC _ _ hq
        | callI f m xs => exact RunI.mono h fun out s hq => by cases out <;> first | exact hA _ _ hq | exact hC _ _ hq
        | panic x =>
          simp only [OpW] at h ⊢
          split at h
          · exact hC _ _ h
          · exact h.elim
        | _ => exact gen h
      exact om _ _ _ _ _ (fun v s hk => ⟨hk.1, hk.2.1, hk.2.2.1, ih _ _ _ _ _ hk.2.2.2⟩) (fun v s hk => hX _ _ _ hk) h
    · exact ⟨h.1, ih _ _ _ _ _ h.2⟩
    · exact h.elim
theorem wpA_calm {P : Program} : ∀ (a : ACode), noRange a = true → ∀ (rd : Option Nat) (env : AEnv) (σ : AHeap) (Q Q' : AExit → AEnv → AHeap → Prop),
    (∀ e env σ, (∀ l, e ≠ .goto l) → Q e env σ → Q' e env σ) → wpA P a rd env σ Q → wpA P a rd env σ Q' := by
  intro a
  induction a with
  | skip => intro _ rd env σ Q Q' hQ h; exact hQ _ _ _ (by simp) h
  | ops l => intro _ rd env σ Q Q' hQ h; exact wpOps_imp (fun _ _ => hQ _ _ _ (by simp)) (fun _ _ _ => hQ _ _ _ (by simp)) _ _ _ h
  | dr l =>
    intro _ rd env σ Q Q' hQ h
    rcases h with ⟨q, st, h1, h2⟩ | ⟨q, st, h1, h2⟩
    · exact .inl ⟨q, st, h1, wpDr_imp (fun e s => hQ _ _ _ (by simp)) (fun i v s h => ⟨h.1, hQ _ _ _ (by simp) h.2⟩) _ _ _ _ _ _ h2⟩
    · exact .inr ⟨q, st, h1, wpDr_imp (fun e s => hQ _ _ _ (by simp)) (fun i v s h => ⟨h.1, hQ _ _ _ (by simp) h.2⟩) _ _ _ _ _ _ h2⟩
  | seq a b iha ihb =>
    intro hn rd env σ Q Q' hQ h
    simp only [noRange, Bool.and_eq_true] at hn
    refine iha hn.1 rd env σ _ _ (fun e env' σ' he hq => ?_) h
    cases e with
    | normal => exact ihb hn.2 rd env' σ' _ _ hQ hq
    | goto l => exact absurd rfl (he l)
    | exit id => exact hQ _ _ _ he hq
    | ret => exact hQ _ _ _ he hq
    | panic v => exact hQ _ _ _ he hq
  | cond c a b iha ihb =>
    intro hn rd env σ Q Q' hQ h
    simp only [noRange, Bool.and_eq_true] at hn
    simp only [wpA] at h ⊢
    split at h
    · exact iha hn.1 rd env σ _ _ hQ h
    · exact ihb hn.2 rd env σ _ _ hQ h
    · exact h.elim
  | block id a ih =>
    intro hn rd env σ Q Q' hQ h
    refine ih hn rd env σ _ _ (fun e env' σ' he hq => ?_) h
    cases e with
    | exit id' =>
      simp only [blockA] at hq ⊢
      split
      · rw [if_pos ‹_›] at hq; exact hQ _ _ _ (by simp) hq
      · rw [if_neg ‹_›] at hq; exact hQ _ _ _ he hq
    | normal => exact hQ _ _ _ he hq
    | goto l => exact absurd rfl (he l)
    | ret => exact hQ _ _ _ he hq
    | panic v => exact hQ _ _ _ he hq
  | loop a ih =>
    intro hn rd env σ Q Q' hQ h
    obtain ⟨I, μ, h0, hs⟩ := h
    refine ⟨I, μ, h0, fun env' σ' hn' hI => ih hn rd env' σ' _ _ (fun e env2 σ2 he hq => ?_) (hs env' σ' hn' hI)⟩
    cases e with
    | normal => exact hq
    | goto l => exact absurd rfl (he l)
    | exit id => exact hQ _ _ _ he hq
    | ret => exact hQ _ _ _ he hq
    | panic v => exact hQ _ _ _ he hq
  | exit id => intro _ rd env σ Q Q' hQ h; exact hQ _ _ _ (by simp) h
  | ret => intro _ rd env σ Q Q' hQ h; exact hQ _ _ _ (by simp) h
  | rangeF f ps a b _ _ => intro hn; cases hn
def compCode (P : Program) (n : Nat) : Code → Option ACode
  | .skip => some .skip
  | .region _ ops draw => (compOpers P n ops ops.toList).map fun l => if draw then .dr l else .ops (l.map bare)
  | .seq a b => (compCode P n a).bind fun a => (compCode P n b).map fun b => .seq a b
  | .cond c a b => (cOpnd n c).bind fun c => (compCode P n a).bind fun a => (compCode P n b).map fun b => .cond c a b
  | .block id a => (compCode P n a).map (.block id)
  | .loop a => (compCode P n a).map .loop
  | .exit id => some (.exit id)
  | .ret => some .ret
  | .scope c => (compCode P n c).bind fun a => if noRange a then some a else none
  | .label _ => some .skip
  | .rangeFunc f ps a b => (cOpnd n f).bind fun f => (compCode P n a).bind fun a => (compCode P n b).map fun b => .rangeF f ps.toList a b
  | _ => none
theorem compOpers_get {P : Program} {n : Nat} {ops : Array Oper} : ∀ (xs : List Oper) (l : List AOper), compOpers P n ops xs = some l →
    l.length = xs.length ∧ ∀ (j : Nat) o, xs[j]? = some o → compOper P n ops o = l[j]? := by
  intro xs
  induction xs with
  | nil => intro l h; simp [compOpers] at h; subst h; exact ⟨rfl, by simp⟩
  | cons x xs ih =>
    intro l h
    simp only [compOpers, Option.bind_eq_some_iff, Option.map_eq_some_iff] at h
    obtain ⟨y, hy, l', hl', rfl⟩ := h
    have := ih l' hl'
    refine ⟨by simp [this.1], fun j o ho => ?_⟩
    cases j with
    | zero => simp at ho; subst ho; simpa using hy
    | succ j => simp at ho; simpa using this.2 j o ho
theorem wpA_sound {P : Program} (hP : P.follows .mixedOrders = true) {n : Nat} : ∀ (c : Code) (ac : ACode), compCode P n c = some ac → ∀ (rd : Option Nat) (env : AEnv) (σ : AHeap) (Q : AExit → AEnv → AHeap → Prop),
    env.n = n → wpA P ac rd env σ Q → RunC P rd c env σ Q := by
  intro c
  induction c with
  | skip => intro ac hc rd env σ Q hn h; simp only [compCode] at hc; cases hc; exact .skip h
  | region id ops draw =>
    intro ac hc rd env σ Q hn h
    simp only [compCode, Option.map_eq_some_iff] at hc
    obtain ⟨l, hl, rfl⟩ := hc
    obtain ⟨h1, h2⟩ := compOpers_get _ _ hl
    have h2' : ∀ (j : Nat) o, ops[j]? = some o → compOper P n ops o = l[j]? := fun j o ho => h2 j o (by simpa using ho)
    cases draw with
    | true =>
      rcases h with ⟨q, st, hq, hw⟩ | ⟨q, st, hq, hw⟩
      · exact drawn_rule hP hn (by simpa using h1) h2' hq hw
      · exact drawn_ghost hP hn (by simpa using h1) h2' hq hw
    | false =>
      refine .region (ops_sound (List.range ops.size) l env σ hn (by simp [h1]) (fun k i o hk ho => ?_) (by simp) (wpOps_bare l env σ h))
      rw [List.getElem?_range] at hk
      · cases hk; exact h2' k o ho
      · have := (List.getElem?_eq_some_iff.1 hk).1; simpa using this
  | seq x y ihx ihy =>
    intro ac hc rd env σ Q hn h
    simp only [compCode, Option.bind_eq_some_iff, Option.map_eq_some_iff] at hc
    obtain ⟨a, ha, b, hb, rfl⟩ := hc
    refine .seq ((ihx a ha rd env σ _ hn h).mono fun e env' σ' hn' hq => ?_)
    cases e with
    | normal => exact ihy b hb rd env' σ' Q (hn'.trans hn) hq
    | exit id => exact hq
    | goto l => exact hq
    | ret => exact hq
    | panic v => exact hq
  | cond c x y ihx ihy =>
    intro ac hc rd env σ Q hn h
    simp only [compCode, Option.bind_eq_some_iff, Option.map_eq_some_iff] at hc
    obtain ⟨c', hc', a, ha, b, hb, rfl⟩ := hc
    simp only [wpA] at h
    split at h
    · exact .cond (t := true) (by rw [hn]; exact hc') ‹_› (ihx a ha rd env σ Q hn h)
    · exact .cond (t := false) (by rw [hn]; exact hc') ‹_› (ihy b hb rd env σ Q hn h)
    · exact h.elim
  | block id x ih =>
    intro ac hc rd env σ Q hn h
    simp only [compCode, Option.map_eq_some_iff] at hc
    obtain ⟨a, ha, rfl⟩ := hc
    exact .block (ih a ha rd env σ _ hn h)
  | loop x ih =>
    intro ac hc rd env σ Q hn h
    simp only [compCode, Option.map_eq_some_iff] at hc
    obtain ⟨a, ha, rfl⟩ := hc
    obtain ⟨I, μ, h0, hs⟩ := h
    exact .loop I μ h0 fun env' σ' hn' hI => ih a ha rd env' σ' _ (hn'.trans hn) (hs env' σ' hn' hI)
  | rangeFunc f ps x y ihx ihy =>
    intro ac hc rd env σ Q hn h
    simp only [compCode, Option.bind_eq_some_iff, Option.map_eq_some_iff] at hc
    obtain ⟨f', hf', a, ha, b, hb, rfl⟩ := hc
    obtain ⟨g, first, caps, hev, hent, hrd, hrun⟩ := h
    refine .rangeFunc (by rw [hn]; exact hf') hev hrd hent ?_
    have := hrun x y (fun rd' env' σ' Q' hn' hw => ihx a ha rd' env' σ' Q' (hn'.trans hn) hw) (fun rd' env' σ' Q' hn' hw => ihy b hb rd' env' σ' Q' (hn'.trans hn) hw)
    refine RunV.mono (by simpa using this) fun o s hq => ?_
    cases o <;> exact hq
  | exit id => intro ac hc rd env σ Q hn h; simp only [compCode] at hc; cases hc; exact .exit h
  | ret => intro ac hc rd env σ Q hn h; simp only [compCode] at hc; cases hc; exact .ret h
  | scope x ih =>
    intro ac hc rd env σ Q hn h
    simp only [compCode, Option.bind_eq_some_iff] at hc
    obtain ⟨a, ha, hc⟩ := hc
    split at hc
    · rename_i hr
      cases hc
      exact .scope (ih _ ha rd env σ _ hn (wpA_calm _ hr rd env σ _ _ (fun e _ _ he hq => ⟨he, hq⟩) h))
    · cases hc
  | label _ => intro ac hc rd env σ Q hn h; simp only [compCode] at hc; cases hc; exact .label h
  | goto _ => intro ac hc; simp [compCode] at hc
  | refuse _ => intro ac hc; simp [compCode] at hc
end Go.Tc
namespace Go.Tc
set_option linter.unusedSimpArgs false
inductive ARes where
  | t (n : Nat)
  | cell (a : Nat) (agg : Bool) (n : Nat)
  deriving Inhabited
def compRes (P : Program) (n : Nat) : List ResultVar → Option (List ARes)
  | [] => some []
  | .tmp t :: rs => if t < n then (compRes P n rs).map (.t t :: ·) else none
  | .cell a t :: rs => if a < n then (tyOf P t).bind fun ty => (compRes P n rs).map (.cell a ty.agg ty.n :: ·) else none
def resAs (env : AEnv) (σ : AHeap) : List ARes → Option (List AVal)
  | [] => some []
  | .t n :: rs => (resAs env σ rs).map (env.t n :: ·)
  | .cell a agg n :: rs => match loadA σ agg n (env.t a) with
    | some v => (resAs env σ rs).map (v :: ·)
    | none => none
def tupA : List AVal → AVal
  | [v] => v
  | vs => .tup vs
section
variable {P : Program} {ι : Nm} {ro : Ros} {σ : AHeap} {w : World}
theorem asAddr_of {b o : Nat} : (asAddr (.pointer (some ⟨b, o, none⟩))).run P w = .ok ⟨b, o, none⟩ w := by simp [asAddr]
theorem resList_rel (R : Rel ι ro σ w) {env : AEnv} {tmps : Array Value} (hs : tmps.size = env.n) (ht : ∀ (i : Nat) u, tmps[i]? = some u → VRel ι ro w (env.t i) u) :
    ∀ (xs : List ResultVar) (rs : List ARes) (vs : List AVal), compRes P env.n xs = some rs → resAs env σ rs = some vs →
      ∃ us : List Value, (xs.mapM (fun x : ResultVar => match x with
        | .tmp t => pure (tmps.getD t undef)
        | .cell a t => do loadVar t (← asAddr (tmps.getD a undef)))).run P w = .ok us w ∧ us.length = vs.length ∧ ∀ (i : Nat) v u, vs[i]? = some v → us[i]? = some u → VRel ι ro w v u := by
  intro xs
  induction xs with
  | nil => intro rs vs hc hr; simp only [compRes] at hc; cases hc; simp only [resAs] at hr; cases hr; exact ⟨[], by simp, rfl, by simp⟩
  | cons x xs ih =>
    intro rs vs hc hr
    have tm : ∀ t, t < env.n → VRel ι ro w (env.t t) (tmps.getD t undef) := by
      intro t hlt
      have h1 : t < tmps.size := by omega
      have := ht t _ (Array.getElem?_eq_getElem h1)
      simpa [Array.getD, h1] using this
    have fin : ∀ (u : Value) (v : AVal) (us : List Value) (vs : List AVal), VRel ι ro w v u → (us.length = vs.length ∧ ∀ (i : Nat) v u, vs[i]? = some v → us[i]? = some u → VRel ι ro w v u) →
        (u :: us).length = (v :: vs).length ∧ ∀ (i : Nat) v' u', (v :: vs)[i]? = some v' → (u :: us)[i]? = some u' → VRel ι ro w v' u' := by
      intro u v us vs h1 h2
      refine ⟨by simp [h2.1], fun i v' u' hv hu => ?_⟩
      cases i with
      | zero => simp at hv hu; subst hv; subst hu; exact h1
      | succ i => simp at hv hu; exact h2.2 i v' u' hv hu
    cases x with
    | tmp t =>
      simp only [compRes] at hc
      split at hc
      · rename_i hlt
        simp only [Option.map_eq_some_iff] at hc
        obtain ⟨rs', hrs, rfl⟩ := hc
        simp only [resAs, Option.map_eq_some_iff] at hr
        obtain ⟨vs', hvs, rfl⟩ := hr
        obtain ⟨us, hu, h1⟩ := ih rs' vs' hrs hvs
        refine ⟨tmps.getD t undef :: us, ?_, fin _ _ _ _ (tm t hlt) h1⟩
        simp only [List.mapM_cons, Sem.run_bind, Sem.run_pure, Result.andThen_ok, hu]
      · cases hc
    | cell a t =>
      simp only [compRes] at hc
      split at hc
      · rename_i hlt
        simp only [Option.bind_eq_some_iff, Option.map_eq_some_iff] at hc
        obtain ⟨ty, hty, rs', hrs, rfl⟩ := hc
        simp only [resAs] at hr
        split at hr
        · rename_i v hl
          simp only [Option.map_eq_some_iff] at hr
          obtain ⟨vs', hvs, rfl⟩ := hr
          obtain ⟨us, hu, h1⟩ := ih rs' vs' hrs hvs
          unfold loadA at hl
          split at hl
          · rename_i row k hrow
            obtain ⟨b, base, hp, hcc⟩ := rowAt_rel R (tm a hlt) hrow
            obtain ⟨x, hx, hv⟩ := run_loadVar_rel (P := P) hty hcc hl
            refine ⟨x :: us, ?_, fin _ _ _ _ hv h1⟩
            simp only [List.mapM_cons, Sem.run_bind, hp, asAddr_of, Result.andThen_ok, hx, hu, Sem.run_pure]
          · cases hl
        · cases hr
      · cases hc
theorem results_rel (R : Rel ι ro σ w) {env : AEnv} {tmps : Array Value} (hs : tmps.size = env.n) (ht : ∀ (i : Nat) u, tmps[i]? = some u → VRel ι ro w (env.t i) u) {fn : Func} {rs : List ARes} {vs : List AVal}
    (hc : compRes P env.n fn.results.toList = some rs) (hr : resAs env σ rs = some vs) : ∃ u, (results fn tmps).run P w = .ok u w ∧ VRel ι ro w (tupA vs) u := by
  obtain ⟨us, hu, hl, hv⟩ := resList_rel R hs ht _ _ _ hc hr
  unfold results
  rw [Array.mapM_eq_mapM_toList]
  refine ⟨if h : us.toArray.size = 1 then us.toArray[0] else .tuple us.toArray, ?_, ?_⟩
  · simp only [Sem.run_bind, Sem.run_map, Sem.run_pure]
    exact (congrArg (fun z : Result (List Value) => (z.andThen fun a w' => Result.ok a.toArray w').andThen fun a w' => Result.ok (if h : a.size = 1 then a[0] else Value.tuple a) w') hu)
  · cases vs with
    | nil =>
      have : us = [] := by cases us with | nil => rfl | cons => simp at hl
      subst this
      exact .tup (by simp) (by simp)
    | cons v vs =>
      cases us with
      | nil => simp at hl
      | cons u us =>
        cases vs with
        | nil =>
          have : us = [] := by cases us with | nil => rfl | cons => simp at hl
          subst this
          exact hv 0 v u rfl rfl
        | cons v2 vs =>
          cases us with
          | nil => simp at hl
          | cons u2 us =>
            rw [dif_neg (by simp)]
            exact .tup (by simpa using hl) (fun i v u h1 h2 => hv i v u h1 (by simpa using h2))
theorem putObj_junk {ι0 : Nm} {ro0 : Ros} {σ0 : AHeap} {w0 : World} (R : Rel ι ro σ w) (L : Later ι0 ro0 σ0 w0 ι ro σ w) {r : Nat} {o o' : Obj} (h : w.heap[r]? = some o) (ho : isCells o = false) (hb : w0.heap.size ≤ r) (hn : ¬ OwnO ι σ r) :
    Rel ι ro σ (w.putObj r o') ∧ Later ι0 ro0 σ0 w0 ι ro σ (w.putObj r o') := by
  have hv : ∀ v u, VRel ι ro w v u → VRel ι ro (w.putObj r o') v u := fun v u h' => h'.mono (fun _ _ h => h) (fun _ _ h => h) (fun b x v _ hc => cell_putObj h ho hc)
  refine ⟨⟨R.dom, ?_, R.apart, R.roSep, fun b x hr => by rw [World.putObj_size]; exact R.roIn b x hr⟩,
    ⟨⟨L.frame.os, L.frame.tape, L.frame.output, by rw [World.putObj_size]; exact L.frame.size, ?_, ?_⟩, L.ext, L.roLe, L.own, L.ownO, L.roNew, L.kept⟩⟩
  · intro N l x hN hs
    refine (R.obj N l x hN hs).mono (fun _ _ h => h) hv ?_ ?_
    · intro m b off ext _ c e f hbb
      have : b ≠ r := by rintro rfl; rw [h] at hbb; cases hbb; cases ho
      exact ⟨c, by rw [World.putObj_heap_other this]; exact hbb, rfl, fun _ _ _ => rfl⟩
    intro r' x hl hr hc
    have : r' ≠ r := by
      rintro rfl
      subst hl
      exact hn ⟨N, _, hN, hs⟩
    rw [World.putObj_heap_other this]; exact hr
  · intro b c e f hbb
    have hlt : b < w0.heap.size := (Array.getElem?_eq_some_iff.1 hbb).1
    obtain ⟨c', h1, h2, h3⟩ := L.frame.cells b c e f hbb
    exact ⟨c', by rw [World.putObj_heap_other (by omega)]; exact h1, h2, h3⟩
  · intro r' x hr hc hno
    have hlt : r' < w0.heap.size := (Array.getElem?_eq_some_iff.1 hr).1
    rw [World.putObj_heap_other (by omega)]
    exact L.frame.objs r' x hr hc hno
end
end Go.Tc
namespace Go.Tc
set_option linter.unusedSimpArgs false
def env0 (n : Nat) (vs : List AVal) : AEnv := { n, t := fun i => vs.getD i (.tup []), ds := [] }
def retA (rs : List ARes) (Q : AOut → AHeap → Prop) : AExit → AEnv → AHeap → Prop
  | .normal, env, σ | .ret, env, σ => env.ds = [] ∧ (match resAs env σ rs with | some vs => Q (.ret (tupA vs)) σ | none => False)
  | .panic v, env, σ => env.ds = [] ∧ Q (.panic v) σ
  | _, _, _ => False
def compFunc (P : Program) (f : FuncId) : Option (Nat × ACode × List ARes) :=
  match P.funcs[f]? with
  | some fn => match fn.body with
    | some c => if fn.name == "runtime.NumGoroutine" then none else
      (compCode P fn.ntmps c).bind fun ac => (compRes P fn.ntmps fn.results.toList).map fun rs => (fn.ntmps, ac, rs)
    | none => none
  | none => none
section
variable {P : Program}
theorem compFunc_spec {f : FuncId} {n : Nat} {ac : ACode} {rs : List ARes} (h : compFunc P f = some (n, ac, rs)) :
    ∃ fn c, P.funcs[f]? = some fn ∧ fn.body = some c ∧ enters P f = true ∧ fn.ntmps = n ∧ compCode P n c = some ac ∧ compRes P n fn.results.toList = some rs := by
  unfold compFunc at h
  split at h
  · rename_i fn hf
    split at h
    · rename_i c hb
      split at h
      · cases h
      · rename_i hnm
        simp only [Option.bind_eq_some_iff, Option.map_eq_some_iff] at h
        obtain ⟨ac', hac, rs', hrs, he⟩ := h
        cases he
        refine ⟨fn, c, hf, hb, ?_, rfl, hac, hrs⟩
        unfold enters
        rw [hf]
        simp only [hb, Option.isSome_some, Bool.true_and, Bool.not_eq_true']
        simpa using hnm
    · cases h
  · cases h
theorem leavesM {F : Fence} {n : Nat} {fn : Func} {tmps : Array Value} {Rc : Ending → World → Prop} {ι ι' : Nm} {ro ro' : Ros} {σ σ' : AHeap} {w : World} {u : FrameMode} (hu : u ≠ .run)
    {w0 : World} (hfin : ∀ w'', Rel ι' ro' σ' w'' → Later ι ro σ w ι' ro' σ' w'' → (∀ v x, VRel ι' ro' w0 v x → VRel ι' ro' w'' v x) → LeavesIn F n P fn tmps Rc [] u w'') :
    ∀ (ds : List Deferred) (w' : World), ds.filter noMark = [] → (marksOf ds).Nodup → (∀ r ∈ marksOf ds, w.heap.size ≤ r ∧ w'.heap[r]? = some (Obj.deferred (some [])) ∧ ¬ OwnO ι' σ' r) →
      Rel ι' ro' σ' w' → Later ι ro σ w ι' ro' σ' w' → (∀ v x, VRel ι' ro' w0 v x → VRel ι' ro' w' v x) → LeavesInM F n P fn tmps Rc ds u w' := by
  intro ds
  induction ds with
  | nil => intro w' _ _ _ R L hv; exact hfin w' R L hv
  | cons d ds ih =>
    intro w' hf hnd hm R L hv
    obtain ⟨t, args⟩ := d
    cases t with
    | collected r =>
      have hm0 : marksOf ({ target := .collected r, args } :: ds) = r :: marksOf ds := rfl
      rw [hm0] at hnd hm
      rw [List.nodup_cons] at hnd
      obtain ⟨h1, h2, h3⟩ := hm r (by simp)
      obtain ⟨R2, L2⟩ := putObj_junk (o' := .deferred none) R L h2 rfl h1 h3
      refine ⟨hu, .inl ⟨r, _, rfl, run_takeDeferred h2, ih _ (by simpa [noMark] using hf) hnd.2 (fun r' hr' => ?_) R2 L2 (fun v x hx => (hv v x hx).mono (fun _ _ h => h) (fun _ _ h => h) (fun b y z _ hc => cell_putObj h2 rfl hc))⟩⟩
      obtain ⟨k1, k2, k3⟩ := hm r' (by simp [hr'])
      refine ⟨k1, ?_, k3⟩
      rw [World.putObj_heap_other (by rintro rfl; exact hnd.1 hr')]
      exact k2
    | fn _ _ => rw [List.filter_cons_of_pos rfl] at hf; cases hf
    | nil => rw [List.filter_cons_of_pos rfl] at hf; cases hf
    | builtin _ _ _ _ => rw [List.filter_cons_of_pos rfl] at hf; cases hf
    | coroexit _ => rw [List.filter_cons_of_pos rfl] at hf; cases hf
theorem RunV.func (hP : P.follows .mixedOrders = true) {f : FuncId} {n : Nat} {ac : ACode} {rs : List ARes} (hcf : compFunc P f = some (n, ac, rs)) {first args caps : List AVal} {σ : AHeap} {Q : AOut → AHeap → Prop}
    (hlen : (first ++ args ++ caps).length ≤ n) (h : wpA P ac none (env0 n (first ++ args ++ caps)) σ (retA rs Q)) : RunV P (.func (.func f) first caps) args σ Q := by
  obtain ⟨fn, c, hf, hb, hent, rfl, hcc, hcr⟩ := compFunc_spec hcf
  obtain ⟨e, env', σ', hq, hn', hrun⟩ := wpA_sound hP c ac hcc none _ σ _ rfl h
  have hn2 : env'.n = fn.ntmps := hn'
  obtain ⟨out, hQ, hds, hout⟩ : ∃ out, Q out σ' ∧ env'.ds = [] ∧ ((∃ vs, (e = .normal ∨ e = .ret) ∧ resAs env' σ' rs = some vs ∧ out = .ret (tupA vs)) ∨ ∃ v, e = .panic v ∧ out = .panic v) := by
    have rr : (env'.ds = [] ∧ (match resAs env' σ' rs with | some vs => Q (.ret (tupA vs)) σ' | none => False)) → (e = .normal ∨ e = .ret) →
        ∃ out, Q out σ' ∧ env'.ds = [] ∧ ((∃ vs, (e = .normal ∨ e = .ret) ∧ resAs env' σ' rs = some vs ∧ out = .ret (tupA vs)) ∨ ∃ v, e = .panic v ∧ out = .panic v) := by
      intro h he
      obtain ⟨hd, h⟩ := h
      split at h
      · rename_i vs hvs; exact ⟨_, h, hd, .inl ⟨vs, he, hvs, rfl⟩⟩
      · exact h.elim
    cases e with
    | normal => exact rr hq (.inl rfl)
    | ret => exact rr hq (.inr rfl)
    | panic v => exact ⟨.panic v, hq.2, hq.1, .inr ⟨v, rfl, rfl⟩⟩
    | exit id => exact hq.elim
    | goto l => exact hq.elim
  refine ⟨out, σ', hQ, fun ι ro w fu us R hfu hus => ?_⟩
  cases hfu with
  | @func _ _ _ first' caps' hnn h1 h2 h3 h4 =>
  simp only [Deferred.ofValue, pure_bind, invoke, enters_run hent, Upon]
  refine callsIn_of_wp_marks hf hb trivial ?_
  have hsz : (first' ++ us ++ caps').size = (first ++ args ++ caps).length := by simp [h1, h2, hus.1]
  have hrel : ∀ (i : Nat) v u, (first ++ args ++ caps)[i]? = some v → (first' ++ us ++ caps')[i]? = some u → VRel ι ro w v u := by
    intro i v u hv hu
    by_cases hi1 : i < (first ++ args).length
    · rw [List.getElem?_append_left hi1] at hv
      rw [Array.getElem?_append_left (by simp [h1, hus.1] at hi1 ⊢; omega)] at hu
      by_cases hi2 : i < first.length
      · rw [List.getElem?_append_left hi2] at hv
        rw [Array.getElem?_append_left (by omega)] at hu
        exact h3 i v u hv hu
      · rw [List.getElem?_append_right (by omega)] at hv
        rw [Array.getElem?_append_right (by omega)] at hu
        rw [h1] at hu
        exact hus.2 _ v u hv hu
    · rw [List.getElem?_append_right (by omega)] at hv
      rw [Array.getElem?_append_right (by simp [h1, hus.1] at hi1 ⊢; omega)] at hu
      have : (first' ++ us).size = (first ++ args).length := by simp [h1, hus.1]
      rw [this] at hu
      exact h4 _ v u hv hu
  have E0 : EnvRel ι ro w (env0 fn.ntmps (first ++ args ++ caps)) { tmps := (first' ++ us ++ caps') ++ Array.replicate (fn.ntmps - (first' ++ us ++ caps').size) undef, defers := [] } := by
    refine ⟨by simp only [Array.size_append, Array.size_replicate, env0]; simp only [Array.size_append, List.length_append] at hsz hlen; omega, fun i u hu => ?_, rfl, by simp⟩
    show VRel ι ro w ((first ++ args ++ caps).getD i (.tup [])) u
    by_cases hi : i < (first ++ args ++ caps).length
    · have hv : (first ++ args ++ caps)[i]? = some (first ++ args ++ caps)[i] := List.getElem?_eq_getElem hi
      rw [Array.getElem?_append_left (by omega)] at hu
      have := hrel i _ u hv hu
      rwa [List.getD_eq_getElem?_getD, hv]
    · rw [Array.getElem?_append_right (by omega)] at hu
      rw [List.getD_eq_getElem?_getD, List.getElem?_eq_none (by omega)]
      have hlt := (Array.getElem?_eq_some_iff.1 hu).1
      rw [Array.getElem?_replicate] at hu
      split at hu
      · cases hu; exact tupNil _ _ _
      · cases hu
  refine hrun ι ro w _ none w.heap.size trivial R E0 ⟨by simp [marksOf], by simp [marksOf]⟩ (Nat.le_refl _) _ ?_
  intro ι' ro' e' a' w' L' R' E' M' X'
  have hfil : a'.defers.filter noMark = [] := by
    have := E'.ds.1
    rw [hds] at this
    exact List.eq_nil_of_length_eq_zero this
  have fin : ∀ vs, resAs env' σ' rs = some vs → out = .ret (tupA vs) → ∀ w'', Rel ι' ro' σ' w'' → Later ι ro σ w ι' ro' σ' w'' → (∀ v u, VRel ι' ro' w' v u → VRel ι' ro' w'' v u) → LeavesIn Fence.wide 0 P fn a'.tmps (Met ι ro σ w out σ') [] .returning w'' := by
    intro vs hvs ho w'' R'' L'' hvv
    obtain ⟨u, hu, hv⟩ := results_rel (P := P) R'' (env := env') (tmps := a'.tmps) (fn := fn) (rs := rs) E'.size (fun i u hu => hvv _ _ (E'.t i u hu)) (by rw [hn2]; exact hcr) hvs
    exact ⟨u, hu, ι', ro', L'', R'', by rw [ho]; exact .ret hv⟩
  rcases hout with ⟨vs, he, hvs, ho⟩ | ⟨v, he, ho⟩
  · have := leavesM (u := .returning) (w0 := w') (by simp) (fin vs hvs ho) a'.defers w' hfil M'.nodup M'.each R' L' (fun _ _ h => h)
    rcases he with rfl | rfl <;> cases X' <;> exact this
  · subst he
    cases X' with
    | @panic _ u hv =>
    refine leavesM (u := .panicking [{ v := u, recovered := false }]) (w0 := w') (by simp) (fun w'' R'' L'' hvv => ?_) a'.defers w' hfil M'.nodup M'.each R' L' (fun _ _ h => h)
    exact ⟨ι', ro', L'', R'', by rw [ho]; exact .panic (hvv _ _ hv)⟩
end
end Go.Tc
namespace Go.Tc
set_option linter.unusedSimpArgs false
inductive Frz (σ : AHeap) (n : Nat) : AVal → AVal → Prop
  | bool (b : Bool) : Frz σ n (.bool b) (.bool b)
  | int (k : IntKind) (x : Int) : Frz σ n (.int k x) (.int k x)
  | str (s : ByteArray) : Frz σ n (.str s) (.str s)
  | nilP : Frz σ n .nilP .nilP
  | nilS : Frz σ n .nilS .nilS
  | nilM : Frz σ n .nilM .nilM
  | nilF : Frz σ n .nilF .nilF
  | nilI : Frz σ n .nilI .nilI
  | junk (v : AVal) : Frz σ n v .junk
  | ptr {N m i k : Nat} {rows rows' : List (List AVal)} (hN : n ≤ N) (ho : σ.objs N = some (.cells m rows)) (hm : ∀ j : Nat, (rows'[j]?).map List.length = (rows[j]?).map List.length)
      (hv : ∀ j q v v', cellAt rows j q = some v → cellAt rows' j q = some v' → Frz σ n v v') (h1 : ∀ j q v', cellAt rows' j q = some v' → v'.one = true) : Frz σ n (.ptr N i k) (.rptr m rows' i k)
  | ms {N m i len : Nat} {ex : Bool} {rows rows' : List (List AVal)} (hN : n ≤ N) (ho : σ.objs N = some (.cells m rows)) (hm : ∀ j : Nat, (rows'[j]?).map List.length = (rows[j]?).map List.length)
      (hv : ∀ j q v v', cellAt rows j q = some v → cellAt rows' j q = some v' → Frz σ n v v') (h1 : ∀ j q v', cellAt rows' j q = some v' → v'.one = true) : Frz σ n (.ms m N i len ex) (.rs m rows' i len ex)
  | rptr {m i k : Nat} {rows rows' : List (List AVal)} (hm : ∀ j : Nat, (rows'[j]?).map List.length = (rows[j]?).map List.length)
      (hv : ∀ j q v v', cellAt rows j q = some v → cellAt rows' j q = some v' → Frz σ n v v') (h1 : ∀ j q v', cellAt rows' j q = some v' → v'.one = true) : Frz σ n (.rptr m rows i k) (.rptr m rows' i k)
  | rs {m i len : Nat} {ex : Bool} {rows rows' : List (List AVal)} (hm : ∀ j : Nat, (rows'[j]?).map List.length = (rows[j]?).map List.length) (hn : rows = [] → rows' = [])
      (hv : ∀ j q v v', cellAt rows j q = some v → cellAt rows' j q = some v' → Frz σ n v v') (h1 : ∀ j q v', cellAt rows' j q = some v' → v'.one = true) : Frz σ n (.rs m rows i len ex) (.rs m rows' i len ex)
  | func {fn : Fn} {first caps first' caps' : List AVal} (h1 : first'.length = first.length) (h2 : caps'.length = caps.length)
      (hf : ∀ (i : Nat) v v', first[i]? = some v → first'[i]? = some v' → Frz σ n v v') (hc : ∀ (i : Nat) v v', caps[i]? = some v → caps'[i]? = some v' → Frz σ n v v') : Frz σ n (.func fn first caps) (.func fn first' caps')
  | iface {t : TypeId} {v v' : AVal} (h : Frz σ n v v') : Frz σ n (.iface t v) (.iface t v')
  | agg {cs cs' : List AVal} (hl : cs'.length = cs.length) (h : ∀ (i : Nat) v v', cs[i]? = some v → cs'[i]? = some v' → Frz σ n v v') : Frz σ n (.agg cs) (.agg cs')
  | tup {cs cs' : List AVal} (hl : cs'.length = cs.length) (h : ∀ (i : Nat) v v', cs[i]? = some v → cs'[i]? = some v' → Frz σ n v v') : Frz σ n (.tup cs) (.tup cs')
def NewOwn (ι : Nm) (σ : AHeap) (n : Nat) (b o : Nat) : Prop :=
  ∃ N m off ext m' rows, n ≤ N ∧ ι N = some (.cells m b off ext) ∧ σ.objs N = some (.cells m' rows) ∧ off ≤ o ∧ o < off + ext
section
variable {P : Program}
theorem rowsOk_of {m : Nat} {rows rows' : List (List AVal)} (hm : ∀ j : Nat, (rows'[j]?).map List.length = (rows[j]?).map List.length) (h : ∀ row ∈ rows, RowOk m row)
    (h1 : ∀ j q v', cellAt rows' j q = some v' → v'.one = true) : ∀ row ∈ rows', RowOk m row := by
  intro row hr
  obtain ⟨j, hj⟩ := List.getElem?_of_mem hr
  have := hm j
  rw [hj] at this
  cases hrj : rows[j]? with
  | none => rw [hrj] at this; simp at this
  | some r =>
    rw [hrj] at this
    simp at this
    refine ⟨this.trans (h r (List.mem_of_getElem? hrj)).1, fun v hv => ?_⟩
    obtain ⟨q, hq⟩ := List.getElem?_of_mem hv
    exact h1 j q v (by simp [cellAt, hj, hq])
theorem cellAt_same {rows rows' : List (List AVal)} (hm : ∀ j : Nat, (rows'[j]?).map List.length = (rows[j]?).map List.length) {j q : Nat} {v' : AVal} (h : cellAt rows' j q = some v') : ∃ v, cellAt rows j q = some v := by
  unfold cellAt at h ⊢
  have := hm j
  cases hr' : rows'[j]? with
  | none => rw [hr'] at h; simp at h
  | some r' =>
    rw [hr'] at h this
    cases hr : rows[j]? with
    | none => rw [hr] at this; simp at this
    | some r =>
      rw [hr] at this
      simp at this h
      have hlt := (List.getElem?_eq_some_iff.1 h).1
      exact ⟨r[q]'(by omega), by simp [List.getElem?_eq_getElem (show q < r.length by omega)]⟩
theorem Frz.rel {ι ι0 : Nm} {ro ro' : Ros} {σ : AHeap} {w : World} {n : Nat} (R : Rel ι ro σ w) (hro : ∀ b o, ro b o → ro' b o) (hnew : ∀ b o, NewOwn ι σ n b o → ro' b o) {u v : AVal} (h : Frz σ n u v) :
    ∀ x, VRel ι ro w u x → VRel ι0 ro' w v x := by
  have blk : ∀ {N m m' b off ext : Nat} {rows rows' : List (List AVal)}, n ≤ N → ι N = some (.cells m b off ext) → σ.objs N = some (.cells m' rows) → (∀ j : Nat, (rows'[j]?).map List.length = (rows[j]?).map List.length) →
      (∀ j q v v', cellAt rows j q = some v → cellAt rows' j q = some v' → ∀ x, VRel ι ro w v x → VRel ι0 ro' w v' x) → (∀ j q v', cellAt rows' j q = some v' → v'.one = true) →
      m' = m ∧ (∀ row ∈ rows', RowOk m row) ∧ ∃ f : Nat → Nat → Value, ∀ j q v', cellAt rows' j q = some v' → (ro' b (off + j * m + q) ∧ w.cell? ⟨b, off + j * m + q, none⟩ = some (f j q)) ∧ VRel ι0 ro' w v' (f j q) := by
    intro N m m' b off ext rows rows' hN hi ho hm hv h1
    obtain ⟨he, hrow, hext, _, hcell⟩ := R.obj N _ _ hi ho
    subst he
    refine ⟨rfl, rowsOk_of hm hrow h1, fun j q => (w.cell? ⟨b, off + j * m' + q, none⟩).getD undef, fun j q v' hc' => ?_⟩
    obtain ⟨v0, hc⟩ := cellAt_same hm hc'
    obtain ⟨u0, hu0, hvu⟩ := hcell j q v0 hc
    have hlt := cellAt_lt hrow hc
    have := mul_lt hlt.1 hlt.2
    refine ⟨⟨hnew _ _ ⟨N, m', off, ext, m', rows, hN, hi, ho, by omega, by omega⟩, by dsimp only; rw [hu0]; rfl⟩, ?_⟩
    dsimp only
    rw [hu0]
    exact hv j q v0 v' hc hc' u0 hvu
  have rob : ∀ {m b off : Nat} {rows rows' : List (List AVal)} {f : Nat → Nat → Value}, (∀ row ∈ rows, RowOk m row) →
      (∀ j q v, cellAt rows j q = some v → ro b (off + j * m + q) ∧ w.cell? ⟨b, off + j * m + q, none⟩ = some (f j q)) → (∀ j q v, cellAt rows j q = some v → VRel ι ro w v (f j q)) →
      (∀ j : Nat, (rows'[j]?).map List.length = (rows[j]?).map List.length) → (∀ j q v v', cellAt rows j q = some v → cellAt rows' j q = some v' → ∀ x, VRel ι ro w v x → VRel ι0 ro' w v' x) →
      (∀ j q v', cellAt rows' j q = some v' → v'.one = true) →
      (∀ row ∈ rows', RowOk m row) ∧ (∀ j q v, cellAt rows' j q = some v → ro' b (off + j * m + q) ∧ w.cell? ⟨b, off + j * m + q, none⟩ = some (f j q)) ∧ (∀ j q v, cellAt rows' j q = some v → VRel ι0 ro' w v (f j q)) := by
    intro m b off rows rows' f hrow hc hvv hm hv h1
    refine ⟨rowsOk_of hm hrow h1, fun j q v' hc' => ?_, fun j q v' hc' => ?_⟩
    · obtain ⟨v0, h0⟩ := cellAt_same hm hc'
      exact ⟨hro _ _ (hc j q v0 h0).1, (hc j q v0 h0).2⟩
    · obtain ⟨v0, h0⟩ := cellAt_same hm hc'
      exact hv j q v0 v' h0 hc' _ (hvv j q v0 h0)
  induction h with
  | bool b => intro x h; cases h; exact .bool b
  | int k y => intro x h; cases h; exact .int k y
  | str s => intro x h; cases h; exact .str s
  | nilP => intro x h; cases h; exact .nilP
  | nilS => intro x h; cases h; exact .nilS
  | nilM => intro x h; cases h; exact .nilM
  | nilF => intro x h; cases h; exact .nilF
  | nilI => intro x h; cases h; exact .nilI
  | junk v => intro x _; exact .junk x
  | ptr hN ho hm _ h1 ih =>
    intro x h
    cases h with
    | ptr i k hi =>
      obtain ⟨rfl, h2, f, h3⟩ := blk hN hi ho hm ih h1
      exact .rptr _ _ _ _ f h2 (fun j q v hc => (h3 j q v hc).1) (fun j q v hc => (h3 j q v hc).2)
  | ms hN ho hm _ h1 ih =>
    intro x h
    cases h with
    | ms hi hl he ha =>
      obtain ⟨-, h2, f, h3⟩ := blk hN hi ho hm ih h1
      exact .rs _ _ f h2 (fun j q v hc => (h3 j q v hc).1) (fun j q v hc => (h3 j q v hc).2) hl he (ha.imp id (·.1))
  | rptr hm _ h1 ih =>
    intro x h
    cases h with
    | rptr b off i k f hrow hc hvv =>
      obtain ⟨g1, g2, g3⟩ := rob hrow hc hvv hm ih h1
      exact .rptr b off _ _ f g1 g2 g3
  | rs hm hnil _ h1 ih =>
    intro x h
    cases h with
    | rs b off f hrow hc hvv hl he ha =>
      obtain ⟨g1, g2, g3⟩ := rob hrow hc hvv hm ih h1
      exact .rs b off f g1 g2 g3 hl he ha
  | func h1 h2 _ _ ihf ihc =>
    intro x h
    cases h with
    | func hn g1 g2 hf hc =>
      refine .func hn (g1.trans h1.symm) (g2.trans h2.symm) (fun i v' u hv' hu => ?_) (fun i v' u hv' hu => ?_)
      · have hlt := (List.getElem?_eq_some_iff.1 hv').1
        rw [h1] at hlt
        exact ihf i _ v' (List.getElem?_eq_getElem hlt) hv' u (hf i _ u (List.getElem?_eq_getElem hlt) hu)
      · have hlt := (List.getElem?_eq_some_iff.1 hv').1
        rw [h2] at hlt
        exact ihc i _ v' (List.getElem?_eq_getElem hlt) hv' u (hc i _ u (List.getElem?_eq_getElem hlt) hu)
  | iface _ ih => intro x h; cases h with | iface h => exact .iface (ih _ h)
  | agg hl _ ih =>
    intro x h
    cases h with
    | agg g1 hf =>
      refine .agg (g1.trans hl.symm) (fun i v' u hv' hu => ?_)
      have hlt := (List.getElem?_eq_some_iff.1 hv').1
      rw [hl] at hlt
      exact ih i _ v' (List.getElem?_eq_getElem hlt) hv' u (hf i _ u (List.getElem?_eq_getElem hlt) hu)
  | tup hl _ ih =>
    intro x h
    cases h with
    | tup g1 hf =>
      refine .tup (g1.trans hl.symm) (fun i v' u hv' hu => ?_)
      have hlt := (List.getElem?_eq_some_iff.1 hv').1
      rw [hl] at hlt
      exact ih i _ v' (List.getElem?_eq_getElem hlt) hv' u (hf i _ u (List.getElem?_eq_getElem hlt) hu)
theorem mem_lookup {k : AKey} {v : AVal} : ∀ {ks : List (AKey × AVal)}, ks.lookup k = some v → ∃ j : Nat, ks[j]? = some (k, v)
  | [], h => by simp at h
  | (k', v') :: ks, h => by
    rw [List.lookup_cons] at h
    by_cases hk : (k == k') = true
    · simp [hk] at h; subst h
      have := beq_iff_eq.1 hk
      subst this
      exact ⟨0, rfl⟩
    · simp [hk] at h
      obtain ⟨j, hj⟩ := mem_lookup h
      exact ⟨j + 1, by simpa using hj⟩
theorem lookup_mem {e : AKey × AVal} : ∀ {ks : List (AKey × AVal)}, (ks.map (·.1)).Nodup → e ∈ ks → ks.lookup e.1 = some e.2
  | [], _, h => by simp at h
  | (k', v') :: ks, hn, h => by
    simp only [List.map_cons, List.nodup_cons] at hn
    rw [List.lookup_cons]
    rcases List.mem_cons.1 h with rfl | h
    · simp
    · have hne : e.1 ≠ k' := fun he => hn.1 (he ▸ List.mem_map.2 ⟨e, h, rfl⟩)
      have : (e.1 == k') = false := by simpa using hne
      simp only [this]
      exact lookup_mem hn.2 h
theorem ObjRel.restrict {ι ι' : Nm} {ro ro' ro2 : Ros} {w w' : World} (hι : ∀ N l, ι N = some l → ι' N = some l) (hro : ∀ b o, ro' b o → ro2 b o) {l : Loc} {o : AObj}
    (h : ObjRel ι ro w l o) (h' : ObjRel ι' ro' w' l o) : ObjRel ι ro2 w' l o := by
  have vr : ∀ {v u u'}, VRel ι ro w v u → VRel ι' ro' w' v u' → VRel ι ro2 w' v u' := fun h h' => (h.restrict hι _ h').mono (fun _ _ h => h) hro (fun _ _ _ _ h => h)
  cases l with
  | cells m b off ext =>
    cases o <;> simp only [ObjRel] at h h' ⊢
    obtain ⟨h1, h2, h3, h4, h5⟩ := h
    obtain ⟨g1, g2, g3, g4, g5⟩ := h'
    refine ⟨g1, g2, g3, g4, fun j q v hv => ?_⟩
    obtain ⟨u, _, hu⟩ := h5 j q v hv
    obtain ⟨u', hc', hu'⟩ := g5 j q v hv
    exact ⟨u', hc', vr hu hu'⟩
  | obj r =>
    cases o <;> simp only [ObjRel] at h h' ⊢
    · obtain ⟨es, clock, ks, hr, h1, h2, h3, h4, h5, h6, h7⟩ := h
      obtain ⟨es', clock', ks', hr', g1, g2, g3, g4, g5, g6, g7⟩ := h'
      refine ⟨es', clock', ks', hr', g1, g2, g3, g4, g5, g6, fun i e e' he he' => ⟨(g7 i e e' he he').1, ?_⟩⟩
      have hk' : ks'.lookup e.1 = some e.2 := lookup_mem g3 (List.mem_of_getElem? he)
      rw [← g4, h4] at hk'
      obtain ⟨j, hj⟩ := mem_lookup hk'
      have hj' : ks[j]? = some (e.1, e.2) := hj
      have hlt : j < es.size := by have := (List.getElem?_eq_some_iff.1 hj').1; omega
      exact vr (h7 j _ _ hj' (Array.getElem?_eq_getElem hlt)).2 (g7 i e e' he he').2
    · exact h'
    · obtain ⟨tmps, d, fn, hr, h1, h2⟩ := h
      obtain ⟨tmps', d', fn', hr', g1, g2⟩ := h'
      refine ⟨tmps', d', fn', hr', g1, fun t u hu => ?_⟩
      have hlt : t < tmps.size := by have := (Array.getElem?_eq_some_iff.1 hu).1; omega
      exact vr (h2 t _ (Array.getElem?_eq_getElem hlt)) (g2 t u hu)
    · exact h'
theorem CallV.pure {fv : AVal} {args : List AVal} {σ σ' : AHeap} {u v : AVal} (h : CallV P fv args σ (.ret u) σ') (hz : Frz σ' σ.next u v) (hk : ∀ N o, N < σ.next → σ.objs N = some o → σ'.objs N = some o) : CallV P fv args σ (.ret v) σ := by
  intro ι ro w fu us R hf hu
  refine Upon.mono (fun e w' hm => ?_) (h ι ro w fu us R hf hu)
  obtain ⟨ι', ro', L, R', hE⟩ := hm
  generalize hout : AOut.ret u = out at hE
  cases hE with
  | panic _ => cases hout
  | ret hv =>
  cases hout
  have own : ∀ b o, Own ι σ b o → Own ι' σ' b o := fun b o ⟨N, m, off, ext, m', rows, h1, h2, h3, h4⟩ => ⟨N, m, off, ext, m', rows, L.ext _ _ h1, hk _ _ (R.dom _ _ h1) h2, h3, h4⟩
  have newOwn : ∀ b o, NewOwn ι' σ' σ.next b o → Own ι' σ' b o := fun b o ⟨N, m, off, ext, m', rows, _, h1, h2, h3, h4⟩ => ⟨N, m, off, ext, m', rows, h1, h2, h3, h4⟩
  refine ⟨ι, fun b o => ro' b o ∨ NewOwn ι' σ' σ.next b o, ?_, ?_, .ret (hz.rel R' (fun _ _ h => .inl h) (fun _ _ h => .inr h) _ hv)⟩
  · refine ⟨L.frame, fun _ _ h => h, fun b o h => .inl (L.roLe b o h), fun _ _ _ h => h, fun _ _ h => h, fun b o hlt h => ?_, .refl _ _⟩
    rcases h with h | h
    · exact L.roNew b o hlt h
    · exact .inr (L.own b o hlt (newOwn b o h))
  · refine ⟨R.dom, fun N l o hN ho => (R.obj N l o hN ho).restrict L.ext (fun _ _ h => .inl h) (R'.obj N l o (L.ext _ _ hN) (hk _ _ (R.dom _ _ hN) ho)), ?_, ?_, ?_⟩
    · exact fun N N' l l' o o' hne h h' ho ho' => R'.apart N N' l l' o o' hne (L.ext _ _ h) (L.ext _ _ h') (hk _ _ (R.dom _ _ h) ho) (hk _ _ (R.dom _ _ h') ho')
    · rintro b o (h | ⟨N, m, off, ext, m', rows, hN, h1, h2, h3, h4⟩) hown
      · exact R'.roSep b o h (own b o hown)
      · obtain ⟨M, m2, off2, ext2, m2', rows2, k1, k2, k3, k4⟩ := hown
        have hne : N ≠ M := by have := R.dom M _ k1; omega
        have := R'.apart N M _ _ _ _ hne h1 (L.ext _ _ k1) h2 (hk _ _ (R.dom _ _ k1) k2)
        simp only [LocApart] at this
        omega
    · rintro b o (h | h)
      · exact R'.roIn b o h
      · obtain ⟨N, m, off, ext, m', rows, hN, h1, h2, h3, h4⟩ := h
        exact R'.lt_cells h1 h2
theorem RunV.pure {fv : AVal} {args : List AVal} {σ : AHeap} {Q : AOut → AHeap → Prop}
    (h : RunV P fv args σ (fun out σ' => ∃ u v, out = .ret u ∧ Frz σ' σ.next u v ∧ (∀ N o, N < σ.next → σ.objs N = some o → σ'.objs N = some o) ∧ Q (.ret v) σ)) : RunV P fv args σ Q := by
  obtain ⟨out, σ', ⟨u, v, rfl, hz, hk, hQ⟩, hc⟩ := h
  exact ⟨.ret v, σ, hQ, hc.pure hz hk⟩
end
end Go.Tc
namespace Go.Tc
set_option linter.unusedSimpArgs false
def RowsR (R : AVal → AVal → Prop) (rows rows' : List (List AVal)) : Prop :=
  (∀ j : Nat, (rows'[j]?).map List.length = (rows[j]?).map List.length) ∧ ∀ j q v v', cellAt rows j q = some v → cellAt rows' j q = some v' → R v v'
inductive Ren (r : Nat → Nat → Prop) : AVal → AVal → Prop
  | bool (b : Bool) : Ren r (.bool b) (.bool b)
  | int (k : IntKind) (x : Int) : Ren r (.int k x) (.int k x)
  | str (s : ByteArray) : Ren r (.str s) (.str s)
  | nilP : Ren r .nilP .nilP
  | nilS : Ren r .nilS .nilS
  | nilM : Ren r .nilM .nilM
  | nilF : Ren r .nilF .nilF
  | nilI : Ren r .nilI .nilI
  | junk : Ren r .junk .junk
  | ptr {N N' i k : Nat} (h : r N N') : Ren r (.ptr N i k) (.ptr N' i k)
  | ms {m N N' i len : Nat} {ex : Bool} (h : r N N') : Ren r (.ms m N i len ex) (.ms m N' i len ex)
  | mi {N N' i k es len : Nat} (h : r N N') : Ren r (.mi N i k es len) (.mi N' i k es len)
  | map {N N' : Nat} (h : r N N') : Ren r (.map N) (.map N')
  | iter {N N' : Nat} (h : r N N') : Ren r (.iter N) (.iter N')
  | yield {N N' : Nat} (h : r N N') : Ren r (.yield N) (.yield N')
  | rptr {m i k : Nat} {rows rows' : List (List AVal)} (hm : ∀ j : Nat, (rows'[j]?).map List.length = (rows[j]?).map List.length)
      (hv : ∀ j q v v', cellAt rows j q = some v → cellAt rows' j q = some v' → Ren r v v') (h1 : ∀ j q v', cellAt rows' j q = some v' → v'.one = true) : Ren r (.rptr m rows i k) (.rptr m rows' i k)
  | rs {m i len : Nat} {ex : Bool} {rows rows' : List (List AVal)} (hm : ∀ j : Nat, (rows'[j]?).map List.length = (rows[j]?).map List.length) (hn : rows = [] → rows' = [])
      (hv : ∀ j q v v', cellAt rows j q = some v → cellAt rows' j q = some v' → Ren r v v') (h1 : ∀ j q v', cellAt rows' j q = some v' → v'.one = true) : Ren r (.rs m rows i len ex) (.rs m rows' i len ex)
  | ri {m i k es len : Nat} {rows rows' : List (List AVal)} (hm : ∀ j : Nat, (rows'[j]?).map List.length = (rows[j]?).map List.length)
      (hv : ∀ j q v v', cellAt rows j q = some v → cellAt rows' j q = some v' → Ren r v v') (h1 : ∀ j q v', cellAt rows' j q = some v' → v'.one = true) : Ren r (.ri m rows i k es len) (.ri m rows' i k es len)
  | func {fn : Fn} {first caps first' caps' : List AVal} (h1 : first'.length = first.length) (h2 : caps'.length = caps.length)
      (hf : ∀ (i : Nat) v v', first[i]? = some v → first'[i]? = some v' → Ren r v v') (hc : ∀ (i : Nat) v v', caps[i]? = some v → caps'[i]? = some v' → Ren r v v') : Ren r (.func fn first caps) (.func fn first' caps')
  | iface {t : TypeId} {v v' : AVal} (h : Ren r v v') : Ren r (.iface t v) (.iface t v')
  | agg {cs cs' : List AVal} (hl : cs'.length = cs.length) (h : ∀ (i : Nat) v v', cs[i]? = some v → cs'[i]? = some v' → Ren r v v') : Ren r (.agg cs) (.agg cs')
  | tup {cs cs' : List AVal} (hl : cs'.length = cs.length) (h : ∀ (i : Nat) v v', cs[i]? = some v → cs'[i]? = some v' → Ren r v v') : Ren r (.tup cs) (.tup cs')
theorem Ren.fwd {r : Nat → Nat → Prop} {ι ι' : Nm} {ro : Ros} {w : World} (hι : ∀ N N' l, r N N' → ι N = some l → ι' N' = some l) {u v : AVal} (h : Ren r u v) : ∀ x, VRel ι ro w u x → VRel ι' ro w v x := by
  have rob : ∀ {m b off : Nat} {rows rows' : List (List AVal)} {f : Nat → Nat → Value}, (∀ row ∈ rows, RowOk m row) →
      (∀ j q v, cellAt rows j q = some v → ro b (off + j * m + q) ∧ w.cell? ⟨b, off + j * m + q, none⟩ = some (f j q)) → (∀ j q v, cellAt rows j q = some v → VRel ι ro w v (f j q)) →
      (∀ j : Nat, (rows'[j]?).map List.length = (rows[j]?).map List.length) → (∀ j q v v', cellAt rows j q = some v → cellAt rows' j q = some v' → ∀ x, VRel ι ro w v x → VRel ι' ro w v' x) →
      (∀ j q v', cellAt rows' j q = some v' → v'.one = true) →
      (∀ row ∈ rows', RowOk m row) ∧ (∀ j q v, cellAt rows' j q = some v → ro b (off + j * m + q) ∧ w.cell? ⟨b, off + j * m + q, none⟩ = some (f j q)) ∧ (∀ j q v, cellAt rows' j q = some v → VRel ι' ro w v (f j q)) := by
    intro m b off rows rows' f hrow hc hvv hm hv h1
    refine ⟨rowsOk_of hm hrow h1, fun j q v' hc' => ?_, fun j q v' hc' => ?_⟩
    · obtain ⟨v0, h0⟩ := cellAt_same hm hc'
      exact hc j q v0 h0
    · obtain ⟨v0, h0⟩ := cellAt_same hm hc'
      exact hv j q v0 v' h0 hc' _ (hvv j q v0 h0)
  induction h with
  | bool b => intro x h; cases h; exact .bool b
  | int k y => intro x h; cases h; exact .int k y
  | str s => intro x h; cases h; exact .str s
  | nilP => intro x h; cases h; exact .nilP
  | nilS => intro x h; cases h; exact .nilS
  | nilM => intro x h; cases h; exact .nilM
  | nilF => intro x h; cases h; exact .nilF
  | nilI => intro x h; cases h; exact .nilI
  | junk => intro x _; exact .junk x
  | ptr hr => intro x h; cases h with | ptr i k h => exact .ptr _ _ (hι _ _ _ hr h)
  | ms hr => intro x h; cases h with | ms h hl he ha => exact .ms (hι _ _ _ hr h) hl he ha
  | mi hr => intro x h; cases h with | mi i k es len h => exact .mi _ _ _ _ (hι _ _ _ hr h)
  | map hr => intro x h; cases h with | map h => exact .map (hι _ _ _ hr h)
  | iter hr => intro x h; cases h with | iter h => exact .iter (hι _ _ _ hr h)
  | yield hr => intro x h; cases h with | yield h => exact .yield (hι _ _ _ hr h)
  | rptr hm _ h1 ih =>
    intro x h
    cases h with
    | rptr b off i k f hrow hc hvv =>
      obtain ⟨g1, g2, g3⟩ := rob hrow hc hvv hm ih h1
      exact .rptr b off _ _ f g1 g2 g3
  | rs hm hnil _ h1 ih =>
    intro x h
    cases h with
    | rs b off f hrow hc hvv hl he ha =>
      obtain ⟨g1, g2, g3⟩ := rob hrow hc hvv hm ih h1
      exact .rs b off f g1 g2 g3 hl he ha
  | ri hm _ h1 ih =>
    intro x h
    cases h with
    | ri b off i k es len f hrow hc hvv =>
      obtain ⟨g1, g2, g3⟩ := rob hrow hc hvv hm ih h1
      exact .ri b off _ _ _ _ f g1 g2 g3
  | func h1 h2 _ _ ihf ihc =>
    intro x h
    cases h with
    | func hn g1 g2 hf hc =>
      refine .func hn (g1.trans h1.symm) (g2.trans h2.symm) (fun i v' u hv' hu => ?_) (fun i v' u hv' hu => ?_)
      · have hlt := (List.getElem?_eq_some_iff.1 hv').1
        rw [h1] at hlt
        exact ihf i _ v' (List.getElem?_eq_getElem hlt) hv' u (hf i _ u (List.getElem?_eq_getElem hlt) hu)
      · have hlt := (List.getElem?_eq_some_iff.1 hv').1
        rw [h2] at hlt
        exact ihc i _ v' (List.getElem?_eq_getElem hlt) hv' u (hc i _ u (List.getElem?_eq_getElem hlt) hu)
  | iface _ ih => intro x h; cases h with | iface h => exact .iface (ih _ h)
  | agg hl _ ih =>
    intro x h
    cases h with
    | agg g1 hf =>
      refine .agg (g1.trans hl.symm) (fun i v' u hv' hu => ?_)
      have hlt := (List.getElem?_eq_some_iff.1 hv').1
      rw [hl] at hlt
      exact ih i _ v' (List.getElem?_eq_getElem hlt) hv' u (hf i _ u (List.getElem?_eq_getElem hlt) hu)
  | tup hl _ ih =>
    intro x h
    cases h with
    | tup g1 hf =>
      refine .tup (g1.trans hl.symm) (fun i v' u hv' hu => ?_)
      have hlt := (List.getElem?_eq_some_iff.1 hv').1
      rw [hl] at hlt
      exact ih i _ v' (List.getElem?_eq_getElem hlt) hv' u (hf i _ u (List.getElem?_eq_getElem hlt) hu)
inductive ObjRen (r : Nat → Nat → Prop) : AObj → AObj → Prop
  | cells {m : Nat} {rows rows' : List (List AVal)} (hm : ∀ j : Nat, (rows'[j]?).map List.length = (rows[j]?).map List.length)
      (hv : ∀ j q v v', cellAt rows j q = some v → cellAt rows' j q = some v' → Ren r v v') (h1 : ∀ j q v', cellAt rows' j q = some v' → v'.one = true) : ObjRen r (.cells m rows) (.cells m rows')
  | siter (s : ByteArray) (pos : Nat) : ObjRen r (.siter s pos) (.siter s pos)
  | map {K : KT} {f f' : AKey → Option AVal} {n : Nat} (hs : ∀ k, (f k).isSome = (f' k).isSome) (hv : ∀ k v v', f k = some v → f' k = some v' → Ren r v v') : ObjRen r (.map K f n) (.map K f' n)
  | loop {l l' : ALoop} (h1 : l'.size = l.size) (h2 : l'.params = l.params) (h3 : l'.assign = l.assign) (h4 : l'.body = l.body) (h5 : l'.state = l.state) (h6 : l'.pending = l.pending)
      (he : ∀ t, Ren r (l.env t) (l'.env t)) : ObjRen r (.loop l) (.loop l')
theorem rows_length {rows rows' : List (List AVal)} (hm : ∀ j : Nat, (rows'[j]?).map List.length = (rows[j]?).map List.length) : rows'.length = rows.length := by
  have key : ∀ (a b : List (List AVal)), (∀ j : Nat, (a[j]?).map List.length = (b[j]?).map List.length) → a.length ≤ b.length := by
    intro a b h
    apply Nat.le_of_not_lt
    intro hlt
    have := h b.length
    rw [List.getElem?_eq_getElem hlt, List.getElem?_eq_none (Nat.le_refl _)] at this
    simp at this
  exact Nat.le_antisymm (key _ _ hm) (key _ _ fun j => (hm j).symm)
theorem ObjRen.fwd {r : Nat → Nat → Prop} {ι ι' : Nm} {ro : Ros} {w : World} (hι : ∀ N N' l, r N N' → ι N = some l → ι' N' = some l) {o o' : AObj} (h : ObjRen r o o') {l : Loc} (hr : ObjRel ι ro w l o) : ObjRel ι' ro w l o' := by
  cases h with
  | cells hm hv h1 =>
    cases l with
    | obj r => exact hr.elim
    | cells m b off ext =>
      obtain ⟨g1, g2, g3, g4, g5⟩ := hr
      refine ⟨g1, rowsOk_of hm g2 h1, by rw [rows_length hm]; exact g3, g4, fun j q v' hc' => ?_⟩
      obtain ⟨v0, h0⟩ := cellAt_same hm hc'
      obtain ⟨u, hu, hvu⟩ := g5 j q v0 h0
      exact ⟨u, hu, (hv j q v0 v' h0 hc').fwd hι u hvu⟩
  | siter s pos =>
    cases l with
    | cells m b off ext => exact hr.elim
    | obj r => exact hr
  | @map K f f' n hs hv =>
    cases l with
    | cells m b off ext => exact hr.elim
    | obj r =>
      obtain ⟨es, clock, ks, g1, g2, g3, g4, g5, g6, g7, g8⟩ := hr
      refine ⟨es, clock, ks.map fun e => (e.1, (f' e.1).getD .junk), g1, g2, by simp [g3], by rw [List.map_map]; exact g4, fun k => ?_, g6, g7, fun i e e' he he' => ?_⟩
      · have hl : ∀ (L : List (AKey × AVal)), (L.map fun e => (e.1, (f' e.1).getD .junk)).lookup k = (L.lookup k).map fun _ => (f' k).getD .junk := by
          intro L
          induction L with
          | nil => rfl
          | cons x xs ih =>
            obtain ⟨x1, x2⟩ := x
            rw [List.map_cons, List.lookup_cons, List.lookup_cons]
            by_cases hk : (k == x1) = true
            · have := beq_iff_eq.1 hk
              subst this
              simp
            · have hk' : (k == x1) = false := by simpa using hk
              simp only [hk']
              exact ih
        rw [hl, ← g5]
        have := hs k
        cases hf : f k with
        | none => rw [hf] at this; simp at this; simp [this]
        | some v =>
          rw [hf] at this
          simp at this
          obtain ⟨v', hv'⟩ := Option.isSome_iff_exists.1 this
          simp [hv']
      · rw [List.getElem?_map, Option.map_eq_some_iff] at he
        obtain ⟨e0, he0, rfl⟩ := he
        have h8 := g8 i e0 e' he0 he'
        refine ⟨h8.1, ?_⟩
        have hfk : f e0.1 = some e0.2 := by rw [g5]; exact lookup_mem g4 (List.mem_of_getElem? he0)
        have := hs e0.1
        rw [hfk] at this
        simp at this
        obtain ⟨v', hv'⟩ := Option.isSome_iff_exists.1 this
        simp only [hv', Option.getD_some]
        exact (hv _ _ _ hfk hv').fwd hι _ h8.2
  | loop h1 h2 h3 h4 h5 h6 he =>
    cases l with
    | cells m b off ext => exact hr.elim
    | obj r =>
      obtain ⟨tmps, d, fn, g1, g2, g3⟩ := hr
      exact ⟨tmps, d, fn, by rw [h2, h3, h4, h5, h6]; exact g1, by rw [h1]; exact g2, fun t u hu => (he t).fwd hι _ (g3 t u hu)⟩
theorem Ren.bare {r : Nat → Nat → Prop} {u v : AVal} (h : Ren r u v) (hb : u.bare = true) : v = u := by
  cases h <;> first | rfl | cases hb
theorem ObjRen.bare {r : Nat → Nat → Prop} {o o' : AObj} (h : ObjRen r o o') (hz : Zer o) : o' = o := by
  obtain ⟨m, z, rfl, hb⟩ := hz
  cases h with
  | @cells _ _ rows' hm hv h1 =>
    have hl := rows_length hm
    match rows', hl with
    | [z'], _ =>
      have h0 := hm 0
      simp only [List.getElem?_cons_zero, Option.map_some, Option.some.injEq] at h0
      have : z' = z := by
        refine List.ext_getElem h0 fun i h1 h2 => ?_
        have := hv 0 i z[i] z'[i] (by simp [cellAt]) (by simp [cellAt])
        exact this.bare (hb _ (List.getElem_mem h2))
      rw [this]
theorem CallV.ren {P : Program} {fv0 fv : AVal} {args0 args : List AVal} {σ0 σ1 σ σ' : AHeap} {u v : AVal} (h : CallV P fv0 args0 σ0 (.ret u) σ1)
    (g hh : Nat → Option Nat) (gh : ∀ N N', g N = some N' ↔ hh N' = some N) (hold : ∀ N N', g N = some N' → (N < σ0.next ↔ N' < σ.next)) (hlt : ∀ N N', g N = some N' → N' < σ'.next) (hle : σ.next ≤ σ'.next)
    (hfv : Ren (fun N' N => g N = some N' ∧ N < σ0.next) fv fv0) (hal : args0.length = args.length) (hargs : ∀ (i : Nat) a a0, args[i]? = some a → args0[i]? = some a0 → Ren (fun N' N => g N = some N' ∧ N < σ0.next) a a0)
    (start : ∀ N o, σ0.objs N = some o → N < σ0.next ∧ ∃ N' o', g N = some N' ∧ σ.objs N' = some o' ∧ ObjRen (fun N' N => g N = some N' ∧ N < σ0.next) o' o)
    (hend : ∀ N' o', σ'.objs N' = some o' → (∃ N o, g N = some N' ∧ σ1.objs N = some o ∧ ObjRen (fun N N' => g N = some N') o o') ∨ (hh N' = none ∧ σ.objs N' = some o'))
    (hres : Ren (fun N N' => g N = some N') u v) : CallV P fv args σ (.ret v) σ' := by
  intro ι ro w fu us R hfu hus
  let ι0 : Nm := fun N => if N < σ0.next then (g N).bind ι else none
  have h00 : ∀ N N' l, g N = some N' → N < σ0.next → ι N' = some l → ι0 N = some l := by
    intro N N' l hg hN hl
    show (if N < σ0.next then (g N).bind ι else none) = some l
    rw [if_pos hN, hg]; exact hl
  have h0b : ∀ N l, ι0 N = some l → N < σ0.next ∧ ∃ N', g N = some N' ∧ ι N' = some l := by
    intro N l hl
    have hl' : (if N < σ0.next then (g N).bind ι else none) = some l := hl
    split at hl'
    · rename_i hN
      cases hg : g N with
      | none => rw [hg] at hl'; cases hl'
      | some N' => rw [hg] at hl'; exact ⟨hN, N', rfl, hl'⟩
    · cases hl'
  have hflip : ∀ N' N l, (g N = some N' ∧ N < σ0.next) → ι N' = some l → ι0 N = some l := fun N' N l hg hl => h00 N N' l hg.1 hg.2 hl
  have cellsForm : ∀ {r : Nat → Nat → Prop} {o' : AObj} {m : Nat} {rows : List (List AVal)}, ObjRen r o' (.cells m rows) → ∃ rows', o' = .cells m rows' := by
    intro r o' m rows h
    cases h with
    | cells _ _ _ => exact ⟨_, rfl⟩
  have cellsForm2 : ∀ {r : Nat → Nat → Prop} {o' : AObj} {m : Nat} {rows : List (List AVal)}, ObjRen r (.cells m rows) o' → ∃ rows', o' = .cells m rows' := by
    intro r o' m rows h
    cases h with
    | cells _ _ _ => exact ⟨_, rfl⟩
  have cellsForm3 : ∀ {r : Nat → Nat → Prop} {o : AObj} {m : Nat} {rows : List (List AVal)}, ObjRen r o (.cells m rows) → ∃ rows', o = .cells m rows' := by
    intro r o m rows h
    cases h with
    | cells _ _ _ => exact ⟨_, rfl⟩
  have own0 : ∀ b o, Own ι0 σ0 b o → ∃ N N' m off ext m' rows', N < σ0.next ∧ g N = some N' ∧ ι N' = some (.cells m b off ext) ∧ σ.objs N' = some (.cells m' rows') ∧ off ≤ o ∧ o < off + ext := by
    rintro b o ⟨N, m, off, ext, m', rows, h1, h2, h3, h4⟩
    obtain ⟨hN, N', hg, hl⟩ := h0b _ _ h1
    obtain ⟨_, N2, o', hg2, ho', hr⟩ := start _ _ h2
    rw [hg] at hg2; cases hg2
    obtain ⟨rows', rfl⟩ := cellsForm hr
    exact ⟨N, N', m, off, ext, m', rows', hN, hg, hl, ho', h3, h4⟩
  have own01 : ∀ b o, Own ι0 σ0 b o → Own ι σ b o := fun b o ho => by
    obtain ⟨N, N', m, off, ext, m', rows', _, _, hl, ho', h3, h4⟩ := own0 b o ho
    exact ⟨N', m, off, ext, m', rows', hl, ho', h3, h4⟩
  have ownO0 : ∀ r, OwnO ι0 σ0 r → ∃ N N' o', N < σ0.next ∧ g N = some N' ∧ ι N' = some (.obj r) ∧ σ.objs N' = some o' := by
    rintro r ⟨N, o, h1, h2⟩
    obtain ⟨hN, N', hg, hl⟩ := h0b _ _ h1
    obtain ⟨_, N2, o', hg2, ho', hr⟩ := start _ _ h2
    rw [hg] at hg2; cases hg2
    exact ⟨N, N', o', hN, hg, hl, ho'⟩
  have ownO01 : ∀ r, OwnO ι0 σ0 r → OwnO ι σ r := fun r ho => by
    obtain ⟨N, N', o', _, _, hl, ho'⟩ := ownO0 r ho
    exact ⟨N', o', hl, ho'⟩
  have R0 : Rel ι0 ro σ0 w := by
    refine ⟨fun N l hl => (h0b N l hl).1, fun N l o hl ho => ?_, fun N M l l' o o' hne hl hl' ho ho' => ?_, fun b o hr ho => R.roSep b o hr (own01 b o ho), R.roIn⟩
    · obtain ⟨hN, N', hg, hl2⟩ := h0b _ _ hl
      obtain ⟨_, N2, o', hg2, ho', hr⟩ := start _ _ ho
      rw [hg] at hg2; cases hg2
      exact hr.fwd hflip (R.obj N' l o' hl2 ho')
    · obtain ⟨_, N', hg, hl2⟩ := h0b _ _ hl
      obtain ⟨_, M', hgM, hlM⟩ := h0b _ _ hl'
      obtain ⟨_, N2, o1, hg2, ho1, _⟩ := start _ _ ho
      obtain ⟨_, M2, o2, hgM2, ho2, _⟩ := start _ _ ho'
      rw [hg] at hg2; cases hg2
      rw [hgM] at hgM2; cases hgM2
      refine R.apart N' M' l l' o1 o2 ?_ hl2 hlM ho1 ho2
      rintro rfl
      have := (gh _ _).1 hg
      rw [(gh _ _).1 hgM] at this
      cases this
      exact hne rfl
  refine Upon.mono (fun e w1 hm => ?_) (h ι0 ro w fu us R0 (hfv.fwd hflip _ hfu) ⟨hus.1.trans hal.symm, fun i a0 x ha0 hx => ?_⟩)
  · obtain ⟨ι1, ro1, L, R1, hE⟩ := hm
    generalize hout : AOut.ret u = out at hE
    cases hE with
    | panic _ => cases hout
    | ret hv =>
    cases hout
    let ι' : Nm := fun N' => match ι N' with | some l => some l | none => (hh N').bind ι1
    have ext' : ∀ N' l, ι N' = some l → ι' N' = some l := by
      intro N' l hl
      show (match ι N' with | some l => some l | none => (hh N').bind ι1) = some l
      rw [hl]
    have none' : ∀ N' l, ι N' = none → ι' N' = some l → ∃ N, g N = some N' ∧ ι1 N = some l := by
      intro N' l hl hl'
      have hl2 : (match ι N' with | some l => some l | none => (hh N').bind ι1) = some l := hl'
      rw [hl] at hl2
      simp only at hl2
      cases hhN : hh N' with
      | none => rw [hhN] at hl2; cases hl2
      | some N => rw [hhN] at hl2; exact ⟨N, (gh _ _).2 hhN, hl2⟩
    have viaOld : ∀ N N' l, g N = some N' → ι N' = some l → ι1 N = some l := fun N N' l hg hl =>
      L.ext _ _ (h00 N N' l hg ((hold N N' hg).2 (R.dom _ _ hl)) hl)
    have fw : ∀ N N' l, g N = some N' → ι1 N = some l → ι' N' = some l := by
      intro N N' l hg hl
      cases hιN : ι N' with
      | some l' =>
        have := viaOld N N' l' hg hιN
        rw [hl] at this; cases this
        exact ext' _ _ hιN
      | none =>
        show (match ι N' with | some l => some l | none => (hh N').bind ι1) = some l
        rw [hιN, (gh _ _).1 hg]; exact hl
    have bk : ∀ N N' l, g N = some N' → ι' N' = some l → ι1 N = some l := by
      intro N N' l hg hl
      cases hιN : ι N' with
      | some l' =>
        rw [ext' _ _ hιN] at hl; cases hl
        exact viaOld N N' _ hg hιN
      | none =>
        obtain ⟨M, hgM, hlM⟩ := none' _ _ hιN hl
        have := (gh _ _).1 hg
        rw [(gh _ _).1 hgM] at this
        cases this
        exact hlM
    have other : ∀ N' l, hh N' = none → ι' N' = some l → ι N' = some l := by
      intro N' l hn hl
      cases hιN : ι N' with
      | some l' => rw [ext' _ _ hιN] at hl; exact hl
      | none =>
        obtain ⟨M, hgM, _⟩ := none' _ _ hιN hl
        rw [(gh _ _).1 hgM] at hn; cases hn
    have notOwn : ∀ M' m b off ext o x, hh M' = none → ι M' = some (.cells m b off ext) → σ.objs M' = some o → off ≤ x → x < off + ext → ¬ Own ι0 σ0 b x := by
      intro M' m b off ext o x hn hl ho h1 h2 hown
      obtain ⟨N, N', m2, off2, ext2, m2', rows2, _, hg, hl2, ho2, h3, h4⟩ := own0 b x hown
      have hne : M' ≠ N' := by rintro rfl; rw [(gh _ _).1 hg] at hn; cases hn
      have := R.apart M' N' _ _ _ _ hne hl hl2 ho ho2
      simp only [LocApart] at this
      omega
    have notOwnO : ∀ M' r o, hh M' = none → ι M' = some (.obj r) → σ.objs M' = some o → ¬ OwnO ι0 σ0 r := by
      intro M' r o hn hl ho hown
      obtain ⟨N, N', o', _, hg, hl2, ho2⟩ := ownO0 r hown
      have hne : M' ≠ N' := by rintro rfl; rw [(gh _ _).1 hg] at hn; cases hn
      have := R.apart M' N' _ _ _ _ hne hl hl2 ho ho2
      exact this rfl
    have vr : ∀ v u, VRel ι ro w v u → VRel ι' ro1 w1 v u := fun v u hvu =>
      hvu.mono ext' L.roLe (fun b o x hr hc => L.frame.cell (fun ho => R.roSep b o hr (own01 b o ho)) hc)
    have ownC : ∀ b o, Own ι' σ' b o → Own ι1 σ1 b o ∨ ∃ M' m off ext m' rows', hh M' = none ∧ ι M' = some (.cells m b off ext) ∧ σ.objs M' = some (.cells m' rows') ∧ off ≤ o ∧ o < off + ext := by
      rintro b o ⟨N', m, off, ext, m', rows, h1, h2, h3, h4⟩
      rcases hend _ _ h2 with ⟨N, o1, hg, ho1, hr⟩ | ⟨hn, ho⟩
      · obtain ⟨rows1, rfl⟩ := cellsForm3 hr
        exact .inl ⟨N, m, off, ext, m', rows1, bk _ _ _ hg h1, ho1, h3, h4⟩
      · exact .inr ⟨N', m, off, ext, m', rows, hn, other _ _ hn h1, ho, h3, h4⟩
    have sepA : ∀ N N' M' l l' o1 o', g N = some N' → σ1.objs N = some o1 → ι1 N = some l → hh M' = none → ι M' = some l' → σ.objs M' = some o' → LocApart l l' := by
      intro N N' M' l l' o1 o' hg ho1 hl hn hl' ho'
      cases l with
      | cells m b off ext =>
        cases l' with
        | obj r => trivial
        | cells m2 b2 off2 ext2 =>
          by_cases hb : b = b2
          · subst hb
            have hblt := R.lt_cells hl' ho'
            have hno : ∀ x, off ≤ x → x < off + ext → off2 ≤ x → x < off2 + ext2 → False := by
              intro x h1 h2 h3 h4
              obtain ⟨rows1, hrow⟩ := (R1.obj N _ _ hl ho1).cells_form
              subst hrow
              have hown1 : Own ι1 σ1 b x := ⟨N, m, off, ext, m, rows1, hl, ho1, h1, h2⟩
              exact notOwn M' m2 b off2 ext2 o' x hn hl' ho' h3 h4 (L.own b x hblt hown1)
            show b ≠ b ∨ off + ext ≤ off2 ∨ off2 + ext2 ≤ off ∨ ext = 0 ∨ ext2 = 0
            by_cases he : ext = 0
            · omega
            by_cases he2 : ext2 = 0
            · omega
            by_cases hx : off ≤ off2
            · by_cases hy : off2 < off + ext
              · exact (hno off2 hx hy (Nat.le_refl _) (by omega)).elim
              · omega
            · by_cases hy : off < off2 + ext2
              · exact (hno off (Nat.le_refl _) (by omega) (by omega) hy).elim
              · omega
          · exact .inl hb
      | obj r =>
        cases l' with
        | cells m2 b2 off2 ext2 => trivial
        | obj r2 =>
          show r ≠ r2
          rintro rfl
          have hrlt := R.lt_obj hl' ho'
          exact notOwnO M' r o' hn hl' ho' (L.ownO r hrlt ⟨N, o1, hl, ho1⟩)
    refine ⟨ι', ro1, ?_, ?_, .ret (hres.fwd fw _ hv)⟩
    · refine ⟨⟨L.frame.os, L.frame.tape, L.frame.output, L.frame.size, fun b c e f hb => ?_, fun r o hr hc hn => L.frame.objs r o hr hc (fun ho => hn (ownO01 r ho))⟩, ext', L.roLe, ?_, ?_, ?_, hle, ?_, ?_⟩
      · obtain ⟨c', h1, h2, h3⟩ := L.frame.cells b c e f hb
        exact ⟨c', h1, h2, fun o ho => h3 o (fun hx => ho (own01 b o hx))⟩
      · intro b o hb ho
        rcases ownC b o ho with h1 | ⟨M', m, off, ext, m', rows', _, h1, h2, h3, h4⟩
        · exact own01 b o (L.own b o hb h1)
        · exact ⟨M', m, off, ext, m', rows', h1, h2, h3, h4⟩
      · rintro r hr ⟨N', o', h1, h2⟩
        rcases hend _ _ h2 with ⟨N, o1, hg, ho1, _⟩ | ⟨hn, ho⟩
        · exact ownO01 r (L.ownO r hr ⟨N, o1, bk _ _ _ hg h1, ho1⟩)
        · exact ⟨N', o', other _ _ hn h1, ho⟩
      · intro b o hb hr
        rcases L.roNew b o hb hr with h1 | h1
        · exact .inl h1
        · exact .inr (own01 b o h1)
      · intro N' l hN' hl
        cases hιN : ι N' with
        | some l' => rw [ext' _ _ hιN] at hl; exact hl
        | none =>
          obtain ⟨N, hg, hl1⟩ := none' _ _ hιN hl
          have hN := (hold N N' hg).2 hN'
          obtain ⟨_, N2, hg2, hl2⟩ := h0b _ _ (L.kept.fresh N l hN hl1)
          rw [hg] at hg2; cases hg2
          rw [hιN] at hl2; cases hl2
      · intro N' o' hN' hn ho'
        rcases hend _ _ ho' with ⟨N, o1, hg, ho1, hr⟩ | ⟨_, ho⟩
        · have hN := (hold N N' hg).2 hN'
          have hn0 : ι0 N = none := by
            cases hx : ι0 N with
            | none => rfl
            | some l =>
              obtain ⟨_, N2, hg2, hl2⟩ := h0b _ _ hx
              rw [hg] at hg2; cases hg2
              rw [hn] at hl2; cases hl2
          obtain ⟨o0, ho0, hk0⟩ := L.kept.keep N o1 hN hn0 ho1
          obtain ⟨_, N2, o2, hg2, ho2, hr2⟩ := start _ _ ho0
          rw [hg] at hg2; cases hg2
          refine ⟨o2, ho2, fun hz => ?_⟩
          have e0 := hr2.bare hz
          subst e0
          have e1 := hk0 hz
          subst e1
          exact hr.bare hz
        · exact ⟨o', ho, fun _ => rfl⟩
    · refine ⟨?_, ?_, ?_, ?_, R1.roIn⟩
      · intro N' l hl
        cases hιN : ι N' with
        | some l' => have := R.dom _ _ hιN; omega
        | none =>
          obtain ⟨N, hg, _⟩ := none' _ _ hιN hl
          exact hlt _ _ hg
      · intro N' l o' hl ho'
        rcases hend _ _ ho' with ⟨N, o1, hg, ho1, hr⟩ | ⟨hn, ho⟩
        · exact hr.fwd fw (R1.obj N l o1 (bk _ _ _ hg hl) ho1)
        · have hl2 := other _ _ hn hl
          refine (R.obj N' l o' hl2 ho).mono ext' vr ?_ ?_
          · intro m b off ext hle c e f hb
            subst hle
            obtain ⟨c', h1, h2, h3⟩ := L.frame.cells b c e f hb
            exact ⟨c', h1, h2, fun x hx1 hx2 => h3 x (notOwn N' m b off ext o' x hn hl2 ho hx1 hx2)⟩
          · intro r x hle hr hc
            subst hle
            exact L.frame.objs r x hr hc (notOwnO N' r o' hn hl2 ho)
      · intro N' M' l l' o o' hne hl hl' ho ho'
        rcases hend _ _ ho with ⟨N, o1, hg, ho1, _⟩ | ⟨hn, hoo⟩
        · rcases hend _ _ ho' with ⟨M, o2, hgM, ho2, _⟩ | ⟨hnM, hooM⟩
          · refine R1.apart N M l l' o1 o2 ?_ (bk _ _ _ hg hl) (bk _ _ _ hgM hl') ho1 ho2
            rintro rfl
            rw [hg] at hgM; cases hgM
            exact hne rfl
          · exact sepA N N' M' l l' o1 o' hg ho1 (bk _ _ _ hg hl) hnM (other _ _ hnM hl') hooM
        · rcases hend _ _ ho' with ⟨M, o2, hgM, ho2, _⟩ | ⟨hnM, hooM⟩
          · exact (sepA M M' N' l' l o2 o hgM ho2 (bk _ _ _ hgM hl') hn (other _ _ hn hl) hoo).symm'
          · exact R.apart N' M' l l' o o' hne (other _ _ hn hl) (other _ _ hnM hl') hoo hooM
      · intro b x hr ho
        rcases ownC b x ho with h1 | ⟨M', m, off, ext, m', rows', hn, h1, h2, h3, h4⟩
        · exact R1.roSep b x hr h1
        · have hblt := R.lt_cells h1 h2
          rcases L.roNew b x hblt hr with h5 | h5
          · exact R.roSep b x h5 ⟨M', m, off, ext, m', rows', h1, h2, h3, h4⟩
          · exact notOwn M' m b off ext _ x hn h1 h2 h3 h4 h5
  · have hlt0 := (List.getElem?_eq_some_iff.1 ha0).1
    have ha : args[i]? = some (args[i]'(by omega)) := List.getElem?_eq_getElem (by omega)
    exact (hargs i _ a0 ha ha0).fwd hflip _ (hus.2 i _ x ha hx)
end Go.Tc
namespace Go.Tc
def m2 (x : Option (AVal × AHeap)) (K : AVal → AHeap → Prop) : Prop := match x with | some (v, s) => K v s | none => False
def plainOp : AOp → Bool
  | .callF .. | .callV .. | .callI .. | .panic _ | .dfr .. => false
  | _ => true
section
variable {P : Program} {rd : Option Nat} {os : List AOper} {d : Option Nat} {a : List Nat} {env : AEnv} {σ : AHeap} {Q : AExit → AEnv → AHeap → Prop}
theorem L_nil : Go.Tc.wpOps P rd [] env σ Q = Q .normal env σ := id rfl
theorem L_op {op : AOp} (h : plainOp op = true) : Go.Tc.wpOps P rd (⟨d, op, none, a⟩ :: os) env σ Q = m2 (opA op env σ) fun v σ' => Go.Tc.wpOps P rd os (env.put d v) σ' Q := by
  cases op <;> first | (cases h; done) | rfl
theorem L_callF {f : FuncId} {xs : List Opnd} : Go.Tc.wpOps P rd (⟨d, .callF f xs, none, a⟩ :: os) env σ Q =
    RunV P (.func (.func f) [] []) (xs.map env.ev) σ (outK (fun v σ' => Go.Tc.wpOps P rd os (env.put d v) σ' Q) (fun v σ' => Q (.panic v) env σ')) := id rfl
theorem L_callV {f : Opnd} {xs : List Opnd} : Go.Tc.wpOps P rd (⟨d, .callV f xs, none, a⟩ :: os) env σ Q =
    RunV P (env.ev f) (xs.map env.ev) σ (outK (fun v σ' => Go.Tc.wpOps P rd os (env.put d v) σ' Q) (fun v σ' => Q (.panic v) env σ')) := id rfl
theorem L_guard {op : AOp} {t : Nat} {b v : Bool} (h : env.t t = .bool v) : Go.Tc.wpOps P rd (⟨d, op, some (t, b), a⟩ :: os) env σ Q =
    if v = b then Go.Tc.wpOps P rd (⟨d, op, none, a⟩ :: os) env σ Q else Go.Tc.wpOps P rd os (env.put d (.tup [])) σ Q := by
  simp only [Go.Tc.wpOps, gOk, h]
  cases v <;> cases b <;> rfl
theorem ev_t {n : Nat} : env.ev (.t n) = env.t n := id rfl
theorem ev_c {v : AVal} : env.ev (.c v) = v := id rfl
theorem ev_f {f : FuncId} : env.ev (.f f) = .func (.func f) [] [] := id rfl
theorem A_skip : wpA P .skip rd env σ Q = Q .normal env σ := id rfl
theorem A_seq {x y : ACode} : wpA P (.seq x y) rd env σ Q = wpA P x rd env σ (thenA (fun env' σ' => wpA P y rd env' σ' Q) Q) := id rfl
theorem A_ops {l : List AOper} : wpA P (.ops l) rd env σ Q = Go.Tc.wpOps P rd l env σ Q := id rfl
theorem A_ret : wpA P .ret rd env σ Q = Q .ret env σ := id rfl
theorem A_exit {i : Nat} : wpA P (.exit i) rd env σ Q = Q (.exit i) env σ := id rfl
theorem A_block {i : Nat} {x : ACode} : wpA P (.block i x) rd env σ Q = wpA P x rd env σ (blockA i Q) := id rfl
theorem A_cond {c : Opnd} {x y : ACode} {v : Bool} (h : env.ev c = .bool v) : wpA P (.cond c x y) rd env σ Q = if v = true then wpA P x rd env σ Q else wpA P y rd env σ Q := by
  simp only [wpA, h]
  cases v <;> rfl
theorem th_normal {K : AEnv → AHeap → Prop} : thenA K Q .normal env σ = K env σ := id rfl
theorem th_ret {K : AEnv → AHeap → Prop} : thenA K Q .ret env σ = Q .ret env σ := id rfl
theorem th_exit {K : AEnv → AHeap → Prop} {i : Nat} : thenA K Q (.exit i) env σ = Q (.exit i) env σ := id rfl
theorem th_panic {K : AEnv → AHeap → Prop} {v : AVal} : thenA K Q (.panic v) env σ = Q (.panic v) env σ := id rfl
theorem bl_normal {i : Nat} : blockA i Q .normal env σ = Q .normal env σ := id rfl
theorem bl_ret {i : Nat} : blockA i Q .ret env σ = Q .ret env σ := id rfl
theorem bl_panic {i : Nat} {v : AVal} : blockA i Q (.panic v) env σ = Q (.panic v) env σ := id rfl
theorem bl_exit {i j : Nat} : blockA i Q (.exit j) env σ = if j = i then Q .normal env σ else Q (.exit j) env σ := id rfl
theorem put_some {n : Nat} {v : AVal} : env.put (some n) v = env.set n v := id rfl
theorem put_none {v : AVal} : env.put none v = env := id rfl
theorem set_get {n i : Nat} {v : AVal} : (env.set n v).t i = bif i == n then v else env.t i := by
  simp only [AEnv.set]
  by_cases h : i = n
  · subst h; simp
  · have : (i == n) = false := by simpa using h
    rw [if_neg h, this]; rfl
theorem set_ds {n : Nat} {v : AVal} : (env.set n v).ds = env.ds := id rfl
theorem env0_get {n i : Nat} {l : List AVal} : (env0 n l).t i = l.getD i (.tup []) := id rfl
theorem env0_ds {n : Nat} {l : List AVal} : (env0 n l).ds = [] := id rfl
theorem m2_some {v : AVal} {s : AHeap} {K : AVal → AHeap → Prop} : m2 (some (v, s)) K = K v s := id rfl
theorem m2_map {x : AVal} {s : AHeap} {K : AVal → AHeap → Prop} : m2 ((some x).map (·, s)) K = K x s := id rfl
theorem o_mv {x : Opnd} : opA (.mv x) env σ = some (env.ev x, σ) := id rfl
theorem o_bin {op : BinOp} {e : EqT} {x y : Opnd} : opA (.bin op e x y) env σ = (binA op e (env.ev x) (env.ev y)).map (·, σ) := id rfl
theorem o_un {op : UnOp} {x : Opnd} : opA (.un op x) env σ = (unA op (env.ev x)).map (·, σ) := id rfl
theorem o_pick {c x y : Opnd} {v : Bool} (h : env.ev c = .bool v) : opA (.pick c x y) env σ = some (if v = true then env.ev x else env.ev y, σ) := by simp only [opA, h]
theorem o_alloc {z : List AVal} : opA (.alloc z) env σ = some (.ptr σ.next 0 0, σ.alloc (.cells z.length [z])) := id rfl
theorem o_box {x : Opnd} (h : (env.ev x).cells.all AVal.one = true) : opA (.box x) env σ = some (.ptr σ.next 0 0, σ.alloc (.cells (env.ev x).cells.length [(env.ev x).cells])) := by simp only [opA, h, if_true]
theorem o_build {z : List AVal} {ps : List (Nat × Nat × Opnd)} : opA (.build z ps) env σ = ((fillA z (ps.map fun p => (p.1, p.2.1, env.ev p.2.2))).map .agg).map (·, σ) := id rfl
theorem o_buildS {m : Nat} {z : List AVal} {len : Nat} {ps : List (Nat × Opnd)} {rows : List (List AVal)} (h : fillRows m (List.replicate len z) (ps.map fun p => (p.1, env.ev p.2)) = some rows) :
    opA (.buildS m z len ps) env σ = some (.ms m σ.next 0 len true, σ.alloc (.cells m rows)) := by simp only [opA, h]
theorem o_load {g : Bool} {n : Nat} {x : Opnd} : opA (.load g n x) env σ = (loadA σ g n (env.ev x)).map (·, σ) := id rfl
theorem o_store {n : Nat} {x y : Opnd} : opA (.store n x y) env σ = (storeA σ n (env.ev x) (env.ev y)).map (AVal.tup [], ·) := id rfl
theorem o_fa {off : Nat} {x : Opnd} : opA (.fa off x) env σ = (addrOf off (env.ev x)).map (·, σ) := id rfl
theorem o_fld {g : Bool} {n off : Nat} {x : Opnd} {cs : List AVal} (h : env.ev x = .agg cs) : opA (.fld g n off x) env σ = (partA g n off cs).map (·, σ) := by simp only [opA, h]
theorem o_ixS {m : Nat} {x i : Opnd} {k : IntKind} {n : Int} (h : env.ev i = .int k n) : opA (.ixS m x i) env σ = (ixSA m (env.ev x) n).map (·, σ) := by simp only [opA, h]
theorem o_slS {m : Nat} {x : Opnd} {lo hi mx : Option Opnd} : opA (.slS m x lo hi mx) env σ = (sliceA m (env.ev x) (lo.map env.ev) (hi.map env.ev) (mx.map env.ev)).map (·, σ) := id rfl
theorem o_lenS {x : Opnd} : opA (.lenS x) env σ = ((lenOfS (env.ev x)).map fun n : Nat => AVal.int .i64 (n : Int)).map (·, σ) := id rfl
theorem o_app {m b : Nat} {s x : Opnd} : opA (.app m b s x) env σ = appA σ m b (env.ev s) (env.ev x) := id rfl
theorem o_cpy {m : Nat} {s x : Opnd} : opA (.cpy m s x) env σ = cpyA σ m (env.ev s) (env.ev x) := id rfl
theorem o_mkF {fn : Fn} {xs ys : List Opnd} : opA (.mkF fn xs ys) env σ = some (.func fn (xs.map env.ev) (ys.map env.ev), σ) := id rfl
theorem o_mkI {t : TypeId} {x : Opnd} : opA (.mkI t x) env σ = some (.iface t (env.ev x), σ) := id rfl
theorem o_mkM {K : KT} : opA (.mkM K) env σ = some (.map σ.next, σ.alloc (.map K (fun _ => none) 0)) := id rfl
theorem o_ext {x : Opnd} {i : Nat} {vs : List AVal} (h : env.ev x = .tup vs) : opA (.ext x i) env σ = (vs[i]?).map (·, σ) := by simp only [opA, h]
theorem o_nilck {x : Opnd} : opA (.nilck x) env σ = (match env.ev x with | .ptr .. | .rptr .. | .func (.func _) .. | .iface .. => some (env.ev x, σ) | _ => none) := id rfl
end
section
variable {k : IntKind} {x y : Int} {e : EqT}
theorem b_lss : binA .lss e (.int k x) (.int k y) = some (.bool (decide (x < y))) := by simp [binA, binI]
theorem b_leq : binA .leq e (.int k x) (.int k y) = some (.bool (decide (x ≤ y))) := by simp [binA, binI]
theorem b_gtr : binA .gtr e (.int k x) (.int k y) = some (.bool (decide (y < x))) := by simp [binA, binI]
theorem b_geq : binA .geq e (.int k x) (.int k y) = some (.bool (decide (y ≤ x))) := by simp [binA, binI]
theorem b_eql : binA .eql e (.int k x) (.int k y) = some (.bool (decide (x = y))) := by
  simp only [binA, binI, if_true]
  congr 2
theorem b_neq : binA .neq e (.int k x) (.int k y) = some (.bool (decide (x ≠ y))) := by
  simp only [binA, binI, if_true, bne]
  by_cases h : x = y <;> simp [h]
theorem b_add : binA .add e (.int k x) (.int k y) = some (.int k (k.wrap (x + y))) := by simp [binA, binI]
theorem b_sub : binA .sub e (.int k x) (.int k y) = some (.int k (k.wrap (x - y))) := by simp [binA, binI]
theorem b_mul : binA .mul e (.int k x) (.int k y) = some (.int k (k.wrap (x * y))) := by simp [binA, binI]
theorem b_quo (h : y ≠ 0) : binA .quo e (.int k x) (.int k y) = some (.int k (k.wrap (x.tdiv y))) := by simp [binA, binI, h]
theorem b_rem (h : y ≠ 0) : binA .rem e (.int k x) (.int k y) = some (.int k (x.tmod y)) := by simp [binA, binI, h]
end
theorem pl_mv {a0 : _} : plainOp (.mv a0) = true := id rfl
theorem pl_pick {a0 : _} {a1 : _} {a2 : _} : plainOp (.pick a0 a1 a2) = true := id rfl
theorem pl_alloc {a0 : _} : plainOp (.alloc a0) = true := id rfl
theorem pl_box {a0 : _} : plainOp (.box a0) = true := id rfl
theorem pl_build {a0 : _} {a1 : _} : plainOp (.build a0 a1) = true := id rfl
theorem pl_buildS {a0 : _} {a1 : _} {a2 : _} {a3 : _} : plainOp (.buildS a0 a1 a2 a3) = true := id rfl
theorem pl_load {a0 : _} {a1 : _} {a2 : _} : plainOp (.load a0 a1 a2) = true := id rfl
theorem pl_store {a0 : _} {a1 : _} {a2 : _} : plainOp (.store a0 a1 a2) = true := id rfl
theorem pl_nilck {a0 : _} : plainOp (.nilck a0) = true := id rfl
theorem pl_bin {a0 : _} {a1 : _} {a2 : _} {a3 : _} : plainOp (.bin a0 a1 a2 a3) = true := id rfl
theorem pl_un {a0 : _} {a1 : _} : plainOp (.un a0 a1) = true := id rfl
theorem pl_conv {a0 : _} {a1 : _} : plainOp (.conv a0 a1) = true := id rfl
theorem pl_mkI {a0 : _} {a1 : _} : plainOp (.mkI a0 a1) = true := id rfl
theorem pl_mkF {a0 : _} {a1 : _} {a2 : _} : plainOp (.mkF a0 a1 a2) = true := id rfl
theorem pl_mkM {a0 : _} : plainOp (.mkM a0) = true := id rfl
theorem pl_mkS {a0 : _} {a1 : _} {a2 : _} {a3 : _} : plainOp (.mkS a0 a1 a2 a3) = true := id rfl
theorem pl_slS {a0 : _} {a1 : _} {a2 : _} {a3 : _} {a4 : _} : plainOp (.slS a0 a1 a2 a3 a4) = true := id rfl
theorem pl_slStr {a0 : _} {a1 : _} {a2 : _} : plainOp (.slStr a0 a1 a2) = true := id rfl
theorem pl_slA {a0 : _} {a1 : _} {a2 : _} {a3 : _} {a4 : _} : plainOp (.slA a0 a1 a2 a3 a4) = true := id rfl
theorem pl_fa {a0 : _} {a1 : _} : plainOp (.fa a0 a1) = true := id rfl
theorem pl_fld {a0 : _} {a1 : _} {a2 : _} {a3 : _} : plainOp (.fld a0 a1 a2 a3) = true := id rfl
theorem pl_ixA {a0 : _} {a1 : _} {a2 : _} {a3 : _} : plainOp (.ixA a0 a1 a2 a3) = true := id rfl
theorem pl_ixS {a0 : _} {a1 : _} {a2 : _} : plainOp (.ixS a0 a1 a2) = true := id rfl
theorem pl_ixV {a0 : _} {a1 : _} {a2 : _} {a3 : _} {a4 : _} : plainOp (.ixV a0 a1 a2 a3 a4) = true := id rfl
theorem pl_ixStr {a0 : _} {a1 : _} : plainOp (.ixStr a0 a1) = true := id rfl
theorem pl_look {a0 : _} {a1 : _} {a2 : _} {a3 : _} {a4 : _} : plainOp (.look a0 a1 a2 a3 a4) = true := id rfl
theorem pl_upd {a0 : _} {a1 : _} {a2 : _} {a3 : _} : plainOp (.upd a0 a1 a2 a3) = true := id rfl
theorem pl_rngStr {a0 : _} : plainOp (.rngStr a0) = true := id rfl
theorem pl_nextStr {a0 : _} : plainOp (.nextStr a0) = true := id rfl
theorem pl_tas {a0 : _} {a1 : _} {a2 : _} {a3 : _} : plainOp (.tas a0 a1 a2 a3) = true := id rfl
theorem pl_ext {a0 : _} {a1 : _} : plainOp (.ext a0 a1) = true := id rfl
theorem pl_lenStr {a0 : _} : plainOp (.lenStr a0) = true := id rfl
theorem pl_lenS {a0 : _} : plainOp (.lenS a0) = true := id rfl
theorem pl_b2s {a0 : _} : plainOp (.b2s a0) = true := id rfl
theorem pl_lenM {a0 : _} : plainOp (.lenM a0) = true := id rfl
theorem pl_lenA {a0 : _} : plainOp (.lenA a0) = true := id rfl
theorem pl_app {a0 : _} {a1 : _} {a2 : _} {a3 : _} : plainOp (.app a0 a1 a2 a3) = true := id rfl
theorem pl_cpy {a0 : _} {a1 : _} {a2 : _} : plainOp (.cpy a0 a1 a2) = true := id rfl
theorem pl_mx {a0 : _} : plainOp (.mx a0) = true := id rfl
theorem pl_mn {a0 : _} : plainOp (.mn a0) = true := id rfl
end Go.Tc
namespace Go.Tc
set_option linter.unusedSimpArgs false
theorem alloc_set {σ : AHeap} {o o' : AObj} : (σ.alloc o).set σ.next o' = σ.alloc o' := by
  unfold AHeap.alloc AHeap.set
  congr 1
  funext N
  by_cases h : N = σ.next
  · rw [if_pos h, if_pos h]
  · rw [if_neg h, if_neg h]; exact if_neg h
structure Un (ms : List Nat) (env env' : AEnv) : Prop where
  n : env'.n = env.n
  ds : env'.ds = env.ds
  t : ∀ t, t ∉ ms → env'.t t = env.t t
theorem Un.refl (ms : List Nat) (env : AEnv) : Un ms env env := ⟨rfl, rfl, fun _ _ => rfl⟩
theorem Un.junk {ms : List Nat} {env env' : AEnv} (h : Un ms env env') {ds : List Nat} (hd : ∀ t ∈ ds, t ∈ ms) : Un ms env (env'.junk ds) :=
  ⟨h.1, h.2, fun t ht => by
    show (if ds.contains t = true then AVal.junk else env'.t t) = _
    rw [if_neg fun hc => ht (hd t (by simpa using hc))]
    exact h.3 t ht⟩
theorem Un.put {ms : List Nat} {env env' : AEnv} (h : Un ms env env') {d : Option Nat} (hd : ∀ t, d = some t → t ∈ ms) (v : AVal) : Un ms env (env'.put d v) := by
  cases d with
  | none => exact h
  | some d =>
    refine ⟨h.n, h.ds, fun t ht => ?_⟩
    have : t ≠ d := fun e => ht (e ▸ hd d rfl)
    simp only [AEnv.put, AEnv.set, if_neg this]
    exact h.t t ht
def opMods (o : AOper) : List Nat := o.dst.toList
def modsOf : ACode → List Nat
  | .ops l | .dr l => l.flatMap opMods
  | .seq a b | .cond _ a b => modsOf a ++ modsOf b
  | .block _ a | .loop a => modsOf a
  | _ => []
def noDfr : ACode → Bool
  | .ops l | .dr l => l.all fun o => !isDfr o.op
  | .seq a b | .cond _ a b => noDfr a && noDfr b
  | .block _ a | .loop a => noDfr a
  | _ => true
section
variable {P : Program}
theorem OpW_mono {o : AOp} {env : AEnv} {σ : AHeap} {K K' X X' : AVal → AHeap → Prop} (hK : ∀ v s, K v s → K' v s) (hX : ∀ v s, X v s → X' v s) (h : OpW P o env σ K X) : OpW P o env σ K' X' := by
  have gen : (match opA o env σ with | some (v, σ') => K v σ' | none => False) → (match opA o env σ with | some (v, σ') => K' v σ' | none => False) := by
    intro h
    split at h
    · exact hK _ _ h
    · exact h.elim
  cases o with
  | callF f xs => exact RunV.mono h fun out s hq => by cases out <;> first | exact hK _ _ hq | exact hX _ _ hq
  | callV f xs => exact RunV.mono h fun out s hq => by cases out <;> first | exact hK _ _ hq | exact hX _ _ hq
  | callI f m xs => exact RunI.mono h fun out s hq => by cases out <;> first | exact hK _ _ hq | exact hX _ _ hq
  | panic x =>
    simp only [OpW] at h ⊢
    split at h
    · rename_i hx; exact hX _ _ h
    · exact h.elim
  | _ => exact gen h
theorem wpOps_un {rd : Option Nat} {ms : List Nat} {env0 : AEnv} {Q Q' : AExit → AEnv → AHeap → Prop} (hq : ∀ e env' σ', Un ms env0 env' → Q e env' σ' → Q' e env' σ') :
    ∀ (l : List AOper) (env : AEnv) (σ : AHeap), (∀ o ∈ l, isDfr o.op = false) → (∀ o ∈ l, ∀ t, o.dst = some t → t ∈ ms) → Un ms env0 env → Go.Tc.wpOps P rd l env σ Q → Go.Tc.wpOps P rd l env σ Q' := by
  intro l
  induction l with
  | nil => intro env σ _ _ hu h; exact hq _ _ _ hu h
  | cons o os ih =>
    intro env σ hd hm hu h
    have ih' := fun env σ hu h => ih env σ (fun o ho => hd o (by simp [ho])) (fun o ho => hm o (by simp [ho])) hu h
    have hput := fun v => hu.put (hm o (by simp)) v
    have hdo := hd o (by simp)
    simp only [Go.Tc.wpOps] at h ⊢
    split at h
    · have h2 : OpW P o.op env σ (fun v σ' => Go.Tc.wpOps P rd os (env.put o.dst v) σ' Q) (fun v σ' => Q (.panic v) env σ') := by
        unfold wpOne at h
        split at h
        · rename_i heq; rw [heq] at hdo; cases hdo
        · exact h
      have h3 := OpW_mono (K' := fun v σ' => Go.Tc.wpOps P rd os (env.put o.dst v) σ' Q') (X' := fun v σ' => Q' (.panic v) env σ') (fun v s hk => ih' _ _ (hput v) hk) (fun v s hk => hq _ _ _ hu hk) h2
      unfold wpOne
      split
      · rename_i heq; rw [heq] at hdo; cases hdo
      · exact h3
    · exact ih' _ _ (hput _) h
    · exact h
theorem wpDr_un {q st : List Nat} {ps : Nat → Nat → Bool} {ms : List Nat} {env0 : AEnv} {K K' : AEnv → AHeap → Prop} {X X' : Nat → AVal → AHeap → Prop} (hq : ∀ env' σ', Un ms env0 env' → K env' σ' → K' env' σ') (hx : ∀ i v σ', X i v σ' → X' i v σ') :
    ∀ (l : List AOper) (i : Nat) (env : AEnv) (σ : AHeap) (past : List (Nat × AHeap)) (pend : List (Nat × AOp × AEnv × AVal)), (∀ o ∈ l, ∀ t, o.dst = some t → t ∈ ms) → Un ms env0 env →
      wpDr P q st ps i l env σ past pend K X → wpDr P q st ps i l env σ past pend K' X' := by
  intro l
  induction l with
  | nil => intro i env σ past pend _ hu h; exact hq _ _ hu h
  | cons o os ih =>
    intro i env σ past pend hm hu h
    have ih' := fun i env σ past pend hu h => ih i env σ past pend (fun o ho => hm o (by simp [ho])) hu h
    have hput := fun v => hu.put (hm o (by simp)) v
    simp only [wpDr] at h ⊢
    split at h
    · exact OpW_mono (fun v s hk => ⟨hk.1, hk.2.1, hk.2.2.1, ih' _ _ _ _ _ (hput v) hk.2.2.2⟩) (fun _ _ hk => hx _ _ _ hk) h
    · exact ⟨h.1, ih' _ _ _ _ _ (hput _) h.2⟩
    · exact h
theorem pendA_mono {p : Option Code} {Q Q' : AExit → Prop} (h : ∀ e, Q e → Q' e) : pendA p Q → pendA p Q' := by
  cases p with
  | none => exact h _
  | some c => cases c <;> intro hk <;> first | exact h _ hk | exact hk
theorem wpA_un {ms : List Nat} {env0 : AEnv} : ∀ (a : ACode) (rd : Option Nat) (env : AEnv) (σ : AHeap) (Q Q' : AExit → AEnv → AHeap → Prop), noDfr a = true → (∀ t ∈ modsOf a, t ∈ ms) → Un ms env0 env →
    (∀ e env' σ', Un ms env0 env' → Q e env' σ' → Q' e env' σ') → wpA P a rd env σ Q → wpA P a rd env σ Q' := by
  intro a
  have dsts : ∀ {l : List AOper}, (∀ t ∈ l.flatMap opMods, t ∈ ms) → ∀ o ∈ l, ∀ t, o.dst = some t → t ∈ ms := fun h o ho t ht =>
    h t (List.mem_flatMap.2 ⟨o, ho, by simp [opMods, ht]⟩)
  induction a with
  | skip => intro rd env σ Q Q' _ _ hu hq h; exact hq _ _ _ hu h
  | ops l =>
    intro rd env σ Q Q' hd hm hu hq h
    exact wpOps_un hq l env σ (fun o ho => by have := List.all_eq_true.1 hd o ho; simpa using this) (dsts hm) hu h
  | dr l =>
    intro rd env σ Q Q' hd hm hu hq h
    have hj : ∀ t ∈ dstsOf l, t ∈ ms := fun t ht => by
      obtain ⟨o, ho, hd⟩ := List.mem_filterMap.1 ht
      exact dsts hm o ho t hd
    rcases h with ⟨q, st, h1, h2⟩ | ⟨q, st, h1, h2⟩
    · exact .inl ⟨q, st, h1, wpDr_un (fun env' σ' hu' hk => hq _ _ _ hu' hk) (fun i v s h => ⟨h.1, hq _ _ _ (hu.junk hj) h.2⟩) l 0 env σ _ _ (dsts hm) hu h2⟩
    · exact .inr ⟨q, st, h1, wpDr_un (fun env' σ' hu' hk => hq _ _ _ hu' hk) (fun i v s h => ⟨h.1, hq _ _ _ (hu.junk hj) h.2⟩) _ 0 env _ _ _ (fun o ho t ht => by
        obtain ⟨o', h3, h4⟩ := ghL_mem _ _ _ ho
        exact dsts hm o' h3 t (by rw [h4]; exact ht)) hu h2⟩
  | seq x y ihx ihy =>
    intro rd env σ Q Q' hd hm hu hq h
    simp only [noDfr, Bool.and_eq_true] at hd
    refine ihx rd env σ _ _ hd.1 (fun t ht => hm t (by simp [modsOf, ht])) hu (fun e env' σ' hu' hk => ?_) h
    cases e with
    | normal => exact ihy rd env' σ' Q Q' hd.2 (fun t ht => hm t (by simp [modsOf, ht])) hu' hq hk
    | exit id => exact hq _ _ _ hu' hk
    | goto l => exact hq _ _ _ hu' hk
    | ret => exact hq _ _ _ hu' hk
    | panic v => exact hq _ _ _ hu' hk
  | cond c x y ihx ihy =>
    intro rd env σ Q Q' hd hm hu hq h
    simp only [noDfr, Bool.and_eq_true] at hd
    simp only [wpA] at h ⊢
    split at h
    · exact ihx rd env σ Q Q' hd.1 (fun t ht => hm t (by simp [modsOf, ht])) hu hq h
    · exact ihy rd env σ Q Q' hd.2 (fun t ht => hm t (by simp [modsOf, ht])) hu hq h
    · exact h
  | block id x ih =>
    intro rd env σ Q Q' hd hm hu hq h
    refine ih rd env σ _ _ hd hm hu (fun e env' σ' hu' hk => ?_) h
    cases e with
    | exit id' =>
      simp only [blockA] at hk ⊢
      split at hk
      · rename_i he; rw [if_pos he]; exact hq _ _ _ hu' hk
      · rename_i he; rw [if_neg he]; exact hq _ _ _ hu' hk
    | normal => exact hq _ _ _ hu' hk
    | goto l => exact hq _ _ _ hu' hk
    | ret => exact hq _ _ _ hu' hk
    | panic v => exact hq _ _ _ hu' hk
  | loop x ih =>
    intro rd env σ Q Q' hd hm hu hq h
    obtain ⟨I, μ, h0, hs⟩ := h
    refine ⟨fun e s => I e s ∧ Un ms env0 e, μ, ⟨h0, hu⟩, fun env' σ' hn hI => ?_⟩
    refine ih rd env' σ' _ _ hd hm hI.2 (fun e env2 s2 hu' hk => ?_) (hs env' σ' hn hI.1)
    cases e with
    | normal => exact ⟨⟨hk.1, hu'⟩, hk.2⟩
    | exit id => exact hq _ _ _ hu' hk
    | goto l => exact hq _ _ _ hu' hk
    | ret => exact hq _ _ _ hu' hk
    | panic v => exact hq _ _ _ hu' hk
  | exit id => intro rd env σ Q Q' _ _ hu hq h; exact hq _ _ _ hu h
  | ret => intro rd env σ Q Q' _ _ hu hq h; exact hq _ _ _ hu h
  | rangeF f ps x y _ _ =>
    intro rd env σ Q Q' _ _ hu hq h
    obtain ⟨g, first, caps, h1, h2, h3, h4⟩ := h
    refine ⟨g, first, caps, h1, h2, h3, fun assign body ha hb => RunV.mono (h4 assign body ha hb) fun o s hk => ?_⟩
    cases o with
    | ret v =>
      obtain ⟨lo, k1, k2, k3⟩ := hk
      exact ⟨lo, k1, k2, pendA_mono (fun e he => hq e _ _ hu he) k3⟩
    | panic v => exact hq _ _ _ hu hk
def setMany (env : AEnv) : List Nat → List AVal → AEnv
  | m :: ms, v :: vs => setMany (env.set m v) ms vs
  | _, _ => env
theorem setMany_t : ∀ (ms : List Nat) (vs : List AVal) (env : AEnv), (setMany env ms vs).n = env.n ∧ (setMany env ms vs).ds = env.ds ∧ ∀ t, t ∉ ms → (setMany env ms vs).t t = env.t t := by
  intro ms
  induction ms with
  | nil => intro vs env; cases vs <;> exact ⟨rfl, rfl, fun _ _ => rfl⟩
  | cons m ms ih =>
    intro vs env
    cases vs with
    | nil => exact ⟨rfl, rfl, fun _ _ => rfl⟩
    | cons v vs =>
      obtain ⟨h1, h2, h3⟩ := ih vs (env.set m v)
      refine ⟨h1, h2, fun t ht => ?_⟩
      rw [List.mem_cons, not_or] at ht
      show (setMany (env.set m v) ms vs).t t = _
      rw [h3 t ht.2]
      simp only [AEnv.set, if_neg ht.1]
theorem setMany_same {f : Nat → AVal} : ∀ (ms : List Nat) (env : AEnv), ms.Nodup → ∀ t ∈ ms, (setMany env ms (ms.map f)).t t = f t := by
  intro ms
  induction ms with
  | nil => intro env _ t ht; simp at ht
  | cons m ms ih =>
    intro env hn t ht
    rw [List.nodup_cons] at hn
    show (setMany (env.set m (f m)) ms (ms.map f)).t t = _
    by_cases htm : t ∈ ms
    · exact ih _ hn.2 t htm
    · rw [(setMany_t ms _ _).2.2 t htm]
      rcases List.mem_cons.1 ht with rfl | h
      · simp [AEnv.set]
      · exact absurd h htm
theorem Un.eq {ms : List Nat} {env env' : AEnv} (h : Un ms env env') (hn : ms.Nodup) : env' = setMany env ms (ms.map env'.t) := by
  obtain ⟨n', t', ds'⟩ := env'
  have h1 := setMany_t ms (ms.map t') env
  cases hE : setMany env ms (ms.map t') with
  | mk n2 t2 ds2 =>
    rw [hE] at h1
    have e1 : n' = n2 := h.n.trans h1.1.symm
    have e3 : ds' = ds2 := h.ds.trans h1.2.1.symm
    have e2 : t' = t2 := by
      funext t
      by_cases ht : t ∈ ms
      · have := setMany_same (f := t') ms env hn t ht
        rw [hE] at this
        exact this.symm
      · exact (h.t t ht).trans (h1.2.2 t ht).symm
    subst e1; subst e2; subst e3
    rfl
theorem A_loop {a : ACode} {rd : Option Nat} {env : AEnv} {σ : AHeap} {Q : AExit → AEnv → AHeap → Prop} (ms : List Nat) (I : List AVal → AHeap → Prop) (μ : List AVal → AHeap → Nat)
    (hms : (noDfr a && (modsOf a).all (fun t => ms.contains t) && decide ms.Nodup) = true) (h0 : I (ms.map env.t) σ)
    (hs : ∀ vs σ', vs.length = ms.length → I vs σ' → wpA P a rd (setMany env ms vs) σ' (thenA (fun e2 s2 => I (ms.map e2.t) s2 ∧ μ (ms.map e2.t) s2 < μ vs σ') Q)) : wpA P (.loop a) rd env σ Q := by
  simp only [Bool.and_eq_true, decide_eq_true_eq] at hms
  obtain ⟨⟨hd, hm⟩, hnd⟩ := hms
  have hm' : ∀ t ∈ modsOf a, t ∈ ms := fun t ht => by have := List.all_eq_true.1 hm t ht; simpa using this
  refine ⟨fun e s => Un ms env e ∧ I (ms.map e.t) s, fun e s => μ (ms.map e.t) s, ⟨.refl _ _, h0⟩, fun env' σ' hn hI => ?_⟩
  have he := hI.1.eq hnd
  have := hs (ms.map env'.t) σ' (by simp) hI.2
  rw [← he] at this
  refine wpA_un (ms := ms) (env0 := env) a rd env' σ' _ _ hd hm' hI.1 (fun e env2 s2 hu hk => ?_) this
  cases e with
  | normal => exact ⟨⟨hu, hk.1⟩, hk.2⟩
  | exit id => exact hk
  | goto l => exact hk
  | ret => exact hk
  | panic v => exact hk
def setF (env : AEnv) (ms : List Nat) (f : Nat → AVal) : AEnv := { env with t := fun i => bif ms.contains i then f i else env.t i }
theorem setF_get {env : AEnv} {ms : List Nat} {f : Nat → AVal} {i : Nat} : (setF env ms f).t i = bif ms.contains i then f i else env.t i := id rfl
theorem setF_ds {env : AEnv} {ms : List Nat} {f : Nat → AVal} : (setF env ms f).ds = env.ds := id rfl
theorem Un.eqF {ms : List Nat} {env env' : AEnv} (h : Un ms env env') : env' = setF env ms env'.t := by
  obtain ⟨n', t', ds'⟩ := env'
  have e1 : n' = env.n := h.n
  have e3 : ds' = env.ds := h.ds
  subst e1; subst e3
  unfold setF
  congr 1
  funext t
  cases hc : ms.contains t with
  | true => rfl
  | false =>
    have ht : t ∉ ms := by simpa using hc
    exact h.t t ht
theorem A_loopF {a : ACode} {rd : Option Nat} {env : AEnv} {σ : AHeap} {Q : AExit → AEnv → AHeap → Prop} (ms : List Nat) (I : (Nat → AVal) → AHeap → Prop) (μ : (Nat → AVal) → AHeap → Nat)
    (hms : (noDfr a && (modsOf a).all (fun t => ms.contains t)) = true) (h0 : I env.t σ)
    (hs : ∀ f σ', I f σ' → wpA P a rd (setF env ms f) σ' (thenA (fun e2 s2 => I e2.t s2 ∧ μ e2.t s2 < μ f σ') Q)) : wpA P (.loop a) rd env σ Q := by
  simp only [Bool.and_eq_true] at hms
  obtain ⟨hd, hm⟩ := hms
  have hm' : ∀ t ∈ modsOf a, t ∈ ms := fun t ht => by have := List.all_eq_true.1 hm t ht; simpa using this
  refine ⟨fun e s => Un ms env e ∧ I e.t s, fun e s => μ e.t s, ⟨.refl _ _, h0⟩, fun env' σ' hn hI => ?_⟩
  have he := hI.1.eqF
  have := hs env'.t σ' hI.2
  rw [← he] at this
  refine wpA_un (ms := ms) (env0 := env) a rd env' σ' _ _ hd hm' hI.1 (fun e env2 s2 hu hk => ?_) this
  cases e with
  | normal => exact ⟨⟨hu, hk.1⟩, hk.2⟩
  | exit id => exact hk
  | goto l => exact hk
  | ret => exact hk
  | panic v => exact hk
end
end Go.Tc
namespace Go.Tc
set_option linter.unusedSimpArgs false
section
variable {P : Program} {q st : List Nat} {ps : Nat → Nat → Bool} {i : Nat} {os : List AOper} {d : Option Nat} {a : List Nat} {env : AEnv} {σ : AHeap} {past : List (Nat × AHeap)} {pend : List (Nat × AOp × AEnv × AVal)} {K : AEnv → AHeap → Prop} {X : Nat → AVal → AHeap → Prop}
theorem D_nil : wpDr P q st ps i [] env σ past pend K X = K env σ := id rfl
theorem m2_congr {x : Option (AVal × AHeap)} {K K' : AVal → AHeap → Prop} (h : ∀ v s, K v s = K' v s) : m2 x K = m2 x K' := by
  cases x with
  | none => rfl
  | some p => exact h _ _
theorem OpW_plain {op : AOp} (h : plainOp op = true) {X : AVal → AHeap → Prop} {K : AVal → AHeap → Prop} : OpW P op env σ K X = m2 (opA op env σ) K := by
  cases op <;> first | (cases h; done) | rfl
theorem D_no {op : AOp} (h : plainOp op = true) (he : effOf (q.contains i) op = .no) : wpDr P q st ps i (⟨d, op, none, a⟩ :: os) env σ past pend K X = m2 (opA op env σ) fun v σ' => wpDr P q st ps (i + 1) os (env.put d v) σ' past pend K X := by
  have hs : isSt q st i ⟨d, op, none, a⟩ = false := by simp only [isSt, he]; simp
  simp only [wpDr, gOk, OpW_plain h, hs, he]
  exact m2_congr fun v s => by simp
theorem D_rd {op : AOp} (h : plainOp op = true) (he : effOf (q.contains i) op = .rd) (hst : st.contains i = false) : wpDr P q st ps i (⟨d, op, none, a⟩ :: os) env σ past pend K X = m2 (opA op env σ) fun v σ' => σ' = σ ∧ wpDr P q st ps (i + 1) os (env.put d v) σ' past pend K X := by
  have hs : isSt q st i ⟨d, op, none, a⟩ = false := by simp only [isSt, hst, Bool.false_and]
  simp only [wpDr, gOk, OpW_plain h, hs, he]
  exact m2_congr fun v s => by simp
theorem D_wr {op : AOp} (h : plainOp op = true) (he : effOf (q.contains i) op = .wr) : wpDr P q st ps i (⟨d, op, none, a⟩ :: os) env σ past pend K X = m2 (opA op env σ) fun v σ' =>
    (∀ p ∈ pend, ps p.1 (i + 1) = true → Same P p.2.1 p.2.2.1 σ' p.2.2.2) ∧ wpDr P q st ps (i + 1) os (env.put d v) σ' ((i + 1, σ') :: past) pend K X := by
  have hs : isSt q st i ⟨d, op, none, a⟩ = false := by simp only [isSt, he]; simp
  simp only [wpDr, gOk, OpW_plain h, hs, he]
  exact m2_congr fun v s => by simp
theorem D_callF {f : FuncId} {xs : List Opnd} (hq : q.contains i = true) (hst : st.contains i = false) : wpDr P q st ps i (⟨d, .callF f xs, none, a⟩ :: os) env σ past pend K X =
    RunV P (.func (.func f) [] []) (xs.map env.ev) σ (outK (fun v σ' => σ' = σ ∧ wpDr P q st ps (i + 1) os (env.put d v) σ' past pend K X) (fun v σ' => X i v σ')) := by
  have he : effOf (q.contains i) (.callF f xs) = .rd := by simp only [effOf, hq, if_true]
  have hs : isSt q st i ⟨d, .callF f xs, none, a⟩ = false := by simp only [isSt, hst, Bool.false_and]
  simp only [wpDr, gOk, OpW, hs, he]
  congr 1
  funext o s
  cases o <;> simp [outK]
end
end Go.Tc
namespace Go.Tc
set_option linter.unusedSimpArgs false
section
variable {σ : AHeap} {N m k : Nat} {row : List AVal}
theorem ld1 (h : σ.objs N = some (.cells m [row])) : loadA σ false 1 (.ptr N 0 k) = row[k]? := by
  simp only [loadA, Go.Tc.rowAt, h, List.getElem?_cons_zero, Option.map_some, partA, Bool.false_eq_true, if_false]
theorem ldN {n : Nat} (h : σ.objs N = some (.cells m [row])) (hk : k + n ≤ row.length) : loadA σ true n (.ptr N 0 k) = some (.agg ((row.drop k).take n)) := by
  simp only [loadA, Go.Tc.rowAt, h, List.getElem?_cons_zero, Option.map_some, partA, if_true, hk]
theorem st1 {n : Nat} {v : AVal} (h : σ.objs N = some (.cells m [row])) (hn : v.cells.length = n) (hk : k + n ≤ row.length) (h1 : v.cells.all AVal.one = true) :
    storeA σ n (.ptr N 0 k) v = some (σ.set N (.cells m [splice row k v.cells])) := by
  simp only [storeA, h, List.getElem?_cons_zero]
  rw [if_pos ⟨hn, hk, h1⟩]
  rfl
theorem addr_ptr {off : Nat} {i : Nat} : addrOf off (.ptr N i k) = some (.ptr N i (k + off)) := id rfl
end
end Go.Tc
namespace Go.Tc
section
variable {rs : List ARes} {Q : AOut → AHeap → Prop} {env : AEnv} {σ : AHeap}
theorem retA_ret : retA rs Q .ret env σ = (env.ds = [] ∧ (match resAs env σ rs with | some vs => Q (.ret (tupA vs)) σ | none => False)) := id rfl
theorem retA_normal : retA rs Q .normal env σ = (env.ds = [] ∧ (match resAs env σ rs with | some vs => Q (.ret (tupA vs)) σ | none => False)) := id rfl
theorem resAs_nil : resAs env σ [] = some [] := id rfl
theorem resAs_t {n : Nat} : resAs env σ (.t n :: rs) = (resAs env σ rs).map (env.t n :: ·) := id rfl
theorem tupA_one {v : AVal} : tupA [v] = v := id rfl
theorem tupA_nil : tupA [] = .tup [] := id rfl
theorem tupA_two {v w : AVal} {vs : List AVal} : tupA (v :: w :: vs) = .tup (v :: w :: vs) := id rfl
end
theorem STEP : type_of% (And.intro @L_nil (And.intro @L_op (And.intro @L_callF (And.intro @L_callV (And.intro @ev_t (And.intro @ev_c (And.intro @ev_f (And.intro @A_skip (And.intro @A_seq (And.intro @A_ops (And.intro @A_ret (And.intro @A_exit (And.intro @A_block (And.intro @th_normal (And.intro @th_ret (And.intro @th_exit (And.intro @th_panic (And.intro @bl_normal (And.intro @bl_ret (And.intro @bl_panic (And.intro @bl_exit (And.intro @put_some (And.intro @put_none (And.intro @set_get (And.intro @set_ds (And.intro @env0_get (And.intro @env0_ds (And.intro @m2_some (And.intro @m2_map (And.intro @setF_get (And.intro @setF_ds (And.intro @pl_mv (And.intro @pl_pick (And.intro @pl_alloc (And.intro @pl_box (And.intro @pl_build (And.intro @pl_buildS (And.intro @pl_load (And.intro @pl_store (And.intro @pl_nilck (And.intro @pl_bin (And.intro @pl_un (And.intro @pl_conv (And.intro @pl_mkI (And.intro @pl_mkF (And.intro @pl_mkM (And.intro @pl_mkS (And.intro @pl_slS (And.intro @pl_slStr (And.intro @pl_slA (And.intro @pl_fa (And.intro @pl_fld (And.intro @pl_ixA (And.intro @pl_ixS (And.intro @pl_ixV (And.intro @pl_ixStr (And.intro @pl_look (And.intro @pl_upd (And.intro @pl_rngStr (And.intro @pl_nextStr (And.intro @pl_tas (And.intro @pl_ext (And.intro @pl_lenStr (And.intro @pl_lenS (And.intro @pl_lenM (And.intro @pl_lenA (And.intro @pl_app (And.intro @pl_cpy (And.intro @pl_mx (And.intro @pl_mn (And.intro @o_mv (And.intro @o_bin (And.intro @o_un (And.intro @o_alloc (And.intro @o_build (And.intro @o_load (And.intro @o_store (And.intro @o_fa (And.intro @o_slS (And.intro @o_lenS (And.intro @o_app (And.intro @o_cpy (And.intro @o_mkF (And.intro @o_mkI (And.intro @o_mkM (And.intro @o_nilck (And.intro @b_lss (And.intro @b_leq (And.intro @b_gtr (And.intro @b_geq (And.intro @b_eql (And.intro @b_neq (And.intro @b_add (And.intro @b_sub (@b_mul))))))))))))))))))))))))))))))))))))))))))))))))))))))))))))))))))))))))))))))))))))))))))))))) := And.intro @L_nil (And.intro @L_op (And.intro @L_callF (And.intro @L_callV (And.intro @ev_t (And.intro @ev_c (And.intro @ev_f (And.intro @A_skip (And.intro @A_seq (And.intro @A_ops (And.intro @A_ret (And.intro @A_exit (And.intro @A_block (And.intro @th_normal (And.intro @th_ret (And.intro @th_exit (And.intro @th_panic (And.intro @bl_normal (And.intro @bl_ret (And.intro @bl_panic (And.intro @bl_exit (And.intro @put_some (And.intro @put_none (And.intro @set_get (And.intro @set_ds (And.intro @env0_get (And.intro @env0_ds (And.intro @m2_some (And.intro @m2_map (And.intro @setF_get (And.intro @setF_ds (And.intro @pl_mv (And.intro @pl_pick (And.intro @pl_alloc (And.intro @pl_box (And.intro @pl_build (And.intro @pl_buildS (And.intro @pl_load (And.intro @pl_store (And.intro @pl_nilck (And.intro @pl_bin (And.intro @pl_un (And.intro @pl_conv (And.intro @pl_mkI (And.intro @pl_mkF (And.intro @pl_mkM (And.intro @pl_mkS (And.intro @pl_slS (And.intro @pl_slStr (And.intro @pl_slA (And.intro @pl_fa (And.intro @pl_fld (And.intro @pl_ixA (And.intro @pl_ixS (And.intro @pl_ixV (And.intro @pl_ixStr (And.intro @pl_look (And.intro @pl_upd (And.intro @pl_rngStr (And.intro @pl_nextStr (And.intro @pl_tas (And.intro @pl_ext (And.intro @pl_lenStr (And.intro @pl_lenS (And.intro @pl_lenM (And.intro @pl_lenA (And.intro @pl_app (And.intro @pl_cpy (And.intro @pl_mx (And.intro @pl_mn (And.intro @o_mv (And.intro @o_bin (And.intro @o_un (And.intro @o_alloc (And.intro @o_build (And.intro @o_load (And.intro @o_store (And.intro @o_fa (And.intro @o_slS (And.intro @o_lenS (And.intro @o_app (And.intro @o_cpy (And.intro @o_mkF (And.intro @o_mkI (And.intro @o_mkM (And.intro @o_nilck (And.intro @b_lss (And.intro @b_leq (And.intro @b_gtr (And.intro @b_geq (And.intro @b_eql (And.intro @b_neq (And.intro @b_add (And.intro @b_sub (@b_mul))))))))))))))))))))))))))))))))))))))))))))))))))))))))))))))))))))))))))))))))))))))))))))))
theorem RETS : type_of% (And.intro @retA_normal (And.intro @retA_ret (And.intro @resAs_nil (And.intro @resAs_t (And.intro @tupA_one (And.intro @tupA_nil (@tupA_two))))))) := And.intro @retA_normal (And.intro @retA_ret (And.intro @resAs_nil (And.intro @resAs_t (And.intro @tupA_one (And.intro @tupA_nil (@tupA_two))))))
end Go.Tc
namespace Go.Tc
set_option linter.unusedSimpArgs false
structure Hold (A : Prop) : Type where
structure HoldK (K : AVal → AHeap → Prop) : Type where
structure HoldQ (Q : AExit → AEnv → AHeap → Prop) : Type where
def condK (v : AVal) (A B : Prop) (_ : Hold A) (_ : Hold B) : Prop := match v with | .bool b => if b = true then A else B | _ => False
def guardK (v : AVal) (b : Bool) (A B : Prop) (_ : Hold A) (_ : Hold B) : Prop := match v with | .bool x => if x = b then A else B | .tup [] => B | _ => False
def k1 (o : Option AVal) (σ : AHeap) (K : AVal → AHeap → Prop) (_ : HoldK K) : Prop := match o with | some v => K v σ | none => False
def k2 (o : Option (AVal × AHeap)) (K : AVal → AHeap → Prop) (_ : HoldK K) : Prop := match o with | some (v, σ) => K v σ | none => False
def callK (P : Program) (fv : AVal) (zs : List AVal) (σ : AHeap) (K X : AVal → AHeap → Prop) (_ : HoldK K) (_ : HoldK X) : Prop := RunV P fv zs σ (outK K X)
structure HoldC (c : ACode) : Type where
def loopK (P : Program) (c : ACode) (_ : HoldC c) (rd : Option Nat) (env : AEnv) (σ : AHeap) (Q : AExit → AEnv → AHeap → Prop) (_ : HoldQ Q) : Prop := wpA P (.loop c) rd env σ Q
section
variable {P : Program} {rd : Option Nat} {os : List AOper} {d : Option Nat} {a : List Nat} {env : AEnv} {σ : AHeap} {Q : AExit → AEnv → AHeap → Prop}
theorem A_condK {c : Opnd} {x y : ACode} : wpA P (.cond c x y) rd env σ Q = condK (env.ev c) (wpA P x rd env σ Q) (wpA P y rd env σ Q) {} {} := by
  simp only [wpA, condK]
  cases env.ev c with
  | bool b => cases b <;> rfl
  | _ => rfl
theorem A_loopK {c : ACode} : wpA P (.loop c) rd env σ Q = loopK P c {} rd env σ Q {} := id rfl
theorem L_guardK {op : AOp} {t : Nat} {b : Bool} : Go.Tc.wpOps P rd (⟨d, op, some (t, b), a⟩ :: os) env σ Q =
    guardK (env.t t) b (Go.Tc.wpOps P rd (⟨d, op, none, a⟩ :: os) env σ Q) (Go.Tc.wpOps P rd os (env.put d (.tup [])) σ Q) {} {} := by
  simp only [Go.Tc.wpOps, gOk, guardK]
  cases env.t t with
  | bool v => cases v <;> cases b <;> rfl
  | tup vs => cases vs <;> rfl
  | _ => rfl
theorem L_callFK {f : FuncId} {xs : List Opnd} : Go.Tc.wpOps P rd (⟨d, .callF f xs, none, a⟩ :: os) env σ Q =
    callK P (.func (.func f) [] []) (xs.map env.ev) σ (fun v σ' => Go.Tc.wpOps P rd os (env.put d v) σ' Q) (fun v σ' => Q (.panic v) env σ') {} {} := id rfl
theorem L_callVK {f : Opnd} {xs : List Opnd} : Go.Tc.wpOps P rd (⟨d, .callV f xs, none, a⟩ :: os) env σ Q =
    callK P (env.ev f) (xs.map env.ev) σ (fun v σ' => Go.Tc.wpOps P rd os (env.put d v) σ' Q) (fun v σ' => Q (.panic v) env σ') {} {} := id rfl
end
section
variable {p : Prop} {_ : Decidable p} {A B : Prop}
theorem B_if (h1 : p → A) (h2 : ¬ p → B) : condK (.bool (decide p)) A B {} {} := by
  unfold condK
  by_cases h : p
  · simp only [h, decide_true, if_true]; exact h1 h
  · simp only [h, decide_false, Bool.false_eq_true, if_false]; exact h2 h
theorem B_ifb {b : Bool} (h1 : b = true → A) (h2 : b = false → B) : condK (.bool b) A B {} {} := by
  unfold condK
  cases b
  · exact h2 rfl
  · exact h1 rfl
theorem condK_true : condK (.bool true) A B {} {} = A := by simp [condK]
theorem condK_false : condK (.bool false) A B {} {} = B := by simp [condK]
theorem condK_pos (h : p) : condK (.bool (decide p)) A B {} {} = A := by simp [condK, h]
theorem condK_neg (h : ¬ p) : condK (.bool (decide p)) A B {} {} = B := by simp [condK, h]
theorem G_if {b : Bool} (h1 : (decide p) = b → A) (h2 : (decide p) = !b → B) : guardK (.bool (decide p)) b A B {} {} := by
  unfold guardK
  by_cases h : decide p = b
  · simp only [h, if_true]; exact h1 h
  · simp only [h, if_false]; exact h2 (by cases b <;> simp_all)
theorem G_true (h1 : p → A) (h2 : ¬ p → B) : guardK (.bool (decide p)) true A B {} {} := by
  unfold guardK
  by_cases h : p
  · simp only [h, decide_true, if_true]; exact h1 h
  · simp only [h, decide_false, Bool.false_eq_true, if_false]; exact h2 h
theorem G_false (h1 : ¬ p → A) (h2 : p → B) : guardK (.bool (decide p)) false A B {} {} := by
  unfold guardK
  by_cases h : p
  · simp only [h, decide_true, Bool.true_eq_false, if_false]; exact h2 h
  · simp only [h, decide_false, if_true]; exact h1 h
theorem G_ifb {b x : Bool} (h1 : x = b → A) (h2 : x = !b → B) : guardK (.bool x) b A B {} {} := by
  unfold guardK
  by_cases h : x = b
  · simp only [h, if_true]; exact h1 h
  · simp only [h, if_false]; exact h2 (by cases b <;> simp_all)
theorem guardK_u {b : Bool} : guardK (.tup []) b A B {} {} = B := id rfl
theorem guardK_nf (h : ¬ p) : guardK (.bool (decide p)) false A B {} {} = A := by simp [guardK, h]
theorem guardK_pf (h : p) : guardK (.bool (decide p)) false A B {} {} = B := by simp [guardK, h]
theorem guardK_nt (h : ¬ p) : guardK (.bool (decide p)) true A B {} {} = B := by simp [guardK, h]
theorem guardK_pt (h : p) : guardK (.bool (decide p)) true A B {} {} = A := by simp [guardK, h]
theorem guardK_tt : guardK (.bool true) true A B {} {} = A := by simp [guardK]
theorem guardK_ff : guardK (.bool false) false A B {} {} = A := by simp [guardK]
theorem guardK_tf : guardK (.bool true) false A B {} {} = B := by simp [guardK]
theorem guardK_ft : guardK (.bool false) true A B {} {} = B := by simp [guardK]
end
theorem dor {p q : Prop} [Decidable p] [Decidable q] : (decide p || decide q) = decide (p ∨ q) := by simp
theorem dand {p q : Prop} [Decidable p] [Decidable q] : (decide p && decide q) = decide (p ∧ q) := by simp
theorem dnot {p : Prop} [Decidable p] : (!decide p) = decide (¬ p) := by simp
def pickV (c a b : AVal) : Option AVal := match c with | .bool t => some (if t then a else b) | _ => none
def ixSV (m : Nat) (x i : AVal) : Option AVal := match i with | .int _ i => ixSA m x i | _ => none
def ixAV (len m : Nat) (x i : AVal) : Option AVal := match i with | .int _ i => (idx i len).bind fun j => addrOf (j * m) x | _ => none
def boxV (x : AVal) (σ : AHeap) : Option (AVal × AHeap) := if x.cells.all AVal.one then some (.ptr σ.next 0 0, σ.alloc (.cells x.cells.length [x.cells])) else none
def boxV' (x : AVal) (σ : AHeap) : Option (AVal × AHeap) := boxV x σ
def mkSV (z : List AVal) (bytes : Nat) (l c : AVal) (σ : AHeap) : Option (AVal × AHeap) := match l, c with
    | .int _ l, .int _ c => if 0 ≤ l ∧ l ≤ c ∧ c * bytes ≤ 70368744177664 ∧ c ≤ 70368744177664 then
        some (.ms z.length σ.next 0 l.toNat (l == c), σ.alloc (.cells z.length (List.replicate l.toNat z))) else none
    | _, _ => none
def fldV (agg : Bool) (n off : Nat) (x : AVal) : Option AVal := match x with | .agg cs => partA agg n off cs | _ => none
def extV (x : AVal) (i : Nat) : Option AVal := match x with | .tup vs => vs[i]? | _ => none
def convV (c : Cv) (x : AVal) : Option AVal := match c, x with
    | .int k, .int _ n => some (.int k (k.wrap n))
    | .id, .str s => some (.str s)
    | .strOfInt, .int _ n => some (.str (Utf8.encode n))
    | _, _ => none
def lookV (σ : AHeap) (K : KT) (z x i : AVal) (ok : Bool) : Option AVal := match mapAt σ K x, toKey K i with
    | some (f, _), some k => some (if ok then .tup [(f k).getD z, .bool (f k).isSome] else (f k).getD z)
    | _, _ => none
def updV (σ : AHeap) (K : KT) (m i x : AVal) : Option (AVal × AHeap) := match m, toKey K i with
    | .map N, some k => (match σ.objs N with
      | some (.map K' f n) => if K' = K then some (.tup [], σ.set N (.map K (mput f k x) (if (f k).isSome then n else n + 1))) else none
      | _ => none)
    | _, _ => none
def lenStrV (x : AVal) : Option AVal := match x with | .str s => some (.int .i64 s.size) | _ => none
def nilV (x : AVal) : Option AVal := match x with | .ptr .. | .rptr .. | .func (.func _) .. | .iface .. => some x | _ => none
def ixStrV (x i : AVal) : Option AVal := match x, i with
    | .str s, .int _ i => if 0 ≤ i then (s[i.toNat]?).map fun b => .int .u8 b.toNat else none
    | _, _ => none
section
variable {env : AEnv} {σ : AHeap}
theorem p_pick {c x y : Opnd} : opA (.pick c x y) env σ = (pickV (env.ev c) (env.ev x) (env.ev y)).map (·, σ) := by
  simp only [opA, pickV]; cases env.ev c <;> rfl
theorem p_ixS {m : Nat} {x i : Opnd} : opA (.ixS m x i) env σ = (ixSV m (env.ev x) (env.ev i)).map (·, σ) := by
  simp only [opA, ixSV]; cases env.ev i <;> rfl
theorem p_ixA {l m : Nat} {x i : Opnd} : opA (.ixA l m x i) env σ = (ixAV l m (env.ev x) (env.ev i)).map (·, σ) := by
  simp only [opA, ixAV]; cases env.ev i <;> rfl
theorem p_box {x : Opnd} : opA (.box x) env σ = boxV (env.ev x) σ := id rfl
theorem p_mkS {z : List AVal} {b : Nat} {l c : Opnd} : opA (.mkS z b l c) env σ = mkSV z b (env.ev l) (env.ev c) σ := id rfl
theorem p_fld {agg : Bool} {n off : Nat} {x : Opnd} : opA (.fld agg n off x) env σ = (fldV agg n off (env.ev x)).map (·, σ) := by
  simp only [opA, fldV]; cases env.ev x <;> rfl
theorem p_ext {x : Opnd} {i : Nat} : opA (.ext x i) env σ = (extV (env.ev x) i).map (·, σ) := by
  simp only [opA, extV]; cases env.ev x <;> rfl
theorem p_conv {c : Cv} {x : Opnd} : opA (.conv c x) env σ = (convV c (env.ev x)).map (·, σ) := by
  simp only [opA, convV]; cases c <;> cases env.ev x <;> rfl
theorem p_look {K : KT} {z : AVal} {x i : Opnd} {ok : Bool} : opA (.look K z x i ok) env σ = (lookV σ K z (env.ev x) (env.ev i) ok).map (·, σ) := by
  simp only [opA, lookV]
  cases mapAt σ K (env.ev x) <;> cases toKey K (env.ev i) <;> rfl
theorem p_upd {K : KT} {m i x : Opnd} : opA (.upd K m i x) env σ = updV σ K (env.ev m) (env.ev i) (env.ev x) := id rfl
theorem p_lenStr {x : Opnd} : opA (.lenStr x) env σ = (lenStrV (env.ev x)).map (·, σ) := by
  simp only [opA, lenStrV]; cases env.ev x <;> rfl
theorem p_nilck {x : Opnd} : opA (.nilck x) env σ = (nilV (env.ev x)).map (·, σ) := by
  simp only [opA, nilV]
  cases env.ev x with
  | func fn a b => cases fn <;> rfl
  | _ => rfl
theorem p_ixStr {x i : Opnd} : opA (.ixStr x i) env σ = (ixStrV (env.ev x) (env.ev i)).map (·, σ) := by
  simp only [opA, ixStrV]
  cases env.ev x <;> cases env.ev i <;> rfl
theorem p_b2s {x : Opnd} : opA (.b2s x) env σ = ((b2sA σ (env.ev x)).map AVal.str).map (·, σ) := id rfl
theorem p_lenM {x : Opnd} : opA (.lenM x) env σ = ((mapLen σ (env.ev x)).map fun n : Nat => AVal.int .i64 (n : Int)).map (·, σ) := id rfl
theorem p_mx2 {x y : Opnd} : opA (.mx [x, y]) env σ = (maxI (env.ev x) (env.ev y)).map (·, σ) := by
  simp only [opA, List.map_cons, List.map_nil, foldO]
  cases maxI (env.ev x) (env.ev y) <;> rfl
theorem p_mn2 {x y : Opnd} : opA (.mn [x, y]) env σ = (minI (env.ev x) (env.ev y)).map (·, σ) := by
  simp only [opA, List.map_cons, List.map_nil, foldO]
  cases minI (env.ev x) (env.ev y) <;> rfl
theorem p_lenA {n : Nat} : opA (.lenA n) env σ = some (.int .i64 n, σ) := id rfl
theorem p_slA {n m : Nat} {x : Opnd} : opA (.slA n m x none none) env σ = (slAA n m (env.ev x)).map (·, σ) := id rfl
theorem m2_opt {o : Option AVal} {v : AVal} {K : AVal → AHeap → Prop} (h : o = some v) : m2 (o.map (·, σ)) K = K v σ := by rw [h]; rfl
theorem p_buildS {m : Nat} {z : List AVal} {len : Nat} {ps : List (Nat × Opnd)} :
    opA (.buildS m z len ps) env σ = (fillRows m (List.replicate len z) (ps.map fun p => (p.1, env.ev p.2))).map (fun rows => (.ms m σ.next 0 len true, σ.alloc (.cells m rows))) := by
  simp only [opA]; cases fillRows m (List.replicate len z) (ps.map fun p => (p.1, env.ev p.2)) <;> rfl
end
section
variable {σ : AHeap} {k : IntKind} {x y : Int} {A B v : AVal}
theorem pick_true : pickV (.bool true) A B = some A := id rfl
theorem pick_false : pickV (.bool false) A B = some B := id rfl
theorem pick_pos {p : Prop} [Decidable p] (h : p) : pickV (.bool (decide p)) A B = some A := by simp [pickV, h]
theorem pick_neg {p : Prop} [Decidable p] (h : ¬ p) : pickV (.bool (decide p)) A B = some B := by simp [pickV, h]
theorem pick_or {p q : Prop} [Decidable p] [Decidable q] : pickV (.bool (decide p)) (.bool true) (.bool (decide q)) = some (.bool (decide (p ∨ q))) := by
  by_cases h : p <;> simp [pickV, h]
theorem ixSV_int {m : Nat} : ixSV m v (.int k x) = ixSA m v x := id rfl
theorem fldV_agg {agg : Bool} {n off : Nat} {cs : List AVal} : fldV agg n off (.agg cs) = partA agg n off cs := id rfl
theorem extV_tup {vs : List AVal} {i : Nat} : extV (.tup vs) i = vs[i]? := id rfl
theorem convV_int {k' : IntKind} : convV (.int k') (.int k x) = some (.int k' (k'.wrap x)) := id rfl
theorem maxI_int : maxI (.int k x) (.int k y) = some (.int k (max x y)) := by simp [maxI]
theorem minI_int : minI (.int k x) (.int k y) = some (.int k (min x y)) := by simp [minI]
theorem neg_int : unA .neg (.int k x) = some (.int k (k.wrap (0 - x))) := id rfl
theorem not_bool {b : Bool} : unA .not (.bool b) = some (.bool (!b)) := id rfl
theorem mkSV_int {z : List AVal} {b : Nat} {k' : IntKind} (h0 : 0 ≤ x) (h1 : x ≤ y) (h2 : y * b ≤ 70368744177664) (h3 : y ≤ 70368744177664) :
    mkSV z b (.int k x) (.int k' y) σ = some (.ms z.length σ.next 0 x.toNat (x == y), σ.alloc (.cells z.length (List.replicate x.toNat z))) := by
  simp only [mkSV]; rw [if_pos ⟨h0, h1, h2, h3⟩]
theorem boxV_one (h : v.cells.all AVal.one = true) : boxV v σ = some (.ptr σ.next 0 0, σ.alloc (.cells v.cells.length [v.cells])) := by simp only [boxV, h, if_true]
theorem boxV_int : boxV (.int k x) σ = some (.ptr σ.next 0 0, σ.alloc (.cells 1 [[.int k x]])) := id rfl
theorem boxV_agg {cs : List AVal} (h : cs.all AVal.one = true) : boxV (.agg cs) σ = some (.ptr σ.next 0 0, σ.alloc (.cells cs.length [cs])) := boxV_one (v := .agg cs) h
theorem part1 {n off : Nat} {cs : List AVal} : partA false n off cs = cs[off]? := id rfl
theorem partN {n off : Nat} {cs : List AVal} (h : off + n ≤ cs.length) : partA true n off cs = some (.agg ((cs.drop off).take n)) := by simp only [partA, if_true, h]
theorem nil_eq_ms {m N i len : Nat} {ex : Bool} : binA .eql .slice (.ms m N i len ex) .nilS = some (.bool false) := id rfl
theorem nil_eq_rs {m i len : Nat} {rows : List (List AVal)} {ex : Bool} : binA .eql .slice (.rs m rows i len ex) .nilS = some (.bool false) := id rfl
theorem nil_eq_nil : binA .eql .slice .nilS .nilS = some (.bool true) := id rfl
theorem nilV_ptr {N i j : Nat} : nilV (.ptr N i j) = some (.ptr N i j) := id rfl
theorem nilV_rptr {m i j : Nat} {rows : List (List AVal)} : nilV (.rptr m rows i j) = some (.rptr m rows i j) := id rfl
theorem len_ms {m N i len : Nat} {ex : Bool} : lenOfS (.ms m N i len ex) = some len := id rfl
theorem len_rs {m i len : Nat} {rows : List (List AVal)} {ex : Bool} : lenOfS (.rs m rows i len ex) = some len := id rfl
theorem len_nil : lenOfS .nilS = some 0 := id rfl
theorem ix_ms {m N r len : Nat} {ex : Bool} (h0 : 0 ≤ x) (h1 : x < len) : ixSA m (.ms m N r len ex) x = some (.ptr N (r + x.toNat) 0) := by
  simp only [ixSA, if_true, idx]; rw [if_pos ⟨h0, h1⟩]; rfl
theorem ix_rs {m r len : Nat} {rows : List (List AVal)} {ex : Bool} (h0 : 0 ≤ x) (h1 : x < len) : ixSA m (.rs m rows r len ex) x = some (.rptr m rows (r + x.toNat) 0) := by
  simp only [ixSA, if_true, idx]; rw [if_pos ⟨h0, h1⟩]; rfl
theorem addr_rptr {m i j off : Nat} {rows : List (List AVal)} : addrOf off (.rptr m rows i j) = some (.rptr m rows i (j + off)) := id rfl
theorem b_quo' {e : EqT} (h : y ≠ 0) : binA .quo e (.int k x) (.int k y) = some (.int k (k.wrap (x.tdiv y))) := b_quo h
theorem b_rem' {e : EqT} (h : y ≠ 0) : binA .rem e (.int k x) (.int k y) = some (.int k (x.tmod y)) := b_rem h
theorem b_shr {k' : IntKind} {e : EqT} (h : 0 ≤ y) : binA .shr e (.int k x) (.int k' y) = some (.int k (x.fdiv (2 ^ (min y.toNat k.bits)))) := by
  simp only [binA, shiftI]
  rw [if_neg (by omega)]
theorem b_shl {k' : IntKind} {e : EqT} (h : 0 ≤ y) : binA .shl e (.int k x) (.int k' y) = some (.int k (k.wrap (x * 2 ^ (min y.toNat k.bits)))) := by
  simp only [binA, shiftI]
  rw [if_neg (by omega)]
theorem b_andb {e : EqT} {s t : ByteArray} : binA .eql e (.str s) (.str t) = some (.bool (s.toList == t.toList)) := by cases e <;> rfl
theorem wrap_in (h0 : -9223372036854775808 ≤ x) (h1 : x ≤ 9223372036854775807) : IntKind.i64.wrap x = x := by rw [IntKind.wrap_i64]; omega
end
section
variable {σ : AHeap} {N M : Nat} {o o' : AObj}
theorem objs_new (h : N = σ.next) : (σ.alloc o).objs N = some o := by rw [AHeap.objs_alloc, if_pos h]
theorem objs_old (h : N ≠ σ.next) : (σ.alloc o).objs N = σ.objs N := by rw [AHeap.objs_alloc, if_neg h]
theorem objs_here : (σ.set N o).objs N = some o := by rw [AHeap.objs_set, if_pos rfl]
theorem objs_else (h : N ≠ M) : (σ.set M o).objs N = σ.objs N := by rw [AHeap.objs_set, if_neg h]
structure HoldH (σ : AHeap) : Type where
def objsA (N n : Nat) (o : AObj) (σ : AHeap) (_ : HoldH σ) : Option AObj := if N = n then some o else σ.objs N
theorem objs_a : (σ.alloc o).objs N = objsA N σ.next o σ {} := id rfl
theorem objs_s : (σ.set M o).objs N = objsA N M o σ {} := id rfl
theorem objsA_eq {n : Nat} (h : N = n) : objsA N n o σ {} = some o := if_pos h
theorem objsA_ne {n : Nat} (h : N ≠ n) : objsA N n o σ {} = σ.objs N := if_neg h
def objsX (N n : Nat) (σ : AHeap) (_ : HoldH σ) : Option AObj := if N = n then none else σ.objs N
theorem objs_k : (σ.kill M).objs N = objsX N M σ {} := id rfl
theorem objsX_eq {n : Nat} (h : N = n) : objsX N n σ {} = none := if_pos h
theorem objsX_ne {n : Nat} (h : N ≠ n) : objsX N n σ {} = σ.objs N := if_neg h
def setA (N n : Nat) (o o' : AObj) (σ : AHeap) (_ : HoldH σ) : AHeap := (σ.alloc o).set N o'
theorem set_set : (σ.set N o).set N o' = σ.set N o' := by
  unfold AHeap.set
  congr 1
  funext M
  by_cases h : M = N <;> simp [h]
theorem set_alloc (h : N ≠ σ.next) : (σ.alloc o).set N o' = (σ.set N o').alloc o := by
  unfold AHeap.set AHeap.alloc
  congr 1
  funext M
  by_cases h1 : M = N
  · subst h1; simp [h]
  · simp [h1]
def loadO (o : Option AObj) (agg : Bool) (n i k : Nat) : Option AVal := match o with | some (.cells _ rows) => (rows[i]?).bind fun row => partA agg n k row | _ => none
theorem load_ptr {agg : Bool} {n i k : Nat} : loadA σ agg n (.ptr N i k) = loadO (σ.objs N) agg n i k := by
  simp only [loadA, Go.Tc.rowAt, loadO]
  cases h : σ.objs N with
  | none => rfl
  | some o =>
    cases o with
    | cells m rows => simp only; cases rows[i]? <;> rfl
    | _ => rfl
theorem loadO_row {agg : Bool} {m n k : Nat} {row : List AVal} : loadO (some (.cells m [row])) agg n 0 k = partA agg n k row := id rfl
theorem loadO_map {α : Type} [Inhabited α] {agg : Bool} {m n i k : Nat} {f : α → List AVal} {l : List α} (h : i < l.length) : loadO (some (.cells m (l.map f))) agg n i k = partA agg n k (f (l.getD i default)) := by
  simp [loadO, List.getElem?_eq_getElem h]
def storeO (o : Option AObj) (n i k : Nat) (v : AVal) : Option AObj := match o with
  | some (.cells m rows) => (rows[i]?).bind fun row => if v.cells.length = n ∧ k + n ≤ row.length ∧ v.cells.all AVal.one = true then some (.cells m (rows.set i (splice row k v.cells))) else none
  | _ => none
theorem store_ptr {n i k : Nat} {v : AVal} : storeA σ n (.ptr N i k) v = (storeO (σ.objs N) n i k v).map (σ.set N) := by
  simp only [storeA, storeO]
  cases h : σ.objs N with
  | none => rfl
  | some o =>
    cases o with
    | cells m rows =>
      simp only
      cases h2 : rows[i]? with
      | none => rfl
      | some row => simp only [Option.bind_some]; split <;> rfl
    | _ => rfl
theorem storeO_row {m n k : Nat} {row : List AVal} {v : AVal} (h1 : v.cells.length = n) (h2 : k + n ≤ row.length) (h3 : v.cells.all AVal.one = true) : storeO (some (.cells m [row])) n 0 k v = some (.cells m [splice row k v.cells]) := by
  simp only [storeO, List.getElem?_cons_zero, Option.bind_some, h1, h2, h3, and_self, if_true, List.set_cons_zero]
theorem storeO_map {α : Type} {m n i : Nat} {f : α → List AVal} {l : List α} {v : AVal} (x : α) (h : i < l.length) (hv : v.cells = f x) (hn : (f x).length = n) (hl : ∀ y, (f y).length = n) (h1 : (f x).all AVal.one = true) :
    storeO (some (.cells m (l.map f))) n i 0 v = some (.cells m ((l.set i x).map f)) := by
  simp only [storeO, List.getElem?_map, List.getElem?_eq_getElem h, Option.map_some, Option.bind_some, hv, hn, hl, Nat.zero_add, Nat.le_refl, true_and, h1, if_true, splice, List.take_zero, List.nil_append]
  rw [List.drop_eq_nil_of_le (by rw [hl]; omega), List.append_nil, ← List.map_set]
end
theorem w_all_cons {v : AVal} {vs : List AVal} : (v :: vs).all AVal.one = (v.one && vs.all AVal.one) := id rfl
theorem w_all_nil : ([] : List AVal).all AVal.one = true := id rfl
theorem one_int {k : IntKind} {x : Int} : (AVal.int k x).one = true := id rfl
theorem one_bool {b : Bool} : (AVal.bool b).one = true := id rfl
theorem one_str {s : ByteArray} : (AVal.str s).one = true := id rfl
theorem one_nilS : AVal.nilS.one = true := id rfl
theorem one_nilP : AVal.nilP.one = true := id rfl
theorem one_nilF : AVal.nilF.one = true := id rfl
theorem one_nilM : AVal.nilM.one = true := id rfl
theorem one_nilI : AVal.nilI.one = true := id rfl
theorem one_ptr {N i k : Nat} : (AVal.ptr N i k).one = true := id rfl
theorem one_ms {m N i len : Nat} {ex : Bool} : (AVal.ms m N i len ex).one = true := id rfl
theorem one_rs {m i len : Nat} {rows : List (List AVal)} {ex : Bool} : (AVal.rs m rows i len ex).one = true := id rfl
theorem one_rptr {m i k : Nat} {rows : List (List AVal)} : (AVal.rptr m rows i k).one = true := id rfl
theorem one_map {N : Nat} : (AVal.map N).one = true := id rfl
theorem one_func {fn : Fn} {a b : List AVal} : (AVal.func fn a b).one = true := id rfl
theorem one_iface {t : TypeId} {v : AVal} : (AVal.iface t v).one = true := id rfl
theorem one_yield {N : Nat} : (AVal.yield N).one = true := id rfl
theorem cells_one {v : AVal} (h : v.one = true) : v.cells = [v] := by cases v <;> first | rfl | cases h
theorem boxV_c {v : AVal} {σ : AHeap} : boxV v σ = bif v.one then some (.ptr σ.next 0 0, σ.alloc (.cells 1 [[v]])) else boxV' v σ := by
  cases h : v.one with
  | false => rfl
  | true => simp only [boxV, cells_one h, List.all_cons, List.all_nil, h, Bool.and_true, if_true, List.length_cons, List.length_nil, cond_true]
theorem one_agg {vs : List AVal} : (AVal.agg vs).one = false := id rfl
theorem ite_bif {α : Type} {p : Prop} {_ : Decidable p} {b : Bool} {x y : α} (h : p ↔ b = true) : (if p then x else y) = bif b then x else y := by
  cases b with
  | false => rw [if_neg (by simpa using h)]; rfl
  | true => rw [if_pos (by simpa using h)]; rfl
theorem boxV'_agg {σ : AHeap} {cs : List AVal} : boxV' (.agg cs) σ = bif cs.all AVal.one then some (.ptr σ.next 0 0, σ.alloc (.cells cs.length [cs])) else none := by
  exact ite_bif (p := (AVal.agg cs).cells.all AVal.one = true) Iff.rfl
theorem w_set0 {α : Type} {a b : α} {l : List α} : (a :: l).set 0 b = b :: l := id rfl
theorem w_sets {α : Type} {a b : α} {l : List α} {n : Nat} : (a :: l).set (n + 1) b = a :: l.set n b := id rfl
theorem splice_set {row : List AVal} {k : Nat} {v : AVal} (h : k < row.length) : splice row k [v] = row.set k v := by
  induction row generalizing k with
  | nil => simp at h
  | cons a row ih =>
    cases k with
    | zero => simp [splice]
    | succ k =>
      have := ih (k := k) (by simpa using h)
      simp only [splice, List.length_singleton] at this ⊢
      simp only [List.take_succ_cons, List.cons_append, List.set_cons_succ]
      rw [← this, show k + 1 + 1 = (k + 1) + 1 from rfl, List.drop_succ_cons]
theorem fillA_nil {cells : List AVal} : fillA cells [] = some cells := id rfl
def fillA' (cells : List AVal) (off size : Nat) (v : AVal) (rest : List (Nat × Nat × AVal)) : Option (List AVal) := fillA cells ((off, size, v) :: rest)
theorem fillA_c {cells : List AVal} {off size : Nat} {v : AVal} {rest : List (Nat × Nat × AVal)} :
    fillA cells ((off, size, v) :: rest) = bif v.one && size == 1 && Nat.ble (off + 1) cells.length then fillA (cells.set off v) rest else fillA' cells off size v rest := by
  cases h : v.one && size == 1 && Nat.ble (off + 1) cells.length with
  | false => rfl
  | true =>
    simp only [Bool.and_eq_true, beq_iff_eq, Nat.ble_eq] at h
    obtain ⟨⟨h1, rfl⟩, h2⟩ := h
    simp only [fillA, cells_one h1, List.length_cons, List.length_nil, List.all_cons, List.all_nil, h1, Bool.and_true, Nat.zero_add, h2, and_self, if_true, splice_set h2, cond_true]
theorem fillA'_agg {cells : List AVal} {off size : Nat} {vs : List AVal} {rest : List (Nat × Nat × AVal)} :
    fillA' cells off size (.agg vs) rest = bif vs.length == size && Nat.ble (off + size) cells.length && vs.all AVal.one then fillA (splice cells off vs) rest else none := by
  exact ite_bif (p := (AVal.agg vs).cells.length = size ∧ off + size ≤ cells.length ∧ (AVal.agg vs).cells.all AVal.one = true) (by simp [AVal.cells, Nat.ble_eq, and_assoc])
theorem splice_eq {row : List AVal} {k : Nat} {vs : List AVal} : splice row k vs = row.take k ++ vs ++ row.drop (k + vs.length) := id rfl
def storeR (m n k : Nat) (row : List AVal) (v : AVal) : Option AObj := storeO (some (.cells m [row])) n 0 k v
theorem storeO_c {m n k : Nat} {row : List AVal} {v : AVal} : storeO (some (.cells m [row])) n 0 k v = bif v.one && n == 1 && Nat.ble (k + 1) row.length then some (.cells m [row.set k v]) else storeR m n k row v := by
  cases h : v.one && n == 1 && Nat.ble (k + 1) row.length with
  | false => rfl
  | true =>
    simp only [Bool.and_eq_true, beq_iff_eq, Nat.ble_eq] at h
    obtain ⟨⟨h1, rfl⟩, h2⟩ := h
    rw [storeO_row (by rw [cells_one h1]; rfl) h2 (by rw [cells_one h1]; simp [h1]), cells_one h1, splice_set h2]; rfl
theorem storeR_agg {m n k : Nat} {row : List AVal} {vs : List AVal} : storeR m n k row (.agg vs) = bif vs.length == n && Nat.ble (k + n) row.length && vs.all AVal.one then some (.cells m [splice row k vs]) else none := by
  exact ite_bif (p := (AVal.agg vs).cells.length = n ∧ k + n ≤ row.length ∧ (AVal.agg vs).cells.all AVal.one = true) (by simp [AVal.cells, Nat.ble_eq, and_assoc])
theorem partN' {n off : Nat} {cs : List AVal} : partA true n off cs = bif Nat.ble (off + n) cs.length then some (.agg ((cs.drop off).take n)) else none := by
  exact ite_bif (p := off + n ≤ cs.length) (by simp [Nat.ble_eq])
theorem ble_z {n : Nat} : Nat.ble 0 n = true := id rfl
theorem ble_s {m n : Nat} : Nat.ble (m + 1) (n + 1) = Nat.ble m n := id rfl
theorem bl_exit' {i j : Nat} {env : AEnv} {σ : AHeap} {Q : AExit → AEnv → AHeap → Prop} : blockA i Q (.exit j) env σ = bif j == i then Q .normal env σ else Q (.exit j) env σ := by
  rw [bl_exit]
  by_cases h : j = i
  · rw [if_pos h, beq_iff_eq.2 h]; rfl
  · rw [if_neg h, beq_eq_false_iff_ne.2 h]; rfl
def resC (o : Option AVal) (r : Option (List AVal)) : Option (List AVal) := match o, r with | some v, some vs => some (v :: vs) | _, _ => none
theorem resC_some {v : AVal} {vs : List AVal} : resC (some v) (some vs) = some (v :: vs) := id rfl
theorem resAs_cell {env : AEnv} {σ : AHeap} {a n : Nat} {g : Bool} {rs : List ARes} : resAs env σ (.cell a g n :: rs) = resC (loadA σ g n (env.t a)) (resAs env σ rs) := by
  simp only [resAs, resC]
  cases loadA σ g n (env.t a) <;> cases resAs env σ rs <;> rfl
theorem k1_some {v : AVal} {σ : AHeap} {K : AVal → AHeap → Prop} : k1 (some v) σ K {} = K v σ := id rfl
theorem k2_some {v : AVal} {σ : AHeap} {K : AVal → AHeap → Prop} : k2 (some (v, σ)) K {} = K v σ := id rfl
theorem m2_k2 {o : Option (AVal × AHeap)} {K : AVal → AHeap → Prop} : m2 o K = k2 o K {} := id rfl
theorem m2_k1 {o : Option AVal} {σ : AHeap} {K : AVal → AHeap → Prop} : m2 (o.map (·, σ)) K = k1 o σ K {} := by cases o <;> rfl
section
variable {P : Program} {rd : Option Nat} {os : List AOper} {d : Option Nat} {a : List Nat} {env : AEnv} {σ : AHeap} {Q : AExit → AEnv → AHeap → Prop}
theorem L_mv {x : Opnd} : Go.Tc.wpOps P rd (⟨d, .mv x, none, a⟩ :: os) env σ Q = k1 (some (env.ev x)) σ (fun v σ' => Go.Tc.wpOps P rd os (env.put d v) σ' Q) {} := by
  rw [L_op pl_mv, o_mv]; rfl
theorem L_pick {c x y : Opnd} : Go.Tc.wpOps P rd (⟨d, .pick c x y, none, a⟩ :: os) env σ Q = k1 (pickV (env.ev c) (env.ev x) (env.ev y)) σ (fun v σ' => Go.Tc.wpOps P rd os (env.put d v) σ' Q) {} := by
  rw [L_op pl_pick, p_pick, m2_k1]
theorem L_build {z : List AVal} {ps : List (Nat × Nat × Opnd)} : Go.Tc.wpOps P rd (⟨d, .build z ps, none, a⟩ :: os) env σ Q = k1 ((fillA z (ps.map fun p => (p.1, p.2.1, env.ev p.2.2))).map .agg) σ (fun v σ' => Go.Tc.wpOps P rd os (env.put d v) σ' Q) {} := by
  rw [L_op pl_build, o_build, m2_k1]
theorem L_load {g : Bool} {n : Nat} {x : Opnd} : Go.Tc.wpOps P rd (⟨d, .load g n x, none, a⟩ :: os) env σ Q = k1 (loadA σ g n (env.ev x)) σ (fun v σ' => Go.Tc.wpOps P rd os (env.put d v) σ' Q) {} := by
  rw [L_op pl_load, o_load, m2_k1]
theorem L_nilck {x : Opnd} : Go.Tc.wpOps P rd (⟨d, .nilck x, none, a⟩ :: os) env σ Q = k1 (nilV (env.ev x)) σ (fun v σ' => Go.Tc.wpOps P rd os (env.put d v) σ' Q) {} := by
  rw [L_op pl_nilck, p_nilck, m2_k1]
theorem L_bin {op : BinOp} {e : EqT} {x y : Opnd} : Go.Tc.wpOps P rd (⟨d, .bin op e x y, none, a⟩ :: os) env σ Q = k1 (binA op e (env.ev x) (env.ev y)) σ (fun v σ' => Go.Tc.wpOps P rd os (env.put d v) σ' Q) {} := by
  rw [L_op pl_bin, o_bin, m2_k1]
theorem L_un {op : UnOp} {x : Opnd} : Go.Tc.wpOps P rd (⟨d, .un op x, none, a⟩ :: os) env σ Q = k1 (unA op (env.ev x)) σ (fun v σ' => Go.Tc.wpOps P rd os (env.put d v) σ' Q) {} := by
  rw [L_op pl_un, o_un, m2_k1]
theorem L_conv {c : Cv} {x : Opnd} : Go.Tc.wpOps P rd (⟨d, .conv c x, none, a⟩ :: os) env σ Q = k1 (convV c (env.ev x)) σ (fun v σ' => Go.Tc.wpOps P rd os (env.put d v) σ' Q) {} := by
  rw [L_op pl_conv, p_conv, m2_k1]
theorem L_mkI {t : TypeId} {x : Opnd} : Go.Tc.wpOps P rd (⟨d, .mkI t x, none, a⟩ :: os) env σ Q = k1 (some (.iface t (env.ev x))) σ (fun v σ' => Go.Tc.wpOps P rd os (env.put d v) σ' Q) {} := by
  rw [L_op pl_mkI, o_mkI]; rfl
theorem L_mkF {fn : Fn} {xs ys : List Opnd} : Go.Tc.wpOps P rd (⟨d, .mkF fn xs ys, none, a⟩ :: os) env σ Q = k1 (some (.func fn (xs.map env.ev) (ys.map env.ev))) σ (fun v σ' => Go.Tc.wpOps P rd os (env.put d v) σ' Q) {} := by
  rw [L_op pl_mkF, o_mkF]; rfl
theorem L_slS {m : Nat} {x : Opnd} {lo hi mx : Option Opnd} : Go.Tc.wpOps P rd (⟨d, .slS m x lo hi mx, none, a⟩ :: os) env σ Q = k1 (sliceA m (env.ev x) (lo.map env.ev) (hi.map env.ev) (mx.map env.ev)) σ (fun v σ' => Go.Tc.wpOps P rd os (env.put d v) σ' Q) {} := by
  rw [L_op pl_slS, o_slS, m2_k1]
theorem L_slA {n m : Nat} {x : Opnd} : Go.Tc.wpOps P rd (⟨d, .slA n m x none none, none, a⟩ :: os) env σ Q = k1 (slAA n m (env.ev x)) σ (fun v σ' => Go.Tc.wpOps P rd os (env.put d v) σ' Q) {} := by
  rw [L_op pl_slA, p_slA, m2_k1]
theorem L_fa {off : Nat} {x : Opnd} : Go.Tc.wpOps P rd (⟨d, .fa off x, none, a⟩ :: os) env σ Q = k1 (addrOf off (env.ev x)) σ (fun v σ' => Go.Tc.wpOps P rd os (env.put d v) σ' Q) {} := by
  rw [L_op pl_fa, o_fa, m2_k1]
theorem L_fld {g : Bool} {n off : Nat} {x : Opnd} : Go.Tc.wpOps P rd (⟨d, .fld g n off x, none, a⟩ :: os) env σ Q = k1 (fldV g n off (env.ev x)) σ (fun v σ' => Go.Tc.wpOps P rd os (env.put d v) σ' Q) {} := by
  rw [L_op pl_fld, p_fld, m2_k1]
theorem L_ixA {l m : Nat} {x i : Opnd} : Go.Tc.wpOps P rd (⟨d, .ixA l m x i, none, a⟩ :: os) env σ Q = k1 (ixAV l m (env.ev x) (env.ev i)) σ (fun v σ' => Go.Tc.wpOps P rd os (env.put d v) σ' Q) {} := by
  rw [L_op pl_ixA, p_ixA, m2_k1]
theorem L_ixS {m : Nat} {x i : Opnd} : Go.Tc.wpOps P rd (⟨d, .ixS m x i, none, a⟩ :: os) env σ Q = k1 (ixSV m (env.ev x) (env.ev i)) σ (fun v σ' => Go.Tc.wpOps P rd os (env.put d v) σ' Q) {} := by
  rw [L_op pl_ixS, p_ixS, m2_k1]
theorem L_ixStr {x i : Opnd} : Go.Tc.wpOps P rd (⟨d, .ixStr x i, none, a⟩ :: os) env σ Q = k1 (ixStrV (env.ev x) (env.ev i)) σ (fun v σ' => Go.Tc.wpOps P rd os (env.put d v) σ' Q) {} := by
  rw [L_op pl_ixStr, p_ixStr, m2_k1]
theorem L_look {K : KT} {z : AVal} {x i : Opnd} {ok : Bool} : Go.Tc.wpOps P rd (⟨d, .look K z x i ok, none, a⟩ :: os) env σ Q = k1 (lookV σ K z (env.ev x) (env.ev i) ok) σ (fun v σ' => Go.Tc.wpOps P rd os (env.put d v) σ' Q) {} := by
  rw [L_op pl_look, p_look, m2_k1]
theorem L_ext {x : Opnd} {i : Nat} : Go.Tc.wpOps P rd (⟨d, .ext x i, none, a⟩ :: os) env σ Q = k1 (extV (env.ev x) i) σ (fun v σ' => Go.Tc.wpOps P rd os (env.put d v) σ' Q) {} := by
  rw [L_op pl_ext, p_ext, m2_k1]
theorem L_lenStr {x : Opnd} : Go.Tc.wpOps P rd (⟨d, .lenStr x, none, a⟩ :: os) env σ Q = k1 (lenStrV (env.ev x)) σ (fun v σ' => Go.Tc.wpOps P rd os (env.put d v) σ' Q) {} := by
  rw [L_op pl_lenStr, p_lenStr, m2_k1]
theorem L_lenS {x : Opnd} : Go.Tc.wpOps P rd (⟨d, .lenS x, none, a⟩ :: os) env σ Q = k1 ((lenOfS (env.ev x)).map fun n : Nat => AVal.int .i64 (n : Int)) σ (fun v σ' => Go.Tc.wpOps P rd os (env.put d v) σ' Q) {} := by
  rw [L_op pl_lenS, o_lenS, m2_k1]
theorem L_b2s {x : Opnd} : Go.Tc.wpOps P rd (⟨d, .b2s x, none, a⟩ :: os) env σ Q = k1 ((b2sA σ (env.ev x)).map AVal.str) σ (fun v σ' => Go.Tc.wpOps P rd os (env.put d v) σ' Q) {} := by
  rw [L_op pl_b2s, p_b2s, m2_k1]
theorem L_lenM {x : Opnd} : Go.Tc.wpOps P rd (⟨d, .lenM x, none, a⟩ :: os) env σ Q = k1 ((mapLen σ (env.ev x)).map fun n : Nat => AVal.int .i64 (n : Int)) σ (fun v σ' => Go.Tc.wpOps P rd os (env.put d v) σ' Q) {} := by
  rw [L_op pl_lenM, p_lenM, m2_k1]
theorem L_lenA {n : Nat} : Go.Tc.wpOps P rd (⟨d, .lenA n, none, a⟩ :: os) env σ Q = k1 (some (.int .i64 n)) σ (fun v σ' => Go.Tc.wpOps P rd os (env.put d v) σ' Q) {} := by
  rw [L_op pl_lenA, p_lenA]; rfl
theorem L_mx {x y : Opnd} : Go.Tc.wpOps P rd (⟨d, .mx [x, y], none, a⟩ :: os) env σ Q = k1 (maxI (env.ev x) (env.ev y)) σ (fun v σ' => Go.Tc.wpOps P rd os (env.put d v) σ' Q) {} := by
  rw [L_op pl_mx, p_mx2, m2_k1]
theorem L_mn {x y : Opnd} : Go.Tc.wpOps P rd (⟨d, .mn [x, y], none, a⟩ :: os) env σ Q = k1 (minI (env.ev x) (env.ev y)) σ (fun v σ' => Go.Tc.wpOps P rd os (env.put d v) σ' Q) {} := by
  rw [L_op pl_mn, p_mn2, m2_k1]
theorem L_alloc {z : List AVal} : Go.Tc.wpOps P rd (⟨d, .alloc z, none, a⟩ :: os) env σ Q = k2 (some (.ptr σ.next 0 0, σ.alloc (.cells z.length [z]))) (fun v σ' => Go.Tc.wpOps P rd os (env.put d v) σ' Q) {} := by
  rw [L_op pl_alloc, o_alloc, m2_k2]
theorem L_box {x : Opnd} : Go.Tc.wpOps P rd (⟨d, .box x, none, a⟩ :: os) env σ Q = k2 (boxV (env.ev x) σ) (fun v σ' => Go.Tc.wpOps P rd os (env.put d v) σ' Q) {} := by
  rw [L_op pl_box, p_box, m2_k2]
theorem L_store {n : Nat} {x y : Opnd} : Go.Tc.wpOps P rd (⟨d, .store n x y, none, a⟩ :: os) env σ Q = k2 ((storeA σ n (env.ev x) (env.ev y)).map (AVal.tup [], ·)) (fun v σ' => Go.Tc.wpOps P rd os (env.put d v) σ' Q) {} := by
  rw [L_op pl_store, o_store, m2_k2]
theorem L_mkM {K : KT} : Go.Tc.wpOps P rd (⟨d, .mkM K, none, a⟩ :: os) env σ Q = k2 (some (.map σ.next, σ.alloc (.map K (fun _ => none) 0))) (fun v σ' => Go.Tc.wpOps P rd os (env.put d v) σ' Q) {} := by
  rw [L_op pl_mkM, o_mkM, m2_k2]
theorem L_mkS {z : List AVal} {b : Nat} {l c : Opnd} : Go.Tc.wpOps P rd (⟨d, .mkS z b l c, none, a⟩ :: os) env σ Q = k2 (mkSV z b (env.ev l) (env.ev c) σ) (fun v σ' => Go.Tc.wpOps P rd os (env.put d v) σ' Q) {} := by
  rw [L_op pl_mkS, p_mkS, m2_k2]
theorem L_upd {K : KT} {m i x : Opnd} : Go.Tc.wpOps P rd (⟨d, .upd K m i x, none, a⟩ :: os) env σ Q = k2 (updV σ K (env.ev m) (env.ev i) (env.ev x)) (fun v σ' => Go.Tc.wpOps P rd os (env.put d v) σ' Q) {} := by
  rw [L_op pl_upd, p_upd, m2_k2]
theorem L_app {m b : Nat} {s x : Opnd} : Go.Tc.wpOps P rd (⟨d, .app m b s x, none, a⟩ :: os) env σ Q = k2 (appA σ m b (env.ev s) (env.ev x)) (fun v σ' => Go.Tc.wpOps P rd os (env.put d v) σ' Q) {} := by
  rw [L_op pl_app, o_app, m2_k2]
theorem L_cpy {m : Nat} {s x : Opnd} : Go.Tc.wpOps P rd (⟨d, .cpy m s x, none, a⟩ :: os) env σ Q = k2 (cpyA σ m (env.ev s) (env.ev x)) (fun v σ' => Go.Tc.wpOps P rd os (env.put d v) σ' Q) {} := by
  rw [L_op pl_cpy, o_cpy, m2_k2]
theorem L_buildS {m : Nat} {z : List AVal} {len : Nat} {ps : List (Nat × Opnd)} : Go.Tc.wpOps P rd (⟨d, .buildS m z len ps, none, a⟩ :: os) env σ Q = k2 ((fillRows m (List.replicate len z) (ps.map fun p => (p.1, env.ev p.2))).map (fun rows => (AVal.ms m σ.next 0 len true, σ.alloc (.cells m rows)))) (fun v σ' => Go.Tc.wpOps P rd os (env.put d v) σ' Q) {} := by
  rw [L_op pl_buildS, p_buildS, m2_k2]
end
end Go.Tc
