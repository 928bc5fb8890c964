/- Proved here: for every argument of bulk at most 1048576 TopAnewTitle answers true and leaves its argument as it was. (part 1 of 6.) -/
import Derived.CallsIn
import Derived.Laws.World
import Derived.Laws.Cells
import Derived.Laws.StructEq
import Derived.Laws.BytesArg
import Derived.Laws.Append
import Derived.IntWalk
import Derived.RangeFuncLeaves
set_option linter.unusedSimpArgs false
set_option linter.unusedVariables false
set_option linter.unnecessarySimpa false
namespace Go.Tc
inductive AVal where
  | bool (b : Bool)
  | int (k : IntKind) (n : Int)
  | str (s : ByteArray)
  | nilP
  | ptr (N i k : Nat)
  | rptr (m : Nat) (rows : List (List AVal)) (i k : Nat)
  | nilS
  | ms (m N i len : Nat) (ex : Bool)
  | rs (m : Nat) (rows : List (List AVal)) (i len : Nat) (ex : Bool)
  | mi (N i k es len : Nat)
  | ri (m : Nat) (rows : List (List AVal)) (i k es len : Nat)
  | nilM
  | map (N : Nat)
  | func (fn : Fn) (first caps : List AVal)
  | nilF
  | yield (L : Nat)
  | iface (t : TypeId) (v : AVal)
  | nilI
  | agg (cs : List AVal)
  | tup (vs : List AVal)
  | iter (N : Nat)
  | junk
  deriving Inhabited
inductive KL where
  | int (k : IntKind) | str | bool
  deriving DecidableEq, Inhabited
inductive KT where
  | one (l : KL)
  | tup (ls : List KL)
  deriving DecidableEq, Inhabited
inductive AK where
  | int (n : Int) | str (s : ByteArray) | bool (b : Bool)
  deriving DecidableEq, Inhabited
inductive AKey where
  | one (a : AK)
  | tup (zs : List AK)
  deriving DecidableEq, Inhabited
structure ALoop where
  size : Nat
  env : Nat → AVal
  params : Array Tmp
  assign : Code
  body : Code
  state : LoopState
  pending : Option Code
inductive AObj where
  | cells (m : Nat) (rows : List (List AVal))
  | map (K : KT) (f : AKey → Option AVal) (n : Nat)
  | siter (s : ByteArray) (pos : Nat)
  | loop (l : ALoop)
  | dfr
structure AHeap where
  objs : Nat → Option AObj
  next : Nat
def AHeap.alloc (σ : AHeap) (o : AObj) : AHeap := { objs := fun N => if N = σ.next then some o else σ.objs N, next := σ.next + 1 }
def AHeap.set (σ : AHeap) (N : Nat) (o : AObj) : AHeap := { objs := fun M => if M = N then some o else σ.objs M, next := σ.next }
def AHeap.kill (σ : AHeap) (N : Nat) : AHeap := { objs := fun M => if M = N then none else σ.objs M, next := σ.next }
@[simp] theorem AHeap.next_alloc (σ : AHeap) (o : AObj) : (σ.alloc o).next = σ.next + 1 := rfl
@[simp] theorem AHeap.next_set (σ : AHeap) (N : Nat) (o : AObj) : (σ.set N o).next = σ.next := rfl
@[simp] theorem AHeap.next_kill (σ : AHeap) (N : Nat) : (σ.kill N).next = σ.next := rfl
theorem AHeap.objs_alloc (σ : AHeap) (o : AObj) (N : Nat) : (σ.alloc o).objs N = if N = σ.next then some o else σ.objs N := rfl
theorem AHeap.objs_set (σ : AHeap) (M : Nat) (o : AObj) (N : Nat) : (σ.set M o).objs N = if N = M then some o else σ.objs N := rfl
theorem AHeap.objs_kill (σ : AHeap) (M : Nat) (N : Nat) : (σ.kill M).objs N = if N = M then none else σ.objs N := rfl
inductive Loc where
  | cells (m b off ext : Nat)
  | obj (r : Nat)
def cellAt (rows : List (List AVal)) (j q : Nat) : Option AVal := (rows[j]?).bind (·[q]?)
def AVal.one : AVal → Bool
  | .agg _ | .tup _ | .junk => false
  | _ => true
def RowOk (m : Nat) (row : List AVal) : Prop := row.length = m ∧ ∀ v ∈ row, v.one = true
inductive VRel (ι : Nat → Option Loc) (ro : Nat → Nat → Prop) (w : World) : AVal → Value → Prop
  | bool (b : Bool) : VRel ι ro w (.bool b) (.bool b)
  | int (k : IntKind) (n : Int) : VRel ι ro w (.int k n) (.int k n)
  | str (s : ByteArray) : VRel ι ro w (.str s) (.string s)
  | nilP : VRel ι ro w .nilP (.pointer none)
  | ptr {N m b off ext : Nat} (i k : Nat) (h : ι N = some (.cells m b off ext)) : VRel ι ro w (.ptr N i k) (.pointer (some ⟨b, off + i * m + k, none⟩))
  | rptr {m : Nat} {rows : List (List AVal)} (b off i k : Nat) (f : Nat → Nat → Value)
      (hm : ∀ row ∈ rows, RowOk m row)
      (hc : ∀ j q v, cellAt rows j q = some v → ro b (off + j * m + q) ∧ w.cell? ⟨b, off + j * m + q, none⟩ = some (f j q))
      (hv : ∀ j q v, cellAt rows j q = some v → VRel ι ro w v (f j q)) :
      VRel ι ro w (.rptr m rows i k) (.pointer (some ⟨b, off + i * m + k, none⟩))
  | nilS : VRel ι ro w .nilS (.slice none 0 0)
  | ms {N m b off ext i len cap : Nat} {ex : Bool} {a : Addr} (h : ι N = some (.cells m b off ext)) (hl : len ≤ cap) (he : ex = true → cap = len)
      (ha : cap = 0 ∨ (a = ⟨b, off + i * m, none⟩ ∧ i * m + cap * m ≤ ext)) : VRel ι ro w (.ms m N i len ex) (.slice (some a) len cap)
  | rs {m : Nat} {rows : List (List AVal)} {i len cap : Nat} {ex : Bool} {a : Addr} (b off : Nat) (f : Nat → Nat → Value)
      (hm : ∀ row ∈ rows, RowOk m row)
      (hc : ∀ j q v, cellAt rows j q = some v → ro b (off + j * m + q) ∧ w.cell? ⟨b, off + j * m + q, none⟩ = some (f j q))
      (hv : ∀ j q v, cellAt rows j q = some v → VRel ι ro w v (f j q))
      (hl : len ≤ cap) (he : ex = true → cap = len) (ha : cap = 0 ∨ a = ⟨b, off + i * m, none⟩) :
      VRel ι ro w (.rs m rows i len ex) (.slice (some a) len cap)
  | mi {N m b off ext : Nat} (i k es len : Nat) (h : ι N = some (.cells m b off ext)) : VRel ι ro w (.mi N i k es len) (.slice (some ⟨b, off + i * m + k, none⟩) len len)
  | ri {m : Nat} {rows : List (List AVal)} (b off i k es len : Nat) (f : Nat → Nat → Value)
      (hm : ∀ row ∈ rows, RowOk m row)
      (hc : ∀ j q v, cellAt rows j q = some v → ro b (off + j * m + q) ∧ w.cell? ⟨b, off + j * m + q, none⟩ = some (f j q))
      (hv : ∀ j q v, cellAt rows j q = some v → VRel ι ro w v (f j q)) :
      VRel ι ro w (.ri m rows i k es len) (.slice (some ⟨b, off + i * m + k, none⟩) len len)
  | nilM : VRel ι ro w .nilM (.map none)
  | map {N r : Nat} (h : ι N = some (.obj r)) : VRel ι ro w (.map N) (.map (some r))
  | func {fn : Fn} {first caps : List AVal} {first' caps' : Array Value} (hn : ∀ l, fn ≠ .yield l)
      (h1 : first'.size = first.length) (h2 : caps'.size = caps.length)
      (hf : ∀ (i : Nat) v u, first[i]? = some v → first'[i]? = some u → VRel ι ro w v u)
      (hc : ∀ (i : Nat) v u, caps[i]? = some v → caps'[i]? = some u → VRel ι ro w v u) : VRel ι ro w (.func fn first caps) (.func fn first' caps')
  | nilF : VRel ι ro w .nilF .nilFunc
  | yield {L l : Nat} (h : ι L = some (.obj l)) : VRel ι ro w (.yield L) (.func (.yield l) #[] #[])
  | iface {t : TypeId} {v : AVal} {u : Value} (h : VRel ι ro w v u) : VRel ι ro w (.iface t v) (.iface t u)
  | nilI : VRel ι ro w .nilI .nilIface
  | agg {cs : List AVal} {us : Array Value} (hl : us.size = cs.length) (h : ∀ (i : Nat) v u, cs[i]? = some v → us[i]? = some u → VRel ι ro w v u) : VRel ι ro w (.agg cs) (.agg us)
  | tup {cs : List AVal} {us : Array Value} (hl : us.size = cs.length) (h : ∀ (i : Nat) v u, cs[i]? = some v → us[i]? = some u → VRel ι ro w v u) : VRel ι ro w (.tup cs) (.tuple us)
  | iter {N r : Nat} (h : ι N = some (.obj r)) : VRel ι ro w (.iter N) (.pointer (some ⟨r, 0, none⟩))
  | junk (u : Value) : VRel ι ro w .junk u
def VRels (ι : Nat → Option Loc) (ro : Nat → Nat → Prop) (w : World) (vs : List AVal) (us : Array Value) : Prop :=
  us.size = vs.length ∧ ∀ (i : Nat) v u, vs[i]? = some v → us[i]? = some u → VRel ι ro w v u
def akVal : KL → AK → Option Value
  | .int k, .int n => some (.int k n)
  | .str, .str s => some (.string s)
  | .bool, .bool b => some (.bool b)
  | _, _ => none
def akVals : List KL → List AK → Option (List Value)
  | [], [] => some []
  | l :: ls, a :: zs => (akVal l a).bind fun v => (akVals ls zs).map (v :: ·)
  | _, _ => none
def keyVal : KT → AKey → Option Value
  | .one l, .one a => akVal l a
  | .tup ls, .tup zs => (akVals ls zs).map fun vs => .agg vs.toArray
  | _, _ => none
theorem VRel.mono {ι ι' : Nat → Option Loc} {ro ro' : Nat → Nat → Prop} {w w' : World} (hι : ∀ N l, ι N = some l → ι' N = some l)
    (hro : ∀ b o, ro b o → ro' b o) (hw : ∀ b o v, ro b o → w.cell? ⟨b, o, none⟩ = some v → w'.cell? ⟨b, o, none⟩ = some v) {v : AVal} {u : Value}
    (h : VRel ι ro w v u) : VRel ι' ro' w' v u := by
  induction h with
  | bool b => exact .bool b
  | int k n => exact .int k n
  | str s => exact .str s
  | nilP => exact .nilP
  | ptr i k h => exact .ptr i k (hι _ _ h)
  | rptr b off i k f hm hc _ ih => exact .rptr b off i k f hm (fun j q v hv => ⟨hro _ _ (hc j q v hv).1, hw _ _ _ (hc j q v hv).1 (hc j q v hv).2⟩) ih
  | nilS => exact .nilS
  | ms h hl he ha => exact .ms (hι _ _ h) hl he ha
  | rs b off f hm hc _ hl he ha ih => exact .rs b off f hm (fun j q v hv => ⟨hro _ _ (hc j q v hv).1, hw _ _ _ (hc j q v hv).1 (hc j q v hv).2⟩) ih hl he ha
  | mi i k es len h => exact .mi i k es len (hι _ _ h)
  | ri b off i k es len f hm hc _ ih => exact .ri b off i k es len f hm (fun j q v hv => ⟨hro _ _ (hc j q v hv).1, hw _ _ _ (hc j q v hv).1 (hc j q v hv).2⟩) ih
  | nilM => exact .nilM
  | map h => exact .map (hι _ _ h)
  | func hn h1 h2 _ _ ihf ihc => exact .func hn h1 h2 ihf ihc
  | nilF => exact .nilF
  | yield h => exact .yield (hι _ _ h)
  | iface _ ih => exact .iface ih
  | nilI => exact .nilI
  | agg hl _ ih => exact .agg hl ih
  | tup hl _ ih => exact .tup hl ih
  | iter h => exact .iter (hι _ _ h)
  | junk u => exact .junk u
theorem VRel.restrict {ι ι' : Nat → Option Loc} {ro ro' : Nat → Nat → Prop} {w w' : World} (hι : ∀ N l, ι N = some l → ι' N = some l) {v : AVal} {u : Value} (h : VRel ι ro w v u) :
    ∀ u', VRel ι' ro' w' v u' → VRel ι ro' w' v u' := by
  have same : ∀ {N l l'}, ι N = some l → ι' N = some l' → ι N = some l' := fun h h' => by
    have := hι _ _ h; rw [this] at h'; cases h'; exact h
  induction h with
  | bool b => intro u' h'; cases h'; exact .bool b
  | int k n => intro u' h'; cases h'; exact .int k n
  | str s => intro u' h'; cases h'; exact .str s
  | nilP => intro u' h'; cases h'; exact .nilP
  | ptr i k h => intro u' h'; cases h' with | ptr _ _ h' => exact .ptr i k (same h h')
  | rptr b off i k f hm hc _ ih => intro u' h'; cases h' with | rptr b' off' _ _ f' hm' hc' hv' => exact .rptr b' off' i k f' hm' hc' (fun j q v hv => ih j q v hv _ (hv' j q v hv))
  | nilS => intro u' h'; cases h'; exact .nilS
  | ms h hl he ha => intro u' h'; cases h' with | ms h' hl' he' ha' => exact .ms (same h h') hl' he' ha'
  | rs b off f hm hc _ hl he ha ih =>
    intro u' h'
    cases h' with
    | rs b' off' f' hm' hc' hv' hl' he' ha' => exact .rs b' off' f' hm' hc' (fun j q v hv => ih j q v hv _ (hv' j q v hv)) hl' he' ha'
  | mi i k es len h => intro u' h'; cases h' with | mi _ _ _ _ h' => exact .mi i k es len (same h h')
  | ri b off i k es len f hm hc _ ih => intro u' h'; cases h' with | ri b' off' _ _ _ _ f' hm' hc' hv' => exact .ri b' off' i k es len f' hm' hc' (fun j q v hv => ih j q v hv _ (hv' j q v hv))
  | nilM => intro u' h'; cases h'; exact .nilM
  | map h => intro u' h'; cases h' with | map h' => exact .map (same h h')
  | func hn h1 h2 hf hc ihf ihc =>
    intro u' h'
    cases h' with
    | func hn' h1' h2' hf' hc' =>
      refine .func hn' h1' h2' (fun i v u hv hu => ?_) (fun i v u hv hu => ?_)
      · have hlt := (List.getElem?_eq_some_iff.1 hv).1
        exact ihf i v _ hv (Array.getElem?_eq_getElem (by omega)) u (hf' i v u hv hu)
      · have hlt := (List.getElem?_eq_some_iff.1 hv).1
        exact ihc i v _ hv (Array.getElem?_eq_getElem (by omega)) u (hc' i v u hv hu)
  | nilF => intro u' h'; cases h'; exact .nilF
  | yield h => intro u' h'; cases h' with | yield h' => exact .yield (same h h')
  | iface _ ih => intro u' h'; cases h' with | iface h' => exact .iface (ih _ h')
  | nilI => intro u' h'; cases h'; exact .nilI
  | agg hl hh ih =>
    intro u' h'
    cases h' with
    | agg hl' hh' =>
      refine .agg hl' (fun i v u hv hu => ?_)
      have hlt := (List.getElem?_eq_some_iff.1 hv).1
      exact ih i v _ hv (Array.getElem?_eq_getElem (by omega)) u (hh' i v u hv hu)
  | tup hl hh ih =>
    intro u' h'
    cases h' with
    | tup hl' hh' =>
      refine .tup hl' (fun i v u hv hu => ?_)
      have hlt := (List.getElem?_eq_some_iff.1 hv).1
      exact ih i v _ hv (Array.getElem?_eq_getElem (by omega)) u (hh' i v u hv hu)
  | iter h => intro u' h'; cases h' with | iter h' => exact .iter (same h h')
  | junk u => intro u' h'; cases h'; exact .junk _
end Go.Tc
namespace Go.Tc
abbrev Nm := Nat → Option Loc
abbrev Ros := Nat → Nat → Prop
def Own (ι : Nm) (σ : AHeap) (b o : Nat) : Prop :=
  ∃ N m off ext m' rows, ι N = some (.cells m b off ext) ∧ σ.objs N = some (.cells m' rows) ∧ off ≤ o ∧ o < off + ext
def OwnO (ι : Nm) (σ : AHeap) (r : Nat) : Prop := ∃ N o, ι N = some (.obj r) ∧ σ.objs N = some o
def isCells : Obj → Bool
  | .cells .. => true
  | _ => false
structure Frame (ι : Nm) (σ : AHeap) (w w' : World) : Prop where
  os : w'.os = w.os
  tape : w'.tape = w.tape
  output : w'.output = w.output
  size : w.heap.size ≤ w'.heap.size
  cells : ∀ (b : Nat) c e f, w.heap[b]? = some (Obj.cells c e f) → ∃ c', w'.heap[b]? = some (Obj.cells c' e f) ∧ c'.size = c.size ∧ ∀ o : Nat, ¬ Own ι σ b o → c'[o]? = c[o]?
  objs : ∀ (r : Nat) o, w.heap[r]? = some o → isCells o = false → ¬ OwnO ι σ r → w'.heap[r]? = some o
def AVal.bare : AVal → Bool
  | .bool _ | .int .. | .str _ | .nilP | .nilS | .nilM | .nilF | .nilI => true
  | _ => false
def Zer (o : AObj) : Prop := ∃ m z, o = .cells m [z] ∧ ∀ v ∈ z, v.bare = true
structure Kept (ι : Nm) (σ : AHeap) (ι' : Nm) (σ' : AHeap) : Prop where
  nx : σ.next ≤ σ'.next
  fresh : ∀ N l, N < σ.next → ι' N = some l → ι N = some l
  keep : ∀ N o', N < σ.next → ι N = none → σ'.objs N = some o' → ∃ o, σ.objs N = some o ∧ (Zer o → o' = o)
theorem Kept.refl (ι : Nm) (σ : AHeap) : Kept ι σ ι σ := ⟨Nat.le_refl _, fun _ _ _ h => h, fun _ o' _ _ h => ⟨o', h, fun _ => rfl⟩⟩
theorem Kept.trans {ι ι1 ι2 : Nm} {σ σ1 σ2 : AHeap} (h : Kept ι σ ι1 σ1) (k : Kept ι1 σ1 ι2 σ2) : Kept ι σ ι2 σ2 := by
  refine ⟨Nat.le_trans h.nx k.nx, fun N l hN hl => h.fresh N l hN (k.fresh N l (Nat.lt_of_lt_of_le hN h.nx) hl), fun N o2 hN hn ho => ?_⟩
  have h1 : ι1 N = none := by
    cases hx : ι1 N with
    | none => rfl
    | some l => rw [h.fresh N l hN hx] at hn; cases hn
  obtain ⟨o1, ho1, k1⟩ := k.keep N o2 (Nat.lt_of_lt_of_le hN h.nx) h1 ho
  obtain ⟨o, ho0, k0⟩ := h.keep N o1 hN hn ho1
  refine ⟨o, ho0, fun hz => ?_⟩
  have := k0 hz
  subst this
  exact k1 hz
theorem Kept.set {ι : Nm} {σ : AHeap} {N : Nat} {l : Loc} (h : ι N = some l) (o : AObj) : Kept ι σ ι (σ.set N o) := by
  refine ⟨Nat.le_refl _, fun _ _ _ h => h, fun M o' _ hM ho => ?_⟩
  rw [AHeap.objs_set] at ho
  split at ho
  · rename_i he
    rw [he, h] at hM; cases hM
  · exact ⟨o', ho, fun _ => rfl⟩
theorem Kept.kill (ι : Nm) (σ : AHeap) (N : Nat) : Kept ι σ ι (σ.kill N) := by
  refine ⟨Nat.le_refl _, fun _ _ _ h => h, fun M o' _ hM ho => ?_⟩
  rw [AHeap.objs_kill] at ho
  split at ho
  · cases ho
  · exact ⟨o', ho, fun _ => rfl⟩
theorem Kept.alloc {ι ι' : Nm} {σ : AHeap} (h : ∀ N, N ≠ σ.next → ι' N = ι N) (o : AObj) : Kept ι σ ι' (σ.alloc o) := by
  refine ⟨by simp, fun N l hN hl => by rw [← h N (by omega)]; exact hl, fun M o' hM _ ho => ?_⟩
  rw [AHeap.objs_alloc, if_neg (by omega)] at ho
  exact ⟨o', ho, fun _ => rfl⟩
structure Later (ι : Nm) (ro : Ros) (σ : AHeap) (w : World) (ι' : Nm) (ro' : Ros) (σ' : AHeap) (w' : World) : Prop where
  frame : Frame ι σ w w'
  ext : ∀ N l, ι N = some l → ι' N = some l
  roLe : ∀ b o, ro b o → ro' b o
  own : ∀ b o, b < w.heap.size → Own ι' σ' b o → Own ι σ b o
  ownO : ∀ r, r < w.heap.size → OwnO ι' σ' r → OwnO ι σ r
  roNew : ∀ b o, b < w.heap.size → ro' b o → ro b o ∨ Own ι σ b o
  kept : Kept ι σ ι' σ'
theorem Frame.refl (ι : Nm) (σ : AHeap) (w : World) : Frame ι σ w w :=
  ⟨rfl, rfl, rfl, Nat.le_refl _, fun _ c _ _ h => ⟨c, h, rfl, fun _ _ => rfl⟩, fun _ _ h _ _ => h⟩
theorem Later.refl (ι : Nm) (ro : Ros) (σ : AHeap) (w : World) : Later ι ro σ w ι ro σ w :=
  ⟨.refl _ _ _, fun _ _ h => h, fun _ _ h => h, fun _ _ _ h => h, fun _ _ h => h, fun _ _ _ h => .inl h, .refl _ _⟩
theorem Later.trans {ι ι1 ι2 : Nm} {ro ro1 ro2 : Ros} {σ σ1 σ2 : AHeap} {w w1 w2 : World} (h : Later ι ro σ w ι1 ro1 σ1 w1) (k : Later ι1 ro1 σ1 w1 ι2 ro2 σ2 w2) :
    Later ι ro σ w ι2 ro2 σ2 w2 where
  frame := by
    refine ⟨k.frame.os.trans h.frame.os, k.frame.tape.trans h.frame.tape, k.frame.output.trans h.frame.output, Nat.le_trans h.frame.size k.frame.size, ?_, ?_⟩
    · intro b c e f hb
      have hlt : b < w.heap.size := (Array.getElem?_eq_some_iff.1 hb).1
      obtain ⟨c1, h1, s1, k1⟩ := h.frame.cells b c e f hb
      obtain ⟨c2, h2, s2, k2⟩ := k.frame.cells b c1 e f h1
      exact ⟨c2, h2, s2.trans s1, fun o ho => (k2 o (fun hc => ho (h.own b o hlt hc))).trans (k1 o ho)⟩
    · intro r o hr hc hn
      have hlt : r < w.heap.size := (Array.getElem?_eq_some_iff.1 hr).1
      exact k.frame.objs r o (h.frame.objs r o hr hc hn) hc (fun x => hn (h.ownO r hlt x))
  ext := fun N l hl => k.ext N l (h.ext N l hl)
  roLe := fun b o hb => k.roLe b o (h.roLe b o hb)
  own := fun b o hlt ho => h.own b o hlt (k.own b o (Nat.lt_of_lt_of_le hlt h.frame.size) ho)
  ownO := fun r hlt ho => h.ownO r hlt (k.ownO r (Nat.lt_of_lt_of_le hlt h.frame.size) ho)
  roNew := fun b o hlt ho => by
    rcases k.roNew b o (Nat.lt_of_lt_of_le hlt h.frame.size) ho with h1 | h1
    · exact h.roNew b o hlt h1
    · exact .inr (h.own b o hlt h1)
  kept := h.kept.trans k.kept
def ObjRel (ι : Nm) (ro : Ros) (w : World) : Loc → AObj → Prop
  | .cells m b off ext, .cells m' rows => m' = m ∧ (∀ row ∈ rows, RowOk m row) ∧ rows.length * m ≤ ext ∧
      (∃ c e f, w.heap[b]? = some (Obj.cells c e f) ∧ off + ext ≤ c.size ∧ (∀ o, off ≤ o → o < off + ext → ¬ (f.1 ≤ o ∧ o < f.2))) ∧
      (∀ j q v, cellAt rows j q = some v → ∃ u, w.cell? ⟨b, off + j * m + q, none⟩ = some u ∧ VRel ι ro w v u)
  | .obj r, .map K f n => ∃ (es' : Array MapEntry) (clock : Nat) (ks : List (AKey × AVal)), w.heap[r]? = some (Obj.map es' clock) ∧ es'.size = n ∧ ks.length = n ∧ (ks.map (·.1)).Nodup ∧ (∀ k, f k = ks.lookup k) ∧
      (∀ e ∈ es'.toList, e.born < clock) ∧ (es'.toList.map (·.born)).Nodup ∧
      ∀ (i : Nat) (e : AKey × AVal) (e' : MapEntry), ks[i]? = some e → es'[i]? = some e' → keyVal K e.1 = some e'.key ∧ VRel ι ro w e.2 e'.val
  | .obj r, .siter s pos => w.heap[r]? = some (Obj.stringIter s pos)
  | .obj r, .loop l => ∃ tmps d fn, w.heap[r]? = some (Obj.loop { state := l.state, pending := l.pending, fn, tmps, params := l.params, assign := l.assign, body := l.body, defers := d }) ∧
      tmps.size = l.size ∧ (∀ (t : Nat) u, tmps[t]? = some u → VRel ι ro w (l.env t) u)
  | .obj r, .dfr => w.heap[r]? = some (Obj.deferred (some []))
  | _, _ => False
def LocApart : Loc → Loc → Prop
  | .cells _ b off ext, .cells _ b' off' ext' => b ≠ b' ∨ off + ext ≤ off' ∨ off' + ext' ≤ off ∨ ext = 0 ∨ ext' = 0
  | .obj r, .obj r' => r ≠ r'
  | _, _ => True
structure Rel (ι : Nm) (ro : Ros) (σ : AHeap) (w : World) : Prop where
  dom : ∀ N l, ι N = some l → N < σ.next
  obj : ∀ N l o, ι N = some l → σ.objs N = some o → ObjRel ι ro w l o
  apart : ∀ N N' l l' o o', N ≠ N' → ι N = some l → ι N' = some l' → σ.objs N = some o → σ.objs N' = some o' → LocApart l l'
  roSep : ∀ b o, ro b o → ¬ Own ι σ b o
  roIn : ∀ b o, ro b o → b < w.heap.size
theorem Frame.cell {ι : Nm} {σ : AHeap} {w w' : World} (h : Frame ι σ w w') {b o : Nat} {v : Value} (hn : ¬ Own ι σ b o) (hc : w.cell? ⟨b, o, none⟩ = some v) :
    w'.cell? ⟨b, o, none⟩ = some v := by
  unfold World.cell? at hc ⊢
  simp only at hc ⊢
  split at hc
  · rename_i c e f hb
    obtain ⟨c', h1, _, h3⟩ := h.cells b c e f hb
    rw [h1]; simp only
    simp only [Option.isSome_none, Bool.false_eq_true, if_false] at hc ⊢
    rw [h3 o hn]; exact hc
  · cases hc
theorem VRel.later {ι ι' : Nm} {ro ro' : Ros} {σ σ' : AHeap} {w w' : World} (R : Rel ι ro σ w) (L : Later ι ro σ w ι' ro' σ' w') {v : AVal} {u : Value}
    (h : VRel ι ro w v u) : VRel ι' ro' w' v u :=
  h.mono L.ext L.roLe (fun b o _ hr hc => L.frame.cell (R.roSep b o hr) hc)
theorem VRels.later {ι ι' : Nm} {ro ro' : Ros} {σ σ' : AHeap} {w w' : World} (R : Rel ι ro σ w) (L : Later ι ro σ w ι' ro' σ' w') {vs : List AVal} {us : Array Value}
    (h : VRels ι ro w vs us) : VRels ι' ro' w' vs us := ⟨h.1, fun i v u hv hu => (h.2 i v u hv hu).later R L⟩
end Go.Tc
namespace Go.Tc
def upd (ι : Nm) (N : Nat) (l : Loc) : Nm := fun M => if M = N then some l else ι M
theorem upd_same (ι : Nm) (N : Nat) (l : Loc) : upd ι N l N = some l := by simp [upd]
theorem upd_ne (ι : Nm) {N M : Nat} (l : Loc) (h : M ≠ N) : upd ι N l M = ι M := by simp [upd, h]
theorem upd_fresh {ι : Nm} {ro : Ros} {σ : AHeap} {w : World} (R : Rel ι ro σ w) (l : Loc) : ∀ N k, ι N = some k → upd ι σ.next l N = some k := by
  intro N k h
  have := R.dom N k h
  rw [upd_ne]; exact h; omega
theorem ObjRel.mono {ι ι' : Nm} {ro ro' : Ros} {w w' : World} (hι : ∀ N l, ι N = some l → ι' N = some l)
    (hv : ∀ v u, VRel ι ro w v u → VRel ι' ro' w' v u) {l : Loc} {o : AObj}
    (hc : ∀ m b off ext, l = .cells m b off ext → ∀ c e f, w.heap[b]? = some (Obj.cells c e f) → ∃ c', w'.heap[b]? = some (Obj.cells c' e f) ∧ c'.size = c.size ∧ ∀ x, off ≤ x → x < off + ext → c'[x]? = c[x]?)
    (ho : ∀ r x, l = .obj r → w.heap[r]? = some x → isCells x = false → w'.heap[r]? = some x) (h : ObjRel ι ro w l o) : ObjRel ι' ro' w' l o := by
  cases l with
  | cells m b off ext =>
    cases o <;> simp only [ObjRel] at h ⊢
    rename_i m' rows
    obtain ⟨h1, h2, h3, ⟨c, e, f, hb, hs, hf⟩, h5⟩ := h
    obtain ⟨c', hb', hs', hx⟩ := hc m b off ext rfl c e f hb
    refine ⟨h1, h2, h3, ⟨c', e, f, hb', by omega, hf⟩, fun j q v hjq => ?_⟩
    obtain ⟨u, hu, hvu⟩ := h5 j q v hjq
    refine ⟨u, ?_, hv _ _ hvu⟩
    have hq : q < m ∧ j < rows.length := by
      unfold cellAt at hjq
      cases hr : rows[j]? with
      | none => simp [hr] at hjq
      | some row =>
        simp [hr] at hjq
        have hlt := (List.getElem?_eq_some_iff.1 hjq).1
        have := (h2 row (List.mem_of_getElem? hr)).1
        exact ⟨by omega, (List.getElem?_eq_some_iff.1 hr).1⟩
    have hin : j * m + q < ext := by
      have : (j + 1) * m ≤ rows.length * m := Nat.mul_le_mul_right _ hq.2
      rw [Nat.succ_mul] at this
      omega
    unfold World.cell? at hu ⊢
    rw [hb] at hu; rw [hb']
    simp only [Option.isSome_none, Bool.false_eq_true, if_false] at hu ⊢
    rw [hx _ (by omega) (by omega)]; exact hu
  | obj r =>
    cases o <;> simp only [ObjRel] at h ⊢
    · obtain ⟨es', clock, ks, hr, h1, h2, h3, h4, h5, h6, h7⟩ := h
      exact ⟨es', clock, ks, ho r _ rfl hr rfl, h1, h2, h3, h4, h5, h6, fun i e e' he he' => ⟨(h7 i e e' he he').1, hv _ _ (h7 i e e' he he').2⟩⟩
    · exact ho r _ rfl h rfl
    · obtain ⟨tmps, d, fn, hr, h1, h2⟩ := h
      exact ⟨tmps, d, fn, ho r _ rfl hr rfl, h1, fun t u hu => hv _ _ (h2 t u hu)⟩
    · exact ho r _ rfl h rfl
theorem Own.of_loc {ι : Nm} {σ : AHeap} {N m b off ext m' : Nat} {rows : List (List AVal)} (h : ι N = some (.cells m b off ext)) (hs : σ.objs N = some (.cells m' rows)) {x : Nat} (h1 : off ≤ x) (h2 : x < off + ext) :
    Own ι σ b x := ⟨N, m, off, ext, m', rows, h, hs, h1, h2⟩
theorem ObjRel.cells_form {ι : Nm} {ro : Ros} {w : World} {m b off ext : Nat} {o : AObj} (h : ObjRel ι ro w (.cells m b off ext) o) : ∃ rows, o = .cells m rows := by
  cases o <;> simp [ObjRel] at h
  exact ⟨_, by rw [h.1]⟩
theorem Rel.lt_cells {ι : Nm} {ro : Ros} {σ : AHeap} {w : World} (R : Rel ι ro σ w) {N m b off ext : Nat} {o : AObj} (h : ι N = some (.cells m b off ext)) (hs : σ.objs N = some o) : b < w.heap.size := by
  have := R.obj _ _ _ h hs
  obtain ⟨rows, rfl⟩ := this.cells_form
  obtain ⟨_, _, _, ⟨c, e, f, hb, _⟩, _⟩ := this
  exact (Array.getElem?_eq_some_iff.1 hb).1
theorem ObjRel.obj_block {ι : Nm} {ro : Ros} {w : World} {r : Nat} {o : AObj} (h : ObjRel ι ro w (.obj r) o) : ∃ x, w.heap[r]? = some x ∧ isCells x = false := by
  cases o <;> simp only [ObjRel] at h
  · obtain ⟨es', clock, ks, hr, _⟩ := h; exact ⟨_, hr, rfl⟩
  · exact ⟨_, h, rfl⟩
  · obtain ⟨tmps, d, fn, hr, _⟩ := h; exact ⟨_, hr, rfl⟩
  · exact ⟨_, h, rfl⟩
theorem Rel.lt_obj {ι : Nm} {ro : Ros} {σ : AHeap} {w : World} (R : Rel ι ro σ w) {N r : Nat} {o : AObj} (h : ι N = some (.obj r)) (hs : σ.objs N = some o) : r < w.heap.size := by
  obtain ⟨x, hx, _⟩ := (R.obj _ _ _ h hs).obj_block
  exact (Array.getElem?_eq_some_iff.1 hx).1
theorem Frame.drew (ι : Nm) (σ : AHeap) (w : World) : Frame ι σ w w.drew :=
  ⟨rfl, rfl, rfl, Nat.le_refl _, fun _ c _ _ h => ⟨c, h, rfl, fun _ _ => rfl⟩, fun _ _ h _ _ => h⟩
theorem Later.drew (ι : Nm) (ro : Ros) (σ : AHeap) (w : World) : Later ι ro σ w ι ro σ w.drew :=
  ⟨.drew _ _ _, fun _ _ h => h, fun _ _ h => h, fun _ _ _ h => h, fun _ _ h => h, fun _ _ _ h => .inl h, .refl _ _⟩
theorem VRel.drew {ι : Nm} {ro : Ros} {w : World} {v : AVal} {u : Value} (h : VRel ι ro w v u) : VRel ι ro w.drew v u :=
  h.mono (fun _ _ h => h) (fun _ _ h => h) (fun b o v _ h => by rw [World.cell?_drew]; exact h)
theorem Rel.drew {ι : Nm} {ro : Ros} {σ : AHeap} {w : World} (R : Rel ι ro σ w) : Rel ι ro σ w.drew :=
  ⟨R.dom, fun N l o h hs => (R.obj N l o h hs).mono (fun _ _ h => h) (fun _ _ h => h.drew) (fun _ _ _ _ _ c _ _ h => ⟨c, h, rfl, fun _ _ _ => rfl⟩) (fun _ _ _ h _ => h),
    R.apart, R.roSep, R.roIn⟩
theorem heap_alloc_lt (w : World) (o : Obj) {b : Nat} (h : b < w.heap.size) : (w.alloc o).heap[b]? = w.heap[b]? := by
  show (w.heap.push o)[b]? = _
  rw [Array.getElem?_push, if_neg (by omega)]
theorem heap_alloc_new (w : World) (o : Obj) : (w.alloc o).heap[w.heap.size]? = some o := by
  show (w.heap.push o)[w.heap.size]? = _
  simp
theorem VRel.alloc {ι : Nm} {ro : Ros} {σ : AHeap} {w : World} (R : Rel ι ro σ w) (l : Loc) (o : Obj) {v : AVal} {u : Value} (h : VRel ι ro w v u) : VRel (upd ι σ.next l) ro (w.alloc o) v u :=
  h.mono (upd_fresh R l) (fun _ _ h => h) (fun b x v hr hc => by rw [World.cell?_alloc_lt w o ⟨b, x, none⟩ (R.roIn b x hr)]; exact hc)
theorem alloc_gen {ι : Nm} {ro : Ros} {σ : AHeap} {w : World} (R : Rel ι ro σ w) (l : Loc) (o : Obj) (ao : AObj)
    (hl : l = .obj w.heap.size ∨ ∃ m ext, l = .cells m w.heap.size 0 ext) (hao : ObjRel (upd ι σ.next l) ro (w.alloc o) l ao) :
    Rel (upd ι σ.next l) ro (σ.alloc ao) (w.alloc o) ∧ Later ι ro σ w (upd ι σ.next l) ro (σ.alloc ao) (w.alloc o) := by
  have hnew : ∀ {N k}, ι N = some k → N ≠ σ.next := fun h e => by have := R.dom _ _ h; omega
  have old : ∀ {N k x}, upd ι σ.next l N = some k → (σ.alloc ao).objs N = some x → N ≠ σ.next → ι N = some k ∧ σ.objs N = some x := by
    intro N k x h hs hn
    rw [upd_ne ι l hn] at h
    rw [AHeap.objs_alloc, if_neg hn] at hs
    exact ⟨h, hs⟩
  have atnew : ∀ {k x}, upd ι σ.next l σ.next = some k → (σ.alloc ao).objs σ.next = some x → k = l ∧ x = ao := by
    intro k x h hs
    rw [upd_same] at h
    rw [AHeap.objs_alloc, if_pos rfl] at hs
    exact ⟨(Option.some.inj h).symm, (Option.some.inj hs).symm⟩
  have ownOld : ∀ b x, b < w.heap.size → Own (upd ι σ.next l) (σ.alloc ao) b x → Own ι σ b x := by
    rintro b x hb ⟨N, m, off, ext, m', rows, h, hs, h1, h2⟩
    by_cases hn : N = σ.next
    · subst hn
      obtain ⟨he, -⟩ := atnew h hs
      rcases hl with hl | ⟨m0, e0, hl⟩
      · rw [hl] at he; cases he
      · rw [hl] at he; cases he; omega
    · obtain ⟨h', hs'⟩ := old h hs hn
      exact ⟨N, m, off, ext, m', rows, h', hs', h1, h2⟩
  have frame : Frame ι σ w (w.alloc o) := ⟨rfl, rfl, rfl, by simp, fun b c e f hb => ⟨c, by rw [heap_alloc_lt _ _ (Array.getElem?_eq_some_iff.1 hb).1]; exact hb, rfl, fun _ _ => rfl⟩,
    fun r x hr _ _ => by rw [heap_alloc_lt _ _ (Array.getElem?_eq_some_iff.1 hr).1]; exact hr⟩
  refine ⟨⟨?_, ?_, ?_, ?_, ?_⟩, ⟨frame, upd_fresh R l, fun _ _ h => h, ownOld, ?_, fun _ _ _ h => .inl h, .alloc (fun _ hn => upd_ne ι l hn) _⟩⟩
  · intro N k h
    by_cases hn : N = σ.next
    · rw [hn]; simp
    · rw [upd_ne ι l hn] at h
      have := R.dom _ _ h
      simp; omega
  · intro N k x h hs
    by_cases hn : N = σ.next
    · subst hn
      obtain ⟨rfl, rfl⟩ := atnew h hs
      exact hao
    · obtain ⟨h', hs'⟩ := old h hs hn
      exact (R.obj N k x h' hs').mono (upd_fresh R l) (fun v u hvu => hvu.alloc R l o)
        (fun m b off ext hk c e f hb => ⟨c, by rw [heap_alloc_lt _ _ (Array.getElem?_eq_some_iff.1 hb).1]; exact hb, rfl, fun _ _ _ => rfl⟩)
        (fun r x hk hr _ => by rw [heap_alloc_lt _ _ (Array.getElem?_eq_some_iff.1 hr).1]; exact hr)
  · have half : ∀ N' k k' x x', N' ≠ σ.next → upd ι σ.next l σ.next = some k → upd ι σ.next l N' = some k' → (σ.alloc ao).objs σ.next = some x → (σ.alloc ao).objs N' = some x' → LocApart k k' ∧ LocApart k' k := by
      intro N' k k' x x' hne h h' hs hs'
      obtain ⟨rfl, rfl⟩ := atnew h hs
      obtain ⟨g, gs⟩ := old h' hs' hne
      cases k' with
      | cells m b off ext =>
        have := R.lt_cells g gs
        rcases hl with rfl | ⟨m0, e0, rfl⟩
        · exact ⟨trivial, trivial⟩
        · exact ⟨.inl (by omega), .inl (by omega)⟩
      | obj r =>
        have := R.lt_obj g gs
        rcases hl with rfl | ⟨m0, e0, rfl⟩
        · exact ⟨by simp only [LocApart]; omega, by simp only [LocApart]; omega⟩
        · exact ⟨trivial, trivial⟩
    intro N N' k k' x x' hne h h' hs hs'
    by_cases hn : N = σ.next
    · subst hn
      exact (half N' k k' x x' (Ne.symm hne) h h' hs hs').1
    · by_cases hn' : N' = σ.next
      · subst hn'
        exact (half N k' k x' x hn h' h hs' hs).2
      · obtain ⟨g, gs⟩ := old h hs hn
        obtain ⟨g', gs'⟩ := old h' hs' hn'
        exact R.apart N N' k k' x x' hne g g' gs gs'
  · intro b x hr ho
    exact R.roSep b x hr (ownOld b x (R.roIn b x hr) ho)
  · intro b x hr
    have := R.roIn b x hr
    simp; omega
  · rintro r hr ⟨N, x, h, hs⟩
    by_cases hn : N = σ.next
    · subst hn
      obtain ⟨he, -⟩ := atnew h hs
      rcases hl with hl | ⟨m0, e0, hl⟩
      · rw [hl] at he; cases he; omega
      · rw [hl] at he; cases he
    · obtain ⟨h', hs'⟩ := old h hs hn
      exact ⟨N, x, h', hs'⟩
theorem cellAt_lt {rows : List (List AVal)} {m j q : Nat} {v : AVal} (hm : ∀ row ∈ rows, RowOk m row) (h : cellAt rows j q = some v) : j < rows.length ∧ q < m := by
  unfold cellAt at h
  cases hr : rows[j]? with
  | none => simp [hr] at h
  | some row =>
    simp [hr] at h
    have := (hm row (List.mem_of_getElem? hr)).1
    exact ⟨(List.getElem?_eq_some_iff.1 hr).1, by have := (List.getElem?_eq_some_iff.1 h).1; omega⟩
theorem mul_lt {j n m q : Nat} (hj : j < n) (hq : q < m) : j * m + q < n * m := by
  have : (j + 1) * m ≤ n * m := Nat.mul_le_mul_right _ hj
  rw [Nat.succ_mul] at this
  omega
theorem alloc_cells {ι : Nm} {ro : Ros} {σ : AHeap} {w : World} (R : Rel ι ro σ w) (m : Nat) (rows : List (List AVal)) (cs : Array Value) (t : TypeId)
    (hm : ∀ row ∈ rows, RowOk m row) (hs : rows.length * m ≤ cs.size) (hc : ∀ j q v, cellAt rows j q = some v → ∃ u, cs[j * m + q]? = some u ∧ VRel ι ro w v u) :
    Rel (upd ι σ.next (.cells m w.heap.size 0 cs.size)) ro (σ.alloc (.cells m rows)) (w.alloc (.cells cs t)) ∧
    Later ι ro σ w (upd ι σ.next (.cells m w.heap.size 0 cs.size)) ro (σ.alloc (.cells m rows)) (w.alloc (.cells cs t)) := by
  refine alloc_gen R _ _ _ (.inr ⟨m, cs.size, rfl⟩) ⟨rfl, hm, hs, ⟨cs, t, (0, 0), heap_alloc_new _ _, by omega, fun o _ _ h => by simp at h⟩, fun j q v hv => ?_⟩
  obtain ⟨u, hu, hr⟩ := hc j q v hv
  exact ⟨u, by rw [Nat.zero_add, World.cell?_alloc_new]; exact hu, hr.alloc R _ _⟩
theorem alloc_obj {ι : Nm} {ro : Ros} {σ : AHeap} {w : World} (R : Rel ι ro σ w) (o : Obj) (ao : AObj) (hao : ObjRel (upd ι σ.next (.obj w.heap.size)) ro (w.alloc o) (.obj w.heap.size) ao) :
    Rel (upd ι σ.next (.obj w.heap.size)) ro (σ.alloc ao) (w.alloc o) ∧ Later ι ro σ w (upd ι σ.next (.obj w.heap.size)) ro (σ.alloc ao) (w.alloc o) :=
  alloc_gen R _ _ _ (.inl rfl) hao
structure Wrote (b lo hi : Nat) (w w' : World) : Prop where
  os : w'.os = w.os
  tape : w'.tape = w.tape
  output : w'.output = w.output
  size : w'.heap.size = w.heap.size
  other : ∀ k : Nat, k ≠ b → w'.heap[k]? = w.heap[k]?
  here : ∀ c e f, w.heap[b]? = some (Obj.cells c e f) → ∃ c', w'.heap[b]? = some (Obj.cells c' e f) ∧ c'.size = c.size ∧ ∀ o : Nat, ¬ (lo ≤ o ∧ o < hi) → c'[o]? = c[o]?
theorem Wrote.cell {b lo hi : Nat} {w w' : World} (h : Wrote b lo hi w w') {b' o : Nat} {v : Value} (hn : ¬ (b' = b ∧ lo ≤ o ∧ o < hi)) (hc : w.cell? ⟨b', o, none⟩ = some v) : w'.cell? ⟨b', o, none⟩ = some v := by
  unfold World.cell? at hc ⊢
  simp only at hc ⊢
  by_cases hb : b' = b
  · subst hb
    split at hc
    · rename_i c e f hx
      obtain ⟨c', h1, _, h3⟩ := h.here c e f hx
      rw [h1]; simp only [Option.isSome_none, Bool.false_eq_true, if_false] at hc ⊢
      rw [h3 o (fun x => hn ⟨rfl, x⟩)]; exact hc
    · cases hc
  · rw [h.other b' hb]; exact hc
theorem ObjRel.eq_m {ι : Nm} {ro : Ros} {w : World} {m b off ext m' : Nat} {rows : List (List AVal)} (h : ObjRel ι ro w (.cells m b off ext) (.cells m' rows)) : m' = m := h.1
theorem wrote_gen {ι : Nm} {ro : Ros} {σ : AHeap} {w w' : World} (R : Rel ι ro σ w) {N m b off ext lo hi m0 : Nat} {rows0 : List (List AVal)} (h : ι N = some (.cells m b off ext)) (hs : σ.objs N = some (.cells m0 rows0))
    (hlo : off ≤ lo) (hhi : hi ≤ off + ext) (hw : Wrote b lo hi w w') :
    Frame ι σ w w' ∧ (∀ v u, VRel ι ro w v u → VRel ι ro w' v u) ∧ ∀ M l o, M ≠ N → ι M = some l → σ.objs M = some o → ObjRel ι ro w' l o := by
  have hown : ∀ x, lo ≤ x → x < hi → Own ι σ b x := fun x h1 h2 => Own.of_loc h hs (by omega) (by omega)
  have hv : ∀ v u, VRel ι ro w v u → VRel ι ro w' v u := fun v u hvu => hvu.mono (fun _ _ h => h) (fun _ _ h => h)
    (fun b' x v hr hc => hw.cell (fun ⟨e, h1, h2⟩ => R.roSep b' x hr (e ▸ hown x h1 h2)) hc)
  refine ⟨⟨hw.os, hw.tape, hw.output, by rw [hw.size]; exact Nat.le_refl _, ?_, ?_⟩, hv, ?_⟩
  · intro b' c e f hb
    by_cases hbb : b' = b
    · subst hbb
      obtain ⟨c', h1, h2, h3⟩ := hw.here c e f hb
      exact ⟨c', h1, h2, fun o ho => h3 o (fun x => ho (hown o x.1 x.2))⟩
    · exact ⟨c, by rw [hw.other b' hbb]; exact hb, rfl, fun _ _ => rfl⟩
  · intro r o hr hc _
    have : r ≠ b := by
      rintro rfl
      obtain ⟨_, _, _, ⟨c, e, f, hb, _⟩, _⟩ := R.obj _ _ _ h hs
      rw [hb] at hr; cases hr; cases hc
    rw [hw.other r this]; exact hr
  · intro M l o hne hM hMo
    refine (R.obj M l o hM hMo).mono (fun _ _ h => h) hv ?_ ?_
    · rintro m' b' off' ext' rfl c e f hb
      by_cases hbb : b' = b
      · subst hbb
        obtain ⟨c', h1, h2, h3⟩ := hw.here c e f hb
        refine ⟨c', h1, h2, fun x hx1 hx2 => h3 x (fun hx => ?_)⟩
        have := R.apart M N _ _ _ _ hne hM h hMo hs
        simp only [LocApart] at this
        omega
      · exact ⟨c, by rw [hw.other b' hbb]; exact hb, rfl, fun _ _ _ => rfl⟩
    · rintro r x rfl hr hc
      have : r ≠ b := by
        rintro rfl
        obtain ⟨_, _, _, ⟨c, e, f, hb, _⟩, _⟩ := R.obj _ _ _ h hs
        rw [hb] at hr; cases hr; cases hc
      rw [hw.other r this]; exact hr
theorem write_cells {ι : Nm} {ro : Ros} {σ : AHeap} {w w' : World} (R : Rel ι ro σ w) {N m b off ext lo hi m0 : Nat} {rows0 : List (List AVal)} (h : ι N = some (.cells m b off ext)) (hs : σ.objs N = some (.cells m0 rows0))
    (hlo : off ≤ lo) (hhi : hi ≤ off + ext) (hw : Wrote b lo hi w w') (rows : List (List AVal)) (hm : ∀ row ∈ rows, RowOk m row) (hl : rows.length * m ≤ ext)
    (hc : ∀ j q v, cellAt rows j q = some v → ∃ u, w'.cell? ⟨b, off + j * m + q, none⟩ = some u ∧ VRel ι ro w v u) :
    Rel ι ro (σ.set N (.cells m rows)) w' ∧ Later ι ro σ w ι ro (σ.set N (.cells m rows)) w' := by
  obtain ⟨hf, hv, ho⟩ := wrote_gen R h hs hlo hhi hw
  have own : ∀ b x, Own ι (σ.set N (.cells m rows)) b x → Own ι σ b x := by
    rintro b' x ⟨M, m1, off1, ext1, m1', rows1, h1, h2, h3, h4⟩
    by_cases hM : M = N
    · subst hM; exact ⟨M, m1, off1, ext1, m0, rows0, h1, hs, h3, h4⟩
    · rw [AHeap.objs_set, if_neg hM] at h2; exact ⟨M, m1, off1, ext1, m1', rows1, h1, h2, h3, h4⟩
  obtain ⟨_, _, _, ⟨c, e, f, hb, hsz, hfz⟩, _⟩ := R.obj _ _ _ h hs
  obtain ⟨c', hb', hsz', _⟩ := hw.here c e f hb
  refine ⟨⟨R.dom, ?_, ?_, fun b' x hr ho' => R.roSep b' x hr (own b' x ho'), fun b' x hr => by rw [hw.size]; exact R.roIn b' x hr⟩,
    ⟨hf, fun _ _ h => h, fun _ _ h => h, fun b' x _ => own b' x, ?_, fun _ _ _ h => .inl h, .set h _⟩⟩
  · intro M l o hM hMo
    by_cases hMN : M = N
    · subst hMN
      rw [AHeap.objs_set, if_pos rfl] at hMo
      cases hMo
      rw [h] at hM; cases hM
      refine ⟨rfl, hm, hl, ⟨c', e, f, hb', by omega, hfz⟩, fun j q v hjq => ?_⟩
      obtain ⟨u, hu, hvu⟩ := hc j q v hjq
      exact ⟨u, hu, hv _ _ hvu⟩
    · rw [AHeap.objs_set, if_neg hMN] at hMo
      exact ho M l o hMN hM hMo
  · intro M M' l l' o o' hne hM hM' hMo hMo'
    have get : ∀ {M l o}, ι M = some l → (σ.set N (.cells m rows)).objs M = some o → ∃ o', σ.objs M = some o' := by
      intro M l o hM hMo
      by_cases hMN : M = N
      · subst hMN; exact ⟨_, hs⟩
      · rw [AHeap.objs_set, if_neg hMN] at hMo; exact ⟨_, hMo⟩
    obtain ⟨x, hx⟩ := get hM hMo
    obtain ⟨x', hx'⟩ := get hM' hMo'
    exact R.apart M M' l l' x x' hne hM hM' hx hx'
  · rintro r _ ⟨M, o, hM, hMo⟩
    by_cases hMN : M = N
    · subst hMN; rw [h] at hM; cases hM
    · rw [AHeap.objs_set, if_neg hMN] at hMo; exact ⟨M, o, hM, hMo⟩
theorem reuse_cells {ι : Nm} {ro : Ros} {σ : AHeap} {w w' : World} (R : Rel ι ro σ w) {N m b off ext lo hi m0 d : Nat} {rows0 : List (List AVal)} (h : ι N = some (.cells m b off ext)) (hs : σ.objs N = some (.cells m0 rows0))
    (hlo : off ≤ lo) (hhi : hi ≤ off + ext) (hw : Wrote b lo hi w w') (hd : d ≤ ext) (rows : List (List AVal)) (hm : ∀ row ∈ rows, RowOk m row) (hl : rows.length * m ≤ ext - d)
    (hc : ∀ j q v, cellAt rows j q = some v → ∃ u, w'.cell? ⟨b, off + d + j * m + q, none⟩ = some u ∧ VRel ι ro w v u) :
    Rel (upd ι σ.next (.cells m b (off + d) (ext - d))) ro ((σ.kill N).alloc (.cells m rows)) w' ∧
    Later ι ro σ w (upd ι σ.next (.cells m b (off + d) (ext - d))) ro ((σ.kill N).alloc (.cells m rows)) w' := by
  obtain ⟨hf, hv, ho⟩ := wrote_gen R h hs hlo hhi hw
  have hNlt := R.dom _ _ h
  obtain ⟨_, _, _, ⟨c, e, f, hb, hsz, hfz⟩, _⟩ := R.obj _ _ _ h hs
  obtain ⟨c', hb', hsz', _⟩ := hw.here c e f hb
  have hv' : ∀ v u, VRel ι ro w v u → VRel (upd ι σ.next (.cells m b (off + d) (ext - d))) ro w' v u := fun v u hvu =>
    (hv v u hvu).mono (upd_fresh R _) (fun _ _ h => h) (fun _ _ _ _ h => h)
  have get : ∀ {M l o}, upd ι σ.next (.cells m b (off + d) (ext - d)) M = some l → ((σ.kill N).alloc (.cells m rows)).objs M = some o →
      (M = σ.next ∧ l = .cells m b (off + d) (ext - d) ∧ o = .cells m rows) ∨ (M ≠ σ.next ∧ M ≠ N ∧ ι M = some l ∧ σ.objs M = some o) := by
    intro M l o hM hMo
    by_cases hMn : M = σ.next
    · subst hMn
      rw [upd_same] at hM
      rw [AHeap.objs_alloc, AHeap.next_kill, if_pos rfl] at hMo
      exact .inl ⟨rfl, (Option.some.inj hM).symm, (Option.some.inj hMo).symm⟩
    · rw [upd_ne ι _ hMn] at hM
      rw [AHeap.objs_alloc, AHeap.next_kill, if_neg hMn, AHeap.objs_kill] at hMo
      by_cases hMN : M = N
      · rw [if_pos hMN] at hMo; cases hMo
      · rw [if_neg hMN] at hMo; exact .inr ⟨hMn, hMN, hM, hMo⟩
  have own : ∀ b' x, Own (upd ι σ.next (.cells m b (off + d) (ext - d))) ((σ.kill N).alloc (.cells m rows)) b' x → Own ι σ b' x := by
    rintro b' x ⟨M, m1, off1, ext1, m1', rows1, h1, h2, h3, h4⟩
    rcases get h1 h2 with ⟨rfl, he, _⟩ | ⟨_, _, g1, g2⟩
    · cases he; exact Own.of_loc h hs (by omega) (by omega)
    · exact ⟨M, m1, off1, ext1, m1', rows1, g1, g2, h3, h4⟩
  refine ⟨⟨?_, ?_, ?_, fun b' x hr ho' => R.roSep b' x hr (own b' x ho'), fun b' x hr => by rw [hw.size]; exact R.roIn b' x hr⟩,
    ⟨hf, upd_fresh R _, fun _ _ h => h, fun b' x _ => own b' x, ?_, fun _ _ _ h => .inl h, (Kept.kill ι σ N).trans (.alloc (fun _ hn => upd_ne ι _ hn) _)⟩⟩
  · intro M l hM
    by_cases hMn : M = σ.next
    · rw [hMn]; simp
    · rw [upd_ne ι _ hMn] at hM
      have := R.dom _ _ hM
      simp; omega
  · intro M l o hM hMo
    rcases get hM hMo with ⟨rfl, rfl, rfl⟩ | ⟨_, hMN, g1, g2⟩
    · refine ⟨rfl, hm, hl, ⟨c', e, f, hb', by omega, fun o h1 h2 => hfz o (by omega) (by omega)⟩, fun j q v hjq => ?_⟩
      obtain ⟨u, hu, hvu⟩ := hc j q v hjq
      exact ⟨u, hu, hv' _ _ hvu⟩
    · exact (ho M l o hMN g1 g2).mono (upd_fresh R _) (fun v u hvu => hvu.mono (upd_fresh R _) (fun _ _ h => h) (fun _ _ _ _ h => h))
        (fun _ _ _ _ _ c _ _ h => ⟨c, h, rfl, fun _ _ _ => rfl⟩) (fun _ _ _ h _ => h)
  · intro M M' l l' o o' hne hM hM' hMo hMo'
    rcases get hM hMo with ⟨rfl, rfl, rfl⟩ | ⟨_, hMN, g1, g2⟩ <;> rcases get hM' hMo' with ⟨rfl, rfl, rfl⟩ | ⟨_, hMN', g1', g2'⟩
    · exact absurd rfl hne
    · have := R.apart N M' _ _ _ _ (Ne.symm hMN') h g1' hs g2'
      cases l' <;> simp only [LocApart] at this ⊢
      omega
    · have := R.apart M N _ _ _ _ hMN g1 h g2 hs
      cases l <;> simp only [LocApart] at this ⊢
      omega
    · exact R.apart M M' l l' o o' hne g1 g1' g2 g2'
  · rintro r _ ⟨M, o, hM, hMo⟩
    rcases get hM hMo with ⟨_, he, _⟩ | ⟨_, _, g1, g2⟩
    · cases he
    · exact ⟨M, o, g1, g2⟩
theorem write_obj {ι : Nm} {ro : Ros} {σ : AHeap} {w w' : World} (R : Rel ι ro σ w) {N r : Nat} {o0 : AObj} (h : ι N = some (.obj r)) (hs : σ.objs N = some o0) (o : AObj) (ho : ObjRel ι ro w' (.obj r) o)
    (hos : w'.os = w.os) (htape : w'.tape = w.tape) (hout : w'.output = w.output) (hsize : w'.heap.size = w.heap.size) (hother : ∀ k : Nat, k ≠ r → w'.heap[k]? = w.heap[k]?) :
    Rel ι ro (σ.set N o) w' ∧ Later ι ro σ w ι ro (σ.set N o) w' := by
  obtain ⟨x0, hx0, hc0⟩ := (R.obj _ _ _ h hs).obj_block
  have hcells : ∀ (b : Nat) c e f, w.heap[b]? = some (Obj.cells c e f) → w'.heap[b]? = some (Obj.cells c e f) := fun b c e f hb => by
    have : b ≠ r := by rintro rfl; rw [hx0] at hb; cases hb; cases hc0
    rw [hother b this]; exact hb
  have hcell : ∀ (b x : Nat) v, w.cell? ⟨b, x, none⟩ = some v → w'.cell? ⟨b, x, none⟩ = some v := fun b x v hc => by
    unfold World.cell? at hc ⊢
    simp only at hc ⊢
    split at hc
    · rename_i c e f hb
      rw [hcells b c e f hb]; exact hc
    · cases hc
  have hv : ∀ v u, VRel ι ro w v u → VRel ι ro w' v u := fun v u hvu => hvu.mono (fun _ _ h => h) (fun _ _ h => h) (fun b x v _ hc => hcell b x v hc)
  have own : ∀ b x, Own ι (σ.set N o) b x → Own ι σ b x := by
    rintro b' x ⟨M, m1, off1, ext1, m1', rows1, h1, h2, h3, h4⟩
    by_cases hM : M = N
    · subst hM; rw [h] at h1; cases h1
    · rw [AHeap.objs_set, if_neg hM] at h2; exact ⟨M, m1, off1, ext1, m1', rows1, h1, h2, h3, h4⟩
  have get : ∀ {M l x}, ι M = some l → (σ.set N o).objs M = some x → ∃ x', σ.objs M = some x' := by
    intro M l x hM hMo
    by_cases hMN : M = N
    · subst hMN; exact ⟨_, hs⟩
    · rw [AHeap.objs_set, if_neg hMN] at hMo; exact ⟨_, hMo⟩
  refine ⟨⟨R.dom, ?_, ?_, fun b' x hr ho' => R.roSep b' x hr (own b' x ho'), fun b' x hr => by rw [hsize]; exact R.roIn b' x hr⟩,
    ⟨⟨hos, htape, hout, by rw [hsize]; exact Nat.le_refl _, fun b c e f hb => ⟨c, hcells b c e f hb, rfl, fun _ _ => rfl⟩, ?_⟩, fun _ _ h => h, fun _ _ h => h, fun b' x _ => own b' x, ?_, fun _ _ _ h => .inl h, .set h _⟩⟩
  · intro M l x hM hMo
    by_cases hMN : M = N
    · subst hMN
      rw [AHeap.objs_set, if_pos rfl] at hMo
      cases hMo
      rw [h] at hM; cases hM
      exact ho
    · rw [AHeap.objs_set, if_neg hMN] at hMo
      refine (R.obj M l x hM hMo).mono (fun _ _ h => h) hv (fun _ b _ _ _ c e f hb => ⟨c, hcells b c e f hb, rfl, fun _ _ _ => rfl⟩) ?_
      rintro r' y rfl hr' _
      have : r' ≠ r := by
        rintro rfl
        have := R.apart M N _ _ _ _ hMN hM h hMo hs
        exact this rfl
      rw [hother r' this]; exact hr'
  · intro M M' l l' x x' hne hM hM' hMo hMo'
    obtain ⟨y, hy⟩ := get hM hMo
    obtain ⟨y', hy'⟩ := get hM' hMo'
    exact R.apart M M' l l' y y' hne hM hM' hy hy'
  · intro r' y hr' _ hn
    have : r' ≠ r := by rintro rfl; exact hn ⟨N, o0, h, hs⟩
    rw [hother r' this]; exact hr'
  · rintro r' _ ⟨M, x, hM, hMo⟩
    obtain ⟨y, hy⟩ := get hM hMo
    exact ⟨M, y, hM, hy⟩
end Go.Tc
namespace Go.Tc
inductive Opnd where
  | t (n : Nat)
  | c (v : AVal)
  | f (f : FuncId)
  deriving Inhabited
inductive EqT where
  | bool | int | str | ptr | slice | map | fn | iface | ifn
  | struct (fs : List (Nat × Nat × Bool × EqT))
  deriving Inhabited
inductive Cv where
  | int (k : IntKind)
  | id
  | bytesOfStr
  | strOfBytes
  | strOfInt
  deriving Inhabited
inductive AOp where
  | mv (x : Opnd)
  | pick (c a b : Opnd)
  | alloc (z : List AVal)
  | box (x : Opnd)
  | build (z : List AVal) (parts : List (Nat × Nat × Opnd))
  | buildS (m : Nat) (z : List AVal) (len : Nat) (parts : List (Nat × Opnd))
  | load (agg : Bool) (n : Nat) (x : Opnd)
  | store (n : Nat) (a x : Opnd)
  | nilck (x : Opnd)
  | bin (op : BinOp) (e : EqT) (x y : Opnd)
  | un (op : UnOp) (x : Opnd)
  | conv (c : Cv) (x : Opnd)
  | mkI (t : TypeId) (x : Opnd)
  | mkF (fn : Fn) (first caps : List Opnd)
  | mkM (K : KT)
  | mkS (z : List AVal) (bytes : Nat) (l c : Opnd)
  | slS (m : Nat) (x : Opnd) (lo hi mx : Option Opnd)
  | slStr (x : Opnd) (lo hi : Option Opnd)
  | slA (n m : Nat) (x : Opnd) (lo hi : Option Opnd)
  | fa (off : Nat) (x : Opnd)
  | fld (agg : Bool) (n off : Nat) (x : Opnd)
  | ixA (len m : Nat) (x i : Opnd)
  | ixS (m : Nat) (x i : Opnd)
  | ixV (len : Nat) (agg : Bool) (m : Nat) (x i : Opnd)
  | ixStr (x i : Opnd)
  | look (k : KT) (z : AVal) (x i : Opnd) (ok : Bool)
  | upd (k : KT) (m i x : Opnd)
  | del (k : KT) (m i : Opnd)
  | rngStr (x : Opnd)
  | nextStr (x : Opnd)
  | tas (asserted : TypeId) (z : AVal) (x : Opnd) (ok : Bool)
  | ext (x : Opnd) (i : Nat)
  | b2s (x : Opnd)
  | lenStr (x : Opnd) | lenS (x : Opnd) | lenM (x : Opnd) | lenA (n : Nat)
  | app (m : Nat) (bytes : Nat) (s x : Opnd)
  | cpy (m : Nat) (d s : Opnd)
  | mx (xs : List Opnd)
  | mn (xs : List Opnd)
  | panic (x : Opnd)
  | callF (f : FuncId) (args : List Opnd)
  | callV (f : Opnd) (args : List Opnd)
  | callI (recv : Opnd) (name : String) (args : List Opnd)
  | dfr (f : Opnd) (args : List Opnd)
  | recov
  deriving Inhabited
structure ADef where
  fn : AVal
  args : List AVal
structure AEnv where
  n : Nat
  t : Nat → AVal
  ds : List (AVal × List AVal)
def AEnv.set (e : AEnv) (d : Nat) (v : AVal) : AEnv := { e with t := fun i => if i = d then v else e.t i }
def AEnv.put (e : AEnv) (d : Option Nat) (v : AVal) : AEnv := match d with | some d => e.set d v | none => e
def AEnv.ev (e : AEnv) : Opnd → AVal
  | .t n => e.t n
  | .c v => v
  | .f f => .func (.func f) [] []
def AVal.cells : AVal → List AVal
  | .agg cs => cs
  | v => [v]
def binI (op : BinOp) (k : IntKind) (a b : Int) : Option AVal :=
  match op with
  | .add => some (.int k (k.wrap (a + b)))
  | .sub => some (.int k (k.wrap (a - b)))
  | .mul => some (.int k (k.wrap (a * b)))
  | .quo => if b = 0 then none else some (.int k (k.wrap (a.tdiv b)))
  | .rem => if b = 0 then none else some (.int k (a.tmod b))
  | .and => some (.int k (k.wrap (BitVec.ofInt k.bits a &&& BitVec.ofInt k.bits b).toNat))
  | .or => some (.int k (k.wrap (BitVec.ofInt k.bits a ||| BitVec.ofInt k.bits b).toNat))
  | .xor => some (.int k (k.wrap (BitVec.ofInt k.bits a ^^^ BitVec.ofInt k.bits b).toNat))
  | .andNot => some (.int k (k.wrap (BitVec.ofInt k.bits a &&& ~~~ BitVec.ofInt k.bits b).toNat))
  | .eql => some (.bool (a == b))
  | .neq => some (.bool (a != b))
  | .lss => some (.bool (decide (a < b)))
  | .leq => some (.bool (decide (a ≤ b)))
  | .gtr => some (.bool (decide (a > b)))
  | .geq => some (.bool (decide (a ≥ b)))
  | _ => none
def shiftI (op : BinOp) (k : IntKind) (a b : Int) : Option AVal :=
  if b < 0 then none else
  match op with
  | .shl => some (.int k (k.wrap (a * 2 ^ (min b.toNat k.bits))))
  | .shr => some (.int k (a.fdiv (2 ^ (min b.toNat k.bits))))
  | _ => none
def binStr (op : BinOp) (a b : ByteArray) : Option AVal :=
  match op with
  | .add => if a.size + b.size ≤ 9223372036854775807 then some (.str (a ++ b)) else none
  | .eql => some (.bool (a.toList == b.toList))
  | .neq => some (.bool (!(a.toList == b.toList)))
  | .lss => some (.bool (Op.bytesLess a.toList b.toList))
  | .leq => some (.bool (Op.bytesLess a.toList b.toList || a.toList == b.toList))
  | .gtr => some (.bool (!(Op.bytesLess a.toList b.toList || a.toList == b.toList)))
  | .geq => some (.bool (!Op.bytesLess a.toList b.toList))
  | _ => none
def partA (agg : Bool) (n off : Nat) (cs : List AVal) : Option AVal :=
  if agg then (if off + n ≤ cs.length then some (.agg ((cs.drop off).take n)) else none) else cs[off]?
def eqL (e : EqT) (x y : AVal) : Option Bool :=
  match e with
  | .bool => (match x, y with | .bool a, .bool b => some (a == b) | _, _ => none)
  | .int => (match x, y with | .int k a, .int k' b => if k = k' then some (a == b) else none | _, _ => none)
  | .str => (match x, y with | .str a, .str b => some (a == b) | _, _ => none)
  | .ptr => (match x, y with
    | .nilP, .nilP => some true
    | .nilP, .ptr .. => some false
    | .nilP, .rptr .. => some false
    | .ptr .., .nilP => some false
    | .rptr .., .nilP => some false
    | _, _ => none)
  | .slice => (match x, y with
    | .nilS, .nilS => some true
    | .nilS, .ms .. => some false
    | .ms .., .nilS => some false
    | .nilS, .rs .. => some false
    | .rs .., .nilS => some false
    | _, _ => none)
  | .map => (match x, y with
    | .nilM, .nilM => some true
    | .nilM, .map _ => some false
    | .map _, .nilM => some false
    | _, _ => none)
  | .fn => (match x, y with
    | .nilF, .nilF => some true
    | .nilF, .func .. => some false
    | .func .., .nilF => some false
    | _, _ => none)
  | .ifn => (match x, y with
    | .nilI, .nilI => some true
    | .nilI, .iface .. => some false
    | .iface .., .nilI => some false
    | _, _ => none)
  | .iface => (match x, y with
    | .nilI, .iface .. => some false
    | .iface .., .nilI => some false
    | _, _ => none)
  | .struct _ => none
mutual
def eqA : EqT → AVal → AVal → Option Bool
  | .struct fs, x, y => (match x, y with | .agg a, .agg b => eqAs fs a b | _, _ => none)
  | .bool, x, y => eqL .bool x y
  | .int, x, y => eqL .int x y
  | .str, x, y => eqL .str x y
  | .ptr, x, y => eqL .ptr x y
  | .slice, x, y => eqL .slice x y
  | .map, x, y => eqL .map x y
  | .fn, x, y => eqL .fn x y
  | .iface, x, y => eqL .iface x y
  | .ifn, x, y => eqL .ifn x y
def eqAs : List (Nat × Nat × Bool × EqT) → List AVal → List AVal → Option Bool
  | [], _, _ => some true
  | (off, n, agg, e) :: fs, a, b =>
    match partA agg n off a, partA agg n off b with
    | some x, some y => (match eqA e x y with | some true => eqAs fs a b | some false => some false | none => none)
    | _, _ => none
end
def binA (op : BinOp) (e : EqT) (x y : AVal) : Option AVal :=
  match op, x, y with
  | .shl, .int k a, .int _ b | .shr, .int k a, .int _ b => shiftI op k a b
  | _, .int k a, .int k' b => if k = k' then binI op k a b else none
  | _, .str a, .str b => binStr op a b
  | .eql, x, y => (eqA e x y).map .bool
  | .neq, x, y => (eqA e x y).map fun b => .bool (!b)
  | _, _, _ => none
def unA (op : UnOp) (x : AVal) : Option AVal :=
  match op, x with
  | .neg, .int k n => some (.int k (k.wrap (0 - n)))
  | .xor, .int k n => some (.int k (k.wrap (BitVec.ofInt k.bits (if k.signed then -1 else k.max) ^^^ BitVec.ofInt k.bits n).toNat))
  | .not, .bool b => some (.bool (!b))
  | _, _ => none
def rowAt (σ : AHeap) : AVal → Option (List AVal × Nat)
  | .ptr N i k => match σ.objs N with | some (.cells _ rows) => (rows[i]?).map (·, k) | _ => none
  | .rptr _ rows i k => (rows[i]?).map (·, k)
  | _ => none
def loadA (σ : AHeap) (agg : Bool) (n : Nat) (p : AVal) : Option AVal :=
  match rowAt σ p with
  | some (row, k) => partA agg n k row
  | none => none
def splice (row : List AVal) (k : Nat) (vs : List AVal) : List AVal := row.take k ++ vs ++ row.drop (k + vs.length)
def storeA (σ : AHeap) (n : Nat) (p : AVal) (v : AVal) : Option AHeap :=
  match p with
  | .ptr N i k =>
    match σ.objs N with
    | some (.cells m rows) =>
      match rows[i]? with
      | some row => if v.cells.length = n ∧ k + n ≤ row.length ∧ v.cells.all AVal.one = true then some (σ.set N (.cells m (rows.set i (splice row k v.cells)))) else none
      | none => none
    | _ => none
  | _ => none
def fillA (cells : List AVal) : List (Nat × Nat × AVal) → Option (List AVal)
  | [] => some cells
  | (off, size, v) :: rest => if v.cells.length = size ∧ off + size ≤ cells.length ∧ v.cells.all AVal.one = true then fillA (splice cells off v.cells) rest else none
def fillRows (m : Nat) (rows : List (List AVal)) : List (Nat × AVal) → Option (List (List AVal))
  | [] => some rows
  | (i, v) :: rest => if v.cells.length = m ∧ i < rows.length ∧ v.cells.all AVal.one = true then fillRows m (rows.set i v.cells) rest else none
def asI : AVal → Option Int
  | .int _ n => some n
  | _ => none
def bound (x : Option AVal) (d hi : Nat) : Option Nat :=
  match x with
  | none => some d
  | some (.int _ n) => if 0 ≤ n ∧ n ≤ hi then some n.toNat else none
  | some _ => none
def sliceA (m : Nat) (x : AVal) (lo hi mx : Option AVal) : Option AVal :=
  match x with
  | .nilS => (bound hi 0 0).bind fun h => (bound mx 0 0).bind fun _ => (bound lo 0 h).map fun _ => .nilS
  | .ms m' N i len ex => if m' = m then ((bound hi len len).bind fun h => (bound lo 0 h).bind fun l =>
    match mx with
    | none => some (.ms m' N (i + l) (h - l) (ex && h == len))
    | some c => (bound (some c) len len).bind fun c => if c = h then some (.ms m' N (i + l) (h - l) true) else none) else none
  | .rs m' rows i len ex => if m' = m then ((bound hi len len).bind fun h => (bound lo 0 h).bind fun l =>
    match mx with
    | none => some (.rs m' rows (i + l) (h - l) (ex && h == len))
    | some c => (bound (some c) len len).bind fun c => if c = h then some (.rs m' rows (i + l) (h - l) true) else none) else none
  | _ => none
def idx (i : Int) (len : Nat) : Option Nat := if 0 ≤ i ∧ i < len then some i.toNat else none
def elems (σ : AHeap) (m : Nat) : AVal → Option (List (List AVal))
  | .nilS => some []
  | .ms m' N i len _ => if m' = m then (if len = 0 then some [] else match σ.objs N with
    | some (.cells _ rows) => if i + len ≤ rows.length then some ((rows.drop i).take len) else none
    | _ => none) else none
  | .rs m' rows i len _ => if m' = m then (if len = 0 then some [] else if i + len ≤ rows.length then some ((rows.drop i).take len) else none) else none
  | .str s => if m = 1 then some (s.data.toList.map fun b => [.int .u8 b.toNat]) else none
  | _ => none
def numsOf : List (List AVal) → Option (List Int)
  | [] => some []
  | [.int .u8 n] :: rest => (numsOf rest).map (n :: ·)
  | _ :: _ => none
def b2sA (σ : AHeap) : AVal → Option ByteArray
  | .nilS => some .empty
  | .ms m N i len ex => ((elems σ 1 (.ms m N i len ex)).bind numsOf).map fun ns => ⟨(ns.map fun n => UInt8.ofNat n.toNat).toArray⟩
  | .rs m rows i len ex => ((elems σ 1 (.rs m rows i len ex)).bind numsOf).map fun ns => ⟨(ns.map fun n => UInt8.ofNat n.toNat).toArray⟩
  | _ => none
def sumLen (a b bytes : Nat) : Bool := decide ((a + b) * bytes ≤ 70368744177664) && decide (a + b ≤ 4611686018427387904)
def appA (σ : AHeap) (m bytes : Nat) (s x : AVal) : Option (AVal × AHeap) :=
  match elems σ m x with
  | none => none
  | some xs =>
    match s with
    | .nilS => if xs.length = 0 then some (.nilS, σ) else if sumLen 0 xs.length bytes then some (.ms m σ.next 0 xs.length false, σ.alloc (.cells m xs)) else none
    | .ms m' N _ len ex =>
      if xs.length = 0 then some (s, σ) else
      match σ.objs N with
      | some (.cells _ _) =>
        match elems σ m s with
        | some old =>
          if m' = m ∧ sumLen len xs.length bytes = true then
            (if ex then some (.ms m σ.next 0 (len + xs.length) false, σ.alloc (.cells m (old ++ xs)))
             else some (.ms m σ.next 0 (len + xs.length) false, (σ.kill N).alloc (.cells m (old ++ xs))))
          else none
        | none => none
      | _ => none
    | .rs m' _ _ len ex =>
      if xs.length = 0 then some (s, σ) else
      match elems σ m s with
      | some old => if m' = m ∧ ex = true ∧ sumLen len xs.length bytes = true then some (.ms m σ.next 0 (len + xs.length) false, σ.alloc (.cells m (old ++ xs))) else none
      | none => none
    | _ => none
def cpyA (σ : AHeap) (m : Nat) (d s : AVal) : Option (AVal × AHeap) :=
  match elems σ m s with
  | none => none
  | some xs =>
    match d with
    | .nilS => some (.int .i64 0, σ)
    | .ms m' N i len _ =>
      if Nat.min xs.length len = 0 then some (.int .i64 0, σ) else
      match σ.objs N with
      | some (.cells _ rows) =>
        if m' = m ∧ i ≤ rows.length then
          some (.int .i64 (Nat.min xs.length len), σ.set N (.cells m (rows.take i ++ xs.take (Nat.min xs.length len) ++ rows.drop (i + Nat.min xs.length len))))
        else none
      | _ => none
    | _ => none
def toAK : KL → AVal → Option AK
  | .int k, .int k' n => if k = k' then some (.int n) else none
  | .str, .str s => some (.str s)
  | .bool, .bool b => some (.bool b)
  | _, _ => none
def toAKs : List KL → List AVal → Option (List AK)
  | [], [] => some []
  | l :: ls, v :: vs => (toAK l v).bind fun a => (toAKs ls vs).map (a :: ·)
  | _, _ => none
def toKey : KT → AVal → Option AKey
  | .one l, v => (toAK l v).map .one
  | .tup ls, .agg cs => (toAKs ls cs).map .tup
  | _, _ => none
def mapAt (σ : AHeap) (K : KT) : AVal → Option ((AKey → Option AVal) × Nat)
  | .nilM => some (fun _ => none, 0)
  | .map N => match σ.objs N with | some (.map K' f n) => if K' = K then some (f, n) else none | _ => none
  | _ => none
def mapLen (σ : AHeap) : AVal → Option Nat
  | .nilM => some 0
  | .map N => match σ.objs N with | some (.map _ _ n) => some n | _ => none
  | _ => none
def mput (f : AKey → Option AVal) (k : AKey) (v : AVal) : AKey → Option AVal := fun x => if x = k then some v else f x
def mdel (f : AKey → Option AVal) (k : AKey) : AKey → Option AVal := fun x => if x = k then none else f x
def maxI : AVal → AVal → Option AVal
  | .int k x, .int k' y => if k = k' then some (.int k (max x y)) else none
  | _, _ => none
def minI : AVal → AVal → Option AVal
  | .int k x, .int k' y => if k = k' then some (.int k (min x y)) else none
  | _, _ => none
def foldO (f : AVal → AVal → Option AVal) : List AVal → AVal → Option AVal
  | [], a => some a
  | x :: xs, a => match f a x with | some b => foldO f xs b | none => none
def lenOfS : AVal → Option Nat
  | .nilS => some 0
  | .ms _ _ _ len _ => some len
  | .rs _ _ _ len _ => some len
  | .mi _ _ _ _ len => some len
  | .ri _ _ _ _ _ len => some len
  | _ => none
def addrOf (off : Nat) : AVal → Option AVal
  | .ptr N i k => some (.ptr N i (k + off))
  | .rptr m rows i k => some (.rptr m rows i (k + off))
  | _ => none
def ixSA (m : Nat) (x : AVal) (i : Int) : Option AVal :=
  match x with
  | .ms m' N r len _ => if m' = m then (idx i len).map fun j => .ptr N (r + j) 0 else none
  | .rs m' rows r len _ => if m' = m then (idx i len).map fun j => .rptr m' rows (r + j) 0 else none
  | .mi N r k es len => if es = m then (idx i len).map fun j => .ptr N r (k + j * m) else none
  | .ri m' rows r k es len => if es = m then (idx i len).map fun j => .rptr m' rows r (k + j * m) else none
  | _ => none
def tasA (t : TypeId) (z x : AVal) (ok : Bool) : Option AVal :=
  match x with
  | .iface s y => if s = t then some (if ok then AVal.tup [y, .bool true] else y) else if ok then some (.tup [z, .bool false]) else none
  | .nilI => if ok then some (.tup [z, .bool false]) else none
  | _ => none
def slAA (n m : Nat) (x : AVal) : Option AVal :=
  match x with
  | .ptr N i k => some (.mi N i k m n)
  | .rptr m' rows i k => some (.ri m' rows i k m n)
  | _ => none
def opA (o : AOp) (env : AEnv) (σ : AHeap) : Option (AVal × AHeap) :=
  let e := env.ev
  let v (x : Option AVal) : Option (AVal × AHeap) := x.map (·, σ)
  match o with
  | .mv x => some (e x, σ)
  | .pick c a b => (match e c with | .bool t => some (if t then e a else e b, σ) | _ => none)
  | .alloc z => some (.ptr σ.next 0 0, σ.alloc (.cells z.length [z]))
  | .box x => if (e x).cells.all AVal.one then some (.ptr σ.next 0 0, σ.alloc (.cells (e x).cells.length [(e x).cells])) else none
  | .build z parts => v ((fillA z (parts.map fun p => (p.1, p.2.1, e p.2.2))).map .agg)
  | .buildS m z len parts => match fillRows m (List.replicate len z) (parts.map fun p => (p.1, e p.2)) with
    | some rows => some (.ms m σ.next 0 len true, σ.alloc (.cells m rows))
    | none => none
  | .load agg n x => v (loadA σ agg n (e x))
  | .store n a x => (storeA σ n (e a) (e x)).map (.tup [], ·)
  | .nilck x => (match e x with | .ptr .. | .rptr .. | .func (.func _) .. | .iface .. => some (e x, σ) | _ => none)
  | .bin op q x y => v (binA op q (e x) (e y))
  | .un op x => v (unA op (e x))
  | .conv c x => (match c, e x with
    | .int k, .int _ n => some (.int k (k.wrap n), σ)
    | .id, .str s => some (.str s, σ)
    | .strOfInt, .int _ n => some (.str (Utf8.encode n), σ)
    | _, _ => none)
  | .mkI t x => some (.iface t (e x), σ)
  | .mkF fn a b => some (.func fn (a.map e) (b.map e), σ)
  | .mkM K => some (.map σ.next, σ.alloc (.map K (fun _ => none) 0))
  | .mkS z bytes l c => (match e l, e c with
    | .int _ l, .int _ c => if 0 ≤ l ∧ l ≤ c ∧ c * bytes ≤ 70368744177664 ∧ c ≤ 70368744177664 then
        some (.ms z.length σ.next 0 l.toNat (l == c), σ.alloc (.cells z.length (List.replicate l.toNat z))) else none
    | _, _ => none)
  | .slS m x lo hi mx => v (sliceA m (e x) (lo.map e) (hi.map e) (mx.map e))
  | .slStr x lo hi => (match e x with
    | .str s => v ((bound (hi.map e) s.size s.size).bind fun h => (bound (lo.map e) 0 h).map fun l => .str (s.extract l h))
    | _ => none)
  | .slA n m x lo hi => if lo.isSome || hi.isSome then none else v (slAA n m (e x))
  | .fa off x => v (addrOf off (e x))
  | .fld agg n off x => (match e x with | .agg cs => v (partA agg n off cs) | _ => none)
  | .ixA len m x i => (match e i with
    | .int _ i => v ((idx i len).bind fun j => addrOf (j * m) (e x))
    | _ => none)
  | .ixS m x i => (match e i with | .int _ i => v (ixSA m (e x) i) | _ => none)
  | .ixV len agg m x i => (match e x, e i with
    | .agg cs, .int _ i => v ((idx i len).bind fun j => partA agg m (j * m) cs)
    | _, _ => none)
  | .ixStr x i => (match e x, e i with
    | .str s, .int _ i => v (if 0 ≤ i then (s[i.toNat]?).map fun b => .int .u8 b.toNat else none)
    | _, _ => none)
  | .look K z x i ok => (match mapAt σ K (e x), toKey K (e i) with
    | some (f, _), some k => some (if ok then .tup [(f k).getD z, .bool (f k).isSome] else (f k).getD z, σ)
    | _, _ => none)
  | .upd K m i x => (match e m, toKey K (e i) with
    | .map N, some k => (match σ.objs N with
      | some (.map K' f n) => if K' = K then some (.tup [], σ.set N (.map K (mput f k (e x)) (if (f k).isSome then n else n + 1))) else none
      | _ => none)
    | _, _ => none)
  | .rngStr x => (match e x with
    | .str s => some (.iter σ.next, σ.alloc (.siter s 0))
    | _ => none)
  | .nextStr x => (match e x with
    | .iter N => (match σ.objs N with
      | some (.siter s pos) => if pos < s.size then
          some (.tup [.bool true, .int .i64 pos, .int .i32 (Utf8.decode s pos).1], σ.set N (.siter s (pos + (Utf8.decode s pos).2)))
        else some (.tup [.bool false], σ)
      | _ => none)
    | _ => none)
  | .tas t z x ok => v (tasA t z (e x) ok)
  | .ext x i => (match e x with | .tup vs => v (vs[i]?) | _ => none)
  | .b2s x => v ((b2sA σ (e x)).map .str)
  | .lenStr x => (match e x with | .str s => some (.int .i64 s.size, σ) | _ => none)
  | .lenS x => v ((lenOfS (e x)).map fun n : Nat => .int .i64 (n : Int))
  | .lenM x => v ((mapLen σ (e x)).map fun n : Nat => .int .i64 (n : Int))
  | .lenA n => some (.int .i64 n, σ)
  | .app m bytes s x => appA σ m bytes (e s) (e x)
  | .cpy m d s => cpyA σ m (e d) (e s)
  | .mx xs => (match xs with | [] => none | x :: rest => v (foldO maxI (rest.map e) (e x)))
  | .mn xs => (match xs with | [] => none | x :: rest => v (foldO minI (rest.map e) (e x)))
  | _ => none
end Go.Tc
namespace Go.Tc
mutual
def cvN : Nat → Value → Option AVal
  | _, .bool b => some (.bool b)
  | _, .int k n => some (.int k n)
  | _, .string s => some (.str s)
  | _, .pointer none => some .nilP
  | _, .slice none len cap => if len = 0 ∧ cap = 0 then some .nilS else none
  | _, .map none => some .nilM
  | _, .nilFunc => some .nilF
  | _, .nilIface => some .nilI
  | _, .func (.func f) a b => if a.size = 0 ∧ b.size = 0 then some (.func (.func f) [] []) else none
  | n + 1, .agg cs => (cvNs n cs.toList).map .agg
  | n + 1, .tuple cs => (cvNs n cs.toList).map .tup
  | _, _ => none
def cvNs : Nat → List Value → Option (List AVal)
  | _, [] => some []
  | n, c :: cs => (cvN n c).bind fun v => (cvNs n cs).map (v :: ·)
end
def cvCells (v : Value) : Option (List AVal) := cvNs 3 v.cells.toList
def cOpnd (n : Nat) : Operand → Option Opnd
  | .tmp t => if t < n then some (.t t) else none
  | .const v => (cvN 4 v).map .c
  | .global _ => none
  | .func f => some (.f f)
def cOpnds (n : Nat) : List Operand → Option (List Opnd)
  | [] => some []
  | x :: xs => (cOpnd n x).bind fun y => (cOpnds n xs).map (y :: ·)
def cOpt (n : Nat) : Option Operand → Option (Option Opnd)
  | none => some none
  | some x => (cOpnd n x).map some
def isAggD : TypeDesc → Bool
  | .struct _ | .array _ _ => true
  | _ => false
structure Ty where
  agg : Bool
  n : Nat
  z : List AVal
  bytes : Nat
def tyOf (P : Program) (t : TypeId) : Option Ty :=
  match P.info? t, P.underlying t with
  | some i, some d => (match i.zero with
    | some z => (cvCells z).bind fun zs => if zs.length = i.size ∧ 0 < i.size ∧ zs.all AVal.one = true ∧ (isAggD d = true ∨ (i.size = 1 ∧ z.oneCell' = true)) then some ⟨isAggD d, i.size, zs, i.bytes⟩ else none
    | none => none)
  | _, _ => none
def eqGo (P : Program) (rec : TypeId → Option EqT) : List Field → Option (List (Nat × Nat × Bool × EqT))
  | [] => some []
  | f :: fs => if f.name = "_" then none else
    (tyOf P f.type).bind fun ty => (rec f.type).bind fun e =>
      match e with
      | .bool | .int | .str | .struct _ => (eqGo P rec fs).map ((f.offset, ty.n, ty.agg, e) :: ·)
      | _ => none
def eqTy (P : Program) : Nat → TypeId → Option EqT
  | 0, t =>
    match P.underlying t with
    | some .bool => some .bool
    | some (.int _) => some .int
    | some .string => some .str
    | some (.pointer _) => some .ptr
    | some (.slice _) => some .slice
    | some (.map _ _) => some .map
    | some (.func ..) => some .fn
    | some (.interface _) => some .iface
    | _ => none
  | n + 1, t =>
    match P.underlying t with
    | some .bool => some .bool
    | some (.int _) => some .int
    | some .string => some .str
    | some (.pointer _) => some .ptr
    | some (.slice _) => some .slice
    | some (.map _ _) => some .map
    | some (.func ..) => some .fn
    | some (.interface _) => some .iface
    | some (.struct fs) => if P.stoodInHeld t then none else if P.eqGuardType P.depth t then none else
        (eqGo P (fun t => eqTy P n t) fs.toList).map .struct
    | _ => none
def klOf : TypeDesc → Option KL
  | .bool => some .bool
  | .int k => some (.int k)
  | .string => some .str
  | _ => none
def klsOf (P : Program) : Nat → List Field → Option (List KL)
  | _, [] => some []
  | i, f :: fs => if f.name = "_" ∨ f.offset ≠ i then none else (P.underlying f.type).bind fun d => (klOf d).bind fun l => (P.info? f.type).bind fun t => if t.size = 1 then (klsOf P (i + 1) fs).map (l :: ·) else none
def ktOf (P : Program) (t : TypeId) : Option KT :=
  match P.underlying t with
  | some (.struct fs) => if P.stoodInHeld t then none else (klsOf P 0 fs.toList).map .tup
  | some d => (klOf d).map .one
  | none => none
def cParts (P : Program) (n : Nat) (place : Nat → Option (Nat × Nat)) : List (Nat × Operand) → Option (List (Nat × Nat × Opnd))
  | [] => some []
  | (i, x) :: rest => (place i).bind fun p => (cOpnd n x).bind fun y => (cParts P n place rest).map ((p.1, p.2, y) :: ·)
def cPartsI (n : Nat) : List (Nat × Operand) → Option (List (Nat × Opnd))
  | [] => some []
  | (i, x) :: rest => (cOpnd n x).bind fun y => (cPartsI n rest).map ((i, y) :: ·)
def fieldOf (P : Program) (t : TypeId) (f : Nat) : Option Field :=
  match P.underlying t with
  | some (.struct fs) => fs[f]?
  | _ => none
def emptyS (P : Program) (t : TypeId) : Bool :=
  match P.info? t, P.underlying t with
  | some i, some (.struct fs) => fs.isEmpty && (match i.zero with | some z => z.cells.isEmpty | none => false)
  | _, _ => false
def compCall (P : Program) (n : Nat) (c : Call) : Option AOp :=
  (cOpnds n c.args.toList).bind fun args =>
  match c.callee with
  | .value (.func f) => (match P.funcs[f]? with | some fn => if (fn.body.isSome || fn.name == "internal/bytealg.MakeNoZero") && fn.name != "runtime.NumGoroutine" then some (.callF f args) else none | none => none)
  | .value x => (cOpnd n x).map fun y => .callV y args
  | .invoke r m => (cOpnd n r).map fun y => .callI y m args
  | .builtin b =>
    match b, args, (c.argTypes[0]?).bind P.underlying with
    | .len, [x], some .string => some (.lenStr x)
    | .len, [x], some (.slice _) => some (.lenS x)
    | .len, [x], some (.map _ _) => some (.lenM x)
    | .len, [_], some (.array k _) => some (.lenA k)
    | .append, [s, x], some (.slice e) => (match (c.argTypes[1]?).bind P.underlying with
      | some (.int _) => none
      | some _ => (tyOf P e).map fun ty => .app ty.n ty.bytes s x
      | none => none)
    | .copy, [d, s], some (.slice e) => (tyOf P e).map fun ty => .cpy ty.n d s
    | .max, xs, _ => some (.mx xs)
    | .min, xs, _ => some (.mn xs)
    | .recover, [], _ => some .recov
    | _, _, _ => none
def isConst : Operand → Bool
  | .const _ => true
  | _ => false
def constE (e : EqT) (x y : Operand) : EqT := match e with
  | .iface => if isConst x || isConst y then .ifn else .iface
  | e => e
def compOp (P : Program) (n : Nat) (o : Oper) : Option AOp :=
  match o.op with
  | .move x | .assign x => (cOpnd n x).map .mv
  | .pick c a b => (cOpnd n c).bind fun c => (cOpnd n a).bind fun a => (cOpnd n b).map fun b => .pick c a b
  | .alloc t => (tyOf P t).map fun ty => .alloc ty.z
  | .box _ x => (cOpnd n x).map .box
  | .build t parts => if emptyS P t && parts.isEmpty then some (.mv (.c (.agg []))) else (tyOf P t).bind fun ty =>
    match P.underlying t with
    | some (.struct fs) => if fs.toList.all fun f => (P.info? f.type).isSome then (cParts P n (fun i => (fs[i]?).bind fun f => (P.info? f.type).map fun k => (f.offset, k.size)) parts.toList).map fun ps => .build ty.z ps else none
    | some (.array _ e) => (P.info? e).bind fun k => (cParts P n (fun i => some (i * k.size, k.size)) parts.toList).map fun ps => .build ty.z ps
    | _ => none
  | .buildSlice t len parts =>
    match P.underlying t with
    | some (.slice e) => (tyOf P e).bind fun ty => if len * ty.n ≤ 16777216 then (cPartsI n parts.toList).map fun ps => .buildS ty.n ty.z len ps else none
    | _ => none
  | .load t x => (tyOf P t).bind fun ty => (cOpnd n x).map fun x => .load ty.agg ty.n x
  | .store t a x => (tyOf P t).bind fun ty => (cOpnd n a).bind fun a => (cOpnd n x).map fun x => .store ty.n a x
  | .nilCheck x => (cOpnd n x).map .nilck
  | .binOp op t x y _ => (eqTy P 3 t).bind fun e => (cOpnd n x).bind fun x' => (cOpnd n y).map fun y' => .bin op (constE e x y) x' y'
  | .unOp op _ x => (cOpnd n x).map fun x => .un op x
  | .convert s d x => (cOpnd n x).bind fun x =>
    match P.underlying s, P.underlying d with
    | some (.int _), some (.int k) => some (.conv (.int k) x)
    | some .string, some .string => some (.conv .id x)
    | some (.int _), some .string => some (.conv .strOfInt x)
    | some (.slice e), some .string => (match P.underlying e with | some (.int .u8) => some (.b2s x) | _ => none)
    | _, _ => none
  | .makeInterface t x => (match P.underlying t with | some (.interface _) => none | some _ => (cOpnd n x).map fun x => .mkI t x | none => none)
  | .makeFunc fn a b => (match fn with | .yield _ => none | _ => (cOpnds n a.toList).bind fun a => (cOpnds n b.toList).map fun b => .mkF fn a b)
  | .makeMap t r => (match r, P.underlying t with | none, some (.map k _) => (ktOf P k).map .mkM | _, _ => none)
  | .makeSlice t l c =>
    match P.underlying t with
    | some (.slice e) => (tyOf P e).bind fun ty => (cOpnd n l).bind fun l => (cOpnd n c).map fun c => .mkS ty.z ty.bytes l c
    | _ => none
  | .slice t x lo hi mx => (cOpnd n x).bind fun x => (cOpt n lo).bind fun lo => (cOpt n hi).bind fun hi => (cOpt n mx).bind fun mx =>
    match P.underlying t with
    | some (.slice e) => (tyOf P e).bind fun ty => if mx.isSome && hi.isNone then none else some (.slS ty.n x lo hi mx)
    | some .string => if mx.isSome then none else some (.slStr x lo hi)
    | some (.array k e) => (tyOf P e).bind fun ty => if mx.isSome || k = 0 then none else some (.slA k ty.n x lo hi)
    | _ => none
  | .fieldAddr t x f => (fieldOf P t f).bind fun fd => (tyOf P fd.type).bind fun _ => (cOpnd n x).map fun x => .fa fd.offset x
  | .field t x f => (fieldOf P t f).bind fun fd => (tyOf P fd.type).bind fun ty => (cOpnd n x).map fun x => .fld ty.agg ty.n fd.offset x
  | .indexAddr t x i => (cOpnd n x).bind fun x => (cOpnd n i).bind fun i =>
    match P.underlying t with
    | some (.array len e) => (tyOf P e).map fun ty => .ixA len ty.n x i
    | some (.slice e) => (tyOf P e).map fun ty => .ixS ty.n x i
    | _ => none
  | .index t x i => (cOpnd n x).bind fun x => (cOpnd n i).bind fun i =>
    match P.underlying t with
    | some (.array len e) => (tyOf P e).map fun ty => .ixV len ty.agg ty.n x i
    | some .string => some (.ixStr x i)
    | _ => none
  | .lookup t x i ok => (cOpnd n x).bind fun x => (cOpnd n i).bind fun i =>
    match P.underlying t with
    | some (.map k e) => (ktOf P k).bind fun K => ((P.info? e).bind (·.zero)).bind fun z => (cvN 4 z).map fun z => .look K z x i ok
    | _ => none
  | .mapUpdate t m i x | .insert t m i x => (cOpnd n m).bind fun m => (cOpnd n i).bind fun i => (cOpnd n x).bind fun x =>
    match P.underlying t with
    | some (.map k _) => (ktOf P k).map fun K => .upd K m i x
    | _ => none
  | .range t x => (cOpnd n x).bind fun x => (match P.underlying t with | some .string => some (.rngStr x) | _ => none)
  | .next x s => if s then (cOpnd n x).map .nextStr else none
  | .typeAssert x _ t ok => (cOpnd n x).bind fun x =>
    match P.underlying t with
    | some (.interface _) => none
    | some _ => ((P.info? t).bind (·.zero)).bind fun z => (cvN 4 z).map fun z => .tas t z x ok
    | none => none
  | .extract x i => (cOpnd n x).map fun x => .ext x i
  | .call c => compCall P n c
  | .defer c => (match c.callee with | .value f => (cOpnd n f).bind fun f => (cOpnds n c.args.toList).map fun a => .dfr f a | _ => none)
  | .panic x => (cOpnd n x).map .panic
  | _ => none
theorem run_und {P : Program} {t : TypeId} {d : TypeDesc} (h : P.underlying t = some d) (w : World) : (underlying t).run P w = .ok d w := by
  simp [underlying, h]
theorem run_info {P : Program} {t : TypeId} {i : TypeInfo} (h : P.info? t = some i) (w : World) : (typeInfo t).run P w = .ok i w := by
  simp [typeInfo, h]
theorem run_sizeOf {P : Program} {t : TypeId} {i : TypeInfo} (h : P.info? t = some i) (w : World) : (sizeOf t).run P w = .ok i.size w := by
  simp [sizeOf, run_info h]
theorem run_zero {P : Program} {t : TypeId} {i : TypeInfo} {z : Value} (h : P.info? t = some i) (hz : i.zero = some z) (w : World) : (zeroValue t).run P w = .ok z w := by
  simp [zeroValue, run_info h, hz]
theorem run_isAgg {P : Program} {t : TypeId} {d : TypeDesc} (h : P.underlying t = some d) (w : World) : (isAgg t).run P w = .ok (isAggD d) w := by
  cases d <;> simp [isAgg, run_und h, isAggD]
theorem tyOf_spec {P : Program} {t : TypeId} {ty : Ty} (h : tyOf P t = some ty) :
    ∃ i d z, P.info? t = some i ∧ P.underlying t = some d ∧ i.zero = some z ∧ cvCells z = some ty.z ∧ ty.z.length = ty.n ∧ 0 < ty.n ∧ ty.z.all AVal.one = true ∧
      i.size = ty.n ∧ i.bytes = ty.bytes ∧ isAggD d = ty.agg ∧ (ty.agg = false → ty.n = 1 ∧ z.oneCell' = true) := by
  unfold tyOf at h
  split at h
  · rename_i i d hi hd
    split at h
    · rename_i z hz
      cases hc : cvCells z with
      | none => simp [hc] at h
      | some zs =>
        simp only [hc, Option.bind_some] at h
        split at h
        · rename_i hh
          cases h
          refine ⟨i, d, z, hi, hd, hz, hc, hh.1, hh.2.1, hh.2.2.1, rfl, rfl, rfl, fun ha => ?_⟩
          have ha' : isAggD d = false := ha
          rcases hh.2.2.2 with h1 | h1
          · rw [ha'] at h1; cases h1
          · exact h1
        · cases h
    · cases h
  · cases h
end Go.Tc
namespace Go.Tc
mutual
theorem cvN_rel {ι : Nm} {ro : Ros} {w : World} : ∀ (n : Nat) (u : Value) (v : AVal), cvN n u = some v → VRel ι ro w v u := by
  intro n u v h
  cases u with
  | bool b => simp [cvN] at h; subst h; exact .bool b
  | int k x => simp [cvN] at h; subst h; exact .int k x
  | float k b => cases n <;> simp [cvN] at h
  | complex k a b => cases n <;> simp [cvN] at h
  | string s => simp [cvN] at h; subst h; exact .str s
  | pointer a => cases a with
    | none => simp [cvN] at h; subst h; exact .nilP
    | some a => cases n <;> simp [cvN] at h
  | slice a len cap =>
    cases a with
    | some a => cases n <;> simp [cvN] at h
    | none =>
      simp only [cvN] at h
      split at h
      · rename_i hh
        cases h
        rw [hh.1, hh.2]; exact .nilS
      · cases h
  | map r => cases r with
    | none => simp [cvN] at h; subst h; exact .nilM
    | some r => cases n <;> simp [cvN] at h
  | chan r => cases n <;> simp [cvN] at h
  | func fn first caps =>
    cases fn with
    | func f =>
      simp only [cvN] at h
      split at h
      · rename_i hh
        cases h
        exact .func (by simp) hh.1 hh.2 (by simp) (by simp)
      · cases h
    | _ => cases n <;> simp [cvN] at h
  | nilFunc => simp [cvN] at h; subst h; exact .nilF
  | iface t v => cases n <;> simp [cvN] at h
  | nilIface => simp [cvN] at h; subst h; exact .nilI
  | agg cs =>
    cases n with
    | zero => simp [cvN] at h
    | succ n =>
      simp only [cvN, Option.map_eq_some_iff] at h
      obtain ⟨vs, hv, rfl⟩ := h
      have := cvNs_rel (ι := ι) (ro := ro) (w := w) n cs.toList vs hv
      exact .agg (by simpa using this.1) (fun i v u hv hu => this.2 i v u hv (by simpa using hu))
  | tuple cs =>
    cases n with
    | zero => simp [cvN] at h
    | succ n =>
      simp only [cvN, Option.map_eq_some_iff] at h
      obtain ⟨vs, hv, rfl⟩ := h
      have := cvNs_rel (ι := ι) (ro := ro) (w := w) n cs.toList vs hv
      exact .tup (by simpa using this.1) (fun i v u hv hu => this.2 i v u hv (by simpa using hu))
termination_by n u _ _ => (n, SizeOf.sizeOf u)
theorem cvNs_rel {ι : Nm} {ro : Ros} {w : World} : ∀ (n : Nat) (us : List Value) (vs : List AVal), cvNs n us = some vs →
    us.length = vs.length ∧ ∀ (i : Nat) v u, vs[i]? = some v → us[i]? = some u → VRel ι ro w v u := by
  intro n us vs h
  cases us with
  | nil => simp [cvNs] at h; subst h; exact ⟨rfl, by simp⟩
  | cons c cs =>
    simp only [cvNs, Option.bind_eq_some_iff, Option.map_eq_some_iff] at h
    obtain ⟨v, hv, vs', hvs, rfl⟩ := h
    have h1 := cvN_rel (ι := ι) (ro := ro) (w := w) n c v hv
    have h2 := cvNs_rel (ι := ι) (ro := ro) (w := w) n cs vs' hvs
    refine ⟨by simp [h2.1], fun i x u hx hu => ?_⟩
    cases i with
    | zero => simp at hx hu; subst hx; subst hu; exact h1
    | succ i => simp at hx hu; exact h2.2 i x u hx hu
termination_by n us _ _ => (n, SizeOf.sizeOf us)
end
def noMark (d : Deferred) : Bool :=
  match d.target with
  | .collected _ => false
  | _ => true
structure EnvRel (ι : Nm) (ro : Ros) (w : World) (env : AEnv) (a : Act) : Prop where
  size : a.tmps.size = env.n
  t : ∀ (i : Nat) u, a.tmps[i]? = some u → VRel ι ro w (env.t i) u
  ds : (a.defers.filter noMark).length = env.ds.length ∧ ∀ (i : Nat) d x, env.ds[i]? = some x → (a.defers.filter noMark)[i]? = some d →
    ∃ fn cap, d.target = .fn fn cap ∧ ∃ first, VRel ι ro w x.1 (.func fn first cap) ∧ ∃ rest, d.args = first ++ rest ∧ VRels ι ro w x.2 rest
theorem EnvRel.later {ι ι' : Nm} {ro ro' : Ros} {σ σ' : AHeap} {w w' : World} (R : Rel ι ro σ w) (L : Later ι ro σ w ι' ro' σ' w') {env : AEnv} {a : Act}
    (h : EnvRel ι ro w env a) : EnvRel ι' ro' w' env a := by
  refine ⟨h.size, fun i u hu => (h.t i u hu).later R L, h.ds.1, fun i d x hx hd => ?_⟩
  obtain ⟨fn, cap, h1, first, h2, rest, h3, h4⟩ := h.ds.2 i d x hx hd
  exact ⟨fn, cap, h1, first, h2.later R L, rest, h3, h4.later R L⟩
theorem EnvRel.put {ι : Nm} {ro : Ros} {w : World} {env : AEnv} {a : Act} (h : EnvRel ι ro w env a) (d : Option Nat) {v : AVal} {u : Value} (hv : VRel ι ro w v u) :
    EnvRel ι ro w (env.put d v) (a.put d u) := by
  cases d with
  | none => exact h
  | some d =>
    refine ⟨by simp [Act.put, AEnv.put, AEnv.set, h.size], fun i x hx => ?_, h.ds⟩
    simp only [Act.put, AEnv.put, AEnv.set] at hx ⊢
    by_cases hi : i = d
    · subst hi
      rw [if_pos rfl]
      rw [Array.getElem?_setIfInBounds_self] at hx
      split at hx
      · cases hx; exact hv
      · cases hx
    · rw [if_neg hi]
      rw [Array.getElem?_setIfInBounds_ne (Ne.symm hi)] at hx
      exact h.t i x hx
theorem EnvRel.tmp {ι : Nm} {ro : Ros} {w : World} {env : AEnv} {a : Act} (h : EnvRel ι ro w env a) {t : Nat} (ht : t < env.n) : VRel ι ro w (env.t t) (a.tmps.getD t undef) := by
  have hlt : t < a.tmps.size := by rw [h.size]; exact ht
  have := h.t t a.tmps[t] (Array.getElem?_eq_getElem hlt)
  simpa [Array.getD, hlt] using this
theorem eval_rel {ι : Nm} {ro : Ros} {w : World} {env : AEnv} {a : Act} (h : EnvRel ι ro w env a) {x : Operand} {y : Opnd} (hc : cOpnd env.n x = some y) : VRel ι ro w (env.ev y) (a.eval x) := by
  cases x with
  | tmp t =>
    simp only [cOpnd] at hc
    split at hc
    · cases hc; exact h.tmp ‹_›
    · cases hc
  | const v =>
    simp only [cOpnd, Option.map_eq_some_iff] at hc
    obtain ⟨v', hv, rfl⟩ := hc
    exact cvN_rel _ _ _ hv
  | global g => simp [cOpnd] at hc
  | func f => simp only [cOpnd] at hc; cases hc; exact .func (by simp) rfl rfl (by simp) (by simp)
theorem evals_rel {ι : Nm} {ro : Ros} {w : World} {env : AEnv} {a : Act} (h : EnvRel ι ro w env a) : ∀ {xs : List Operand} {ys : List Opnd}, cOpnds env.n xs = some ys →
    VRels ι ro w (ys.map env.ev) (xs.map a.eval).toArray := by
  intro xs
  induction xs with
  | nil => intro ys hc; simp [cOpnds] at hc; subst hc; exact ⟨rfl, by simp⟩
  | cons x xs ih =>
    intro ys hc
    simp only [cOpnds, Option.bind_eq_some_iff, Option.map_eq_some_iff] at hc
    obtain ⟨y, hy, ys', hys, rfl⟩ := hc
    have h1 := eval_rel h hy
    have h2 := ih hys
    refine ⟨by simpa using h2.1, fun i v u hv hu => ?_⟩
    cases i with
    | zero => simp at hv hu; subst hv; subst hu; exact h1
    | succ i => simp at hv hu; exact h2.2 i v u (by simpa using hv) (by simpa using hu)
def Good (P : Program) (s : Sem Next) (ι : Nm) (ro : Ros) (σ : AHeap) (w : World) (v : AVal) (σ' : AHeap) : Prop :=
  ∃ ι' ro' w' u, (s.run P w = .ok (.value u) w' ∨ (s.run P w = .ok .skip w' ∧ u = undef)) ∧ Later ι ro σ w ι' ro' σ' w' ∧ Rel ι' ro' σ' w' ∧ VRel ι' ro' w' v u
theorem Good.still {P : Program} {s : Sem Next} {ι : Nm} {ro : Ros} {σ : AHeap} {w : World} {v : AVal} {u : Value} (R : Rel ι ro σ w) (h : s.run P w = .ok (.value u) w) (hv : VRel ι ro w v u) : Good P s ι ro σ w v σ :=
  ⟨ι, ro, w, u, .inl h, .refl _ _ _ _, R, hv⟩
theorem VRel.cells_rel {ι : Nm} {ro : Ros} {w : World} {v : AVal} {u : Value} (h : VRel ι ro w v u) (hj : v ≠ .junk) (ht : ∀ vs, v ≠ .tup vs) :
    u.cells.size = v.cells.length ∧ ∀ (i : Nat) x y, v.cells[i]? = some x → u.cells[i]? = some y → VRel ι ro w x y := by
  have one : ∀ (v : AVal) (u : Value), VRel ι ro w v u → u.cells = #[u] → v.cells = [v] → u.cells.size = v.cells.length ∧ ∀ (i : Nat) x y, v.cells[i]? = some x → u.cells[i]? = some y → VRel ι ro w x y := by
    intro v u h h1 h2
    rw [h1, h2]
    refine ⟨rfl, fun i x y hx hy => ?_⟩
    cases i with
    | zero => simp at hx hy; subst hx; subst hy; exact h
    | succ i => simp at hx
  cases h with
  | agg hl hh => exact ⟨hl, hh⟩
  | tup => exact absurd rfl (ht _)
  | junk => exact absurd rfl hj
  | _ => exact one _ _ (by constructor <;> assumption) rfl rfl
theorem VRel.one_rel {ι : Nm} {ro : Ros} {w : World} {v : AVal} {u : Value} (h : VRel ι ro w v u) (ho : v.one = true) : u.oneCell' = true := by
  cases h <;> simp_all [AVal.one, Value.oneCell']
end Go.Tc
namespace Go.Tc
theorem addr_add (b o j : Nat) : (⟨b, o, none⟩ : Addr).add j = ⟨b, o + j, none⟩ := by
  unfold Addr.add; split
  · rename_i h; subst h; rfl
  · rfl
theorem rowAt_rel {ι : Nm} {ro : Ros} {σ : AHeap} {w : World} (R : Rel ι ro σ w) {p : AVal} {u : Value} (h : VRel ι ro w p u) {row : List AVal} {k : Nat} (hr : rowAt σ p = some (row, k)) :
    ∃ b base, u = .pointer (some ⟨b, base + k, none⟩) ∧ ∀ (q : Nat) v, row[q]? = some v → ∃ x, w.cell? ⟨b, base + q, none⟩ = some x ∧ VRel ι ro w v x := by
  cases h with
  | ptr i k' hN =>
    simp only [rowAt] at hr
    split at hr
    · rename_i m' rows hs
      simp only [Option.map_eq_some_iff, Prod.mk.injEq] at hr
      obtain ⟨row', hrow, rfl, rfl⟩ := hr
      obtain ⟨rfl, _, _, _, hc⟩ := R.obj _ _ _ hN hs
      refine ⟨_, _, rfl, fun q v hq => ?_⟩
      exact hc i q v (by simp [cellAt, hrow, hq])
    · cases hr
  | rptr b off i k' f hm hc hv =>
    simp only [rowAt, Option.map_eq_some_iff, Prod.mk.injEq] at hr
    obtain ⟨row', hrow, rfl, rfl⟩ := hr
    refine ⟨b, _, rfl, fun q v hq => ?_⟩
    exact ⟨_, (hc i q v (by simp [cellAt, hrow, hq])).2, hv i q v (by simp [cellAt, hrow, hq])⟩
  | _ => simp [rowAt] at hr
theorem run_loadVar_rel {P : Program} {t : TypeId} {ty : Ty} (ht : tyOf P t = some ty) {ι : Nm} {ro : Ros} {w : World} {b base k : Nat} {row : List AVal} {v : AVal}
    (hc : ∀ (q : Nat) v, row[q]? = some v → ∃ x, w.cell? ⟨b, base + q, none⟩ = some x ∧ VRel ι ro w v x) (hp : partA ty.agg ty.n k row = some v) :
    ∃ x, (loadVar t ⟨b, base + k, none⟩).run P w = .ok x w ∧ VRel ι ro w v x := by
  obtain ⟨i, d, z, hi, hd, _, _, _, _, _, hsz, _, hagg, _⟩ := tyOf_spec ht
  cases ha : ty.agg with
  | false =>
    rw [ha] at hp hagg
    simp only [partA, Bool.false_eq_true, if_false] at hp
    obtain ⟨x, hx, hr⟩ := hc k v hp
    exact ⟨x, by simp [loadVar, run_isAgg hd, hagg, hx], hr⟩
  | true =>
    rw [ha] at hp hagg
    simp only [partA, if_true] at hp
    split at hp
    · rename_i hle
      cases hp
      have hcell : ∀ j, j < ty.n → ∃ x, w.cell? ((⟨b, base + k, none⟩ : Addr).add j) = some x := fun j hj => by
        obtain ⟨x, hx, _⟩ := hc (k + j) row[k + j] (List.getElem?_eq_getElem (by omega))
        exact ⟨x, by rw [addr_add, Nat.add_assoc]; exact hx⟩
      refine ⟨_, by
        simp only [loadVar, Sem.run_bind, run_isAgg hd, hagg, Result.andThen_ok, if_true, run_sizeOf hi, hsz]
        rw [run_loadCells w ⟨b, base + k, none⟩ ty.n (fun j => (w.cell? ((⟨b, base + k, none⟩ : Addr).add j)).getD undef) (fun j hj => by obtain ⟨x, hx⟩ := hcell j hj; rw [hx]; rfl)]
        rfl, .agg ?_ ?_⟩
      · simp; omega
      · intro j v u hv hu
        simp only [List.getElem?_toArray, List.getElem?_map, Option.map_eq_some_iff] at hu
        rw [List.getElem?_take] at hv
        split at hv
        · rename_i hj
          rw [List.getElem?_drop] at hv
          obtain ⟨x, hx, hr⟩ := hc (k + j) v hv
          obtain ⟨j', hj', rfl⟩ := hu
          rw [List.getElem?_range hj] at hj'
          cases hj'
          rw [addr_add, Nat.add_assoc, hx]
          exact hr
        · cases hv
    · cases hp
theorem loadA_rel {P : Program} {t : TypeId} {ty : Ty} (ht : tyOf P t = some ty) {ι : Nm} {ro : Ros} {σ : AHeap} {w : World} (R : Rel ι ro σ w) {p v : AVal} {u : Value} (h : VRel ι ro w p u)
    (hl : loadA σ ty.agg ty.n p = some v) : ∃ x, (Instr.loadAt t u).run P w = .ok x w ∧ VRel ι ro w v x := by
  unfold loadA at hl
  split at hl
  · rename_i row k hr
    obtain ⟨b, base, rfl, hc⟩ := rowAt_rel R h hr
    obtain ⟨x, hx, hv⟩ := run_loadVar_rel ht hc hl
    exact ⟨x, by simp [Instr.loadAt, Instr.sureAddr, hx], hv⟩
  · cases hl
theorem run_storeCells_rel (P : Program) (b lo : Nat) : ∀ (us : List Value) (i : Nat) (w : World), (∀ u ∈ us, u.oneCell' = true) → (∀ j, j < us.length → ∃ x, w.cell? ⟨b, lo + i + j, none⟩ = some x) →
    (∀ j, j < us.length → w.frozen? ⟨b, lo + i + j, none⟩ = false) →
    ∃ w', (storeCells ⟨b, lo, none⟩ us i).run P w = .ok () w' ∧ Wrote b (lo + i) (lo + i + us.length) w w' ∧ ∀ (j : Nat) u, us[j]? = some u → w'.cell? ⟨b, lo + i + j, none⟩ = some u
  | [], i, w, _, _, _ => ⟨w, rfl, ⟨rfl, rfl, rfl, rfl, fun _ _ => rfl, fun c _ _ h => ⟨c, h, rfl, fun _ _ => rfl⟩⟩, by simp⟩
  | u :: us, i, w, h1, h2, h3 => by
    obtain ⟨x, hx⟩ := h2 0 (by simp)
    have hf := h3 0 (by simp)
    simp only [Nat.add_zero] at hx hf
    have hone := h1 u (by simp)
    obtain ⟨w', hr, hw, hcell⟩ := run_storeCells_rel P b lo us (i + 1) (w.setCell ⟨b, lo + i, none⟩ u) (fun u hu => h1 u (by simp [hu]))
      (fun j hj => by
        obtain ⟨y, hy⟩ := h2 (j + 1) (by simp; omega)
        refine ⟨y, ?_⟩
        rw [World.cell?_setCell_other]
        · rw [← hy]; congr 2; omega
        · simp; omega)
      (fun j hj => by
        rw [World.frozen?_setCell, ← h3 (j + 1) (by simp; omega)]; congr 2; omega)
    have hb : ∃ c e f, w.heap[b]? = some (Obj.cells c e f) ∧ lo + i < c.size := by
      unfold World.cell? at hx
      split at hx
      · rename_i c e f hb
        simp only [Option.isSome_none, Bool.false_eq_true, if_false] at hx
        exact ⟨c, e, f, hb, (Array.getElem?_eq_some_iff.1 hx).1⟩
      · cases hx
    have hset : Wrote b (lo + i) (lo + i + 1) w (w.setCell ⟨b, lo + i, none⟩ u) := by
      refine ⟨rfl, rfl, rfl, by simp, fun k hk => ?_, fun c e f hc => ?_⟩
      · simp only [World.setCell, Array.getElem?_modify]; rw [if_neg (Ne.symm hk)]
      · refine ⟨c.setIfInBounds (lo + i) u, by simp [World.setCell, Array.getElem?_modify, hc], by simp, fun o ho => ?_⟩
        rw [Array.getElem?_setIfInBounds_ne]; omega
    refine ⟨w', ?_, ?_, ?_⟩
    · simp only [storeCells, Sem.run_bind, addr_add]
      rw [run_store P w _ u .plain hone]
      simp only [hx, hf, Bool.false_eq_true, if_false, Result.andThen_ok]
      exact hr
    · refine ⟨hw.os, hw.tape, hw.output, hw.size.trans (by simp), fun k hk => (hw.other k hk).trans (hset.other k hk), fun c e f hc => ?_⟩
      obtain ⟨c1, g1, g2, g3⟩ := hset.here c e f hc
      obtain ⟨c2, k1, k2, k3⟩ := hw.here c1 e f g1
      refine ⟨c2, k1, k2.trans g2, fun o ho => ?_⟩
      simp only [List.length_cons] at ho
      rw [k3 o (by omega), g3 o (by omega)]
    · intro j x hj
      cases j with
      | zero =>
        simp at hj; subst hj
        have := World.cell?_setCell_same w ⟨b, lo + i, none⟩ u hx
        exact hw.cell (fun ⟨_, h1, _⟩ => by omega) this
      | succ j =>
        simp at hj
        have := hcell j x hj
        rw [← this]; congr 2; omega
theorem VRels.get {ι : Nm} {ro : Ros} {w : World} {vs : List AVal} {us : Array Value} (h : VRels ι ro w vs us) {i : Nat} {u : Value} (hu : us[i]? = some u) : ∃ v, vs[i]? = some v ∧ VRel ι ro w v u := by
  have hlt := (Array.getElem?_eq_some_iff.1 hu).1
  have : i < vs.length := by have := h.1; omega
  exact ⟨vs[i], List.getElem?_eq_getElem this, h.2 i _ u (List.getElem?_eq_getElem this) hu⟩
theorem VRels.one {ι : Nm} {ro : Ros} {w : World} {vs : List AVal} {us : Array Value} (h : VRels ι ro w vs us) (ho : vs.all AVal.one = true) : ∀ u ∈ us.toList, u.oneCell' = true := by
  intro u hu
  obtain ⟨i, hi⟩ := List.mem_iff_getElem?.1 hu
  obtain ⟨v, hv, hr⟩ := h.get (by simpa using hi)
  exact hr.one_rel (List.all_eq_true.1 ho v (List.mem_of_getElem? hv))
theorem all_one_junk {v : AVal} (h : v.cells.all AVal.one = true) : v ≠ .junk ∧ ∀ vs, v ≠ .tup vs := by
  constructor
  · rintro rfl; simp [AVal.cells, AVal.one] at h
  · rintro vs rfl; simp [AVal.cells, AVal.one] at h
theorem owned_cells {ι : Nm} {ro : Ros} {σ : AHeap} {w : World} (R : Rel ι ro σ w) {N m b off ext m0 : Nat} {rows : List (List AVal)} (h : ι N = some (.cells m b off ext)) (hs : σ.objs N = some (.cells m0 rows)) :
    ∀ x, off ≤ x → x < off + ext → (∃ y, w.cell? ⟨b, x, none⟩ = some y) ∧ w.frozen? ⟨b, x, none⟩ = false := by
  obtain ⟨_, _, _, ⟨c, e, f, hb, hsz, hfz⟩, _⟩ := R.obj _ _ _ h hs
  intro x h1 h2
  constructor
  · refine ⟨c[x]'(by omega), ?_⟩
    simp only [World.cell?, hb, Option.isSome_none, Bool.false_eq_true, if_false]
    exact Array.getElem?_eq_getElem (by omega)
  · have := hfz x h1 h2
    obtain ⟨lo, hi⟩ := f
    simp only [World.frozen?, hb]
    simp only at this
    cases hd : (decide (lo ≤ x) && decide (x < hi)) with
    | false => rfl
    | true => simp at hd; exact absurd hd this
theorem splice_length (row : List AVal) (k : Nat) (vs : List AVal) (h : k + vs.length ≤ row.length) : (splice row k vs).length = row.length := by
  simp [splice]; omega
theorem splice_get (row : List AVal) (k : Nat) (vs : List AVal) (h : k + vs.length ≤ row.length) (q : Nat) :
    (splice row k vs)[q]? = if k ≤ q ∧ q < k + vs.length then vs[q - k]? else row[q]? := by
  unfold splice
  by_cases h1 : q < k
  · rw [if_neg (by omega), List.append_assoc, List.getElem?_append_left (by simp; omega), List.getElem?_take, if_pos h1]
  · by_cases h2 : q < k + vs.length
    · rw [if_pos ⟨by omega, h2⟩, List.append_assoc, List.getElem?_append_right (by simp; omega), List.getElem?_append_left (by simp; omega)]
      congr 1; simp; omega
    · rw [if_neg (by omega), List.getElem?_append_right (by simp; omega), List.getElem?_drop]
      congr 1; simp; omega
theorem splice_one (row : List AVal) (k : Nat) (vs : List AVal) (h : ∀ v ∈ row, v.one = true) (h2 : ∀ v ∈ vs, v.one = true) : ∀ v ∈ splice row k vs, v.one = true := by
  intro v hv
  simp only [splice, List.mem_append] at hv
  rcases hv with (hv | hv) | hv
  · exact h v (List.mem_of_mem_take hv)
  · exact h2 v hv
  · exact h v (List.mem_of_mem_drop hv)
theorem storeA_rel {P : Program} {t : TypeId} {ty : Ty} (ht : tyOf P t = some ty) {ι : Nm} {ro : Ros} {σ σ' : AHeap} {w : World} (R : Rel ι ro σ w) {p v : AVal} {u x : Value} (h : VRel ι ro w p u) (hv : VRel ι ro w v x)
    (hl : storeA σ ty.n p v = some σ') : ∃ w', (Instr.storeAt t u x).run P w = .ok () w' ∧ Rel ι ro σ' w' ∧ Later ι ro σ w ι ro σ' w' := by
  obtain ⟨i, d, z, hi, hd, _, _, _, _, _, hsz, _, _, _⟩ := tyOf_spec ht
  unfold storeA at hl
  split at hl <;> try cases hl
  rename_i N r k
  split at hl <;> try cases hl
  rename_i m rows hs
  split at hl <;> try cases hl
  rename_i row hrow
  split at hl <;> try cases hl
  rename_i hh
  obtain ⟨hlen, hk, hone⟩ := hh
  cases h with
  | @ptr _ m1 b off ext _ _ hN =>
    obtain ⟨rfl, hm, hmul, _, hc⟩ := R.obj _ _ _ hN hs
    have hrm := (hm row (List.mem_of_getElem? hrow)).1
    have hro := (hm row (List.mem_of_getElem? hrow)).2
    have hrl : r < rows.length := (List.getElem?_eq_some_iff.1 hrow).1
    obtain ⟨hj, htup⟩ := all_one_junk hone
    have hcr := hv.cells_rel hj htup
    have hus : x.cells.toList.length = ty.n := by rw [Array.length_toList, hcr.1, hlen]
    have hbound : ∀ q, q < m → r * m + q < ext := fun q hq => Nat.lt_of_lt_of_le (mul_lt hrl hq) hmul
    have hoc := owned_cells R hN hs
    obtain ⟨w', hrun, hw, hcell⟩ := run_storeCells_rel P b (off + r * m + k) x.cells.toList 0 w (VRels.one (vs := v.cells) hcr hone)
      (fun j hj => (hoc _ (by omega) (by have := hbound (k + j) (by omega); omega)).1)
      (fun j hj => (hoc _ (by omega) (by have := hbound (k + j) (by omega); omega)).2)
    refine ⟨w', ?_, ?_⟩
    · simp only [Instr.storeAt, Instr.sureAddr, storeVar, Sem.run_bind, Sem.run_pure, Result.andThen_ok, run_sizeOf hi, hsz]
      rw [if_neg (by simp only [Array.length_toList] at hus; omega)]
      exact hrun
    · refine write_cells R hN hs (by omega) ?_ hw (rows.set r (splice row k v.cells)) ?_ (by simpa using hmul) ?_
      · have := hbound (k + ty.n - 1)
        rcases Nat.eq_zero_or_pos ty.n with h0 | h0
        · have := Nat.mul_le_mul_right m (show r ≤ rows.length by omega)
          have hk' : k ≤ m := by omega
          have h2 : (r + 1) * m ≤ rows.length * m := Nat.mul_le_mul_right _ hrl
          rw [Nat.succ_mul] at h2
          omega
        · have := this (by omega)
          omega
      · intro row' hmem
        rcases List.mem_or_eq_of_mem_set hmem with h1 | h1
        · exact hm row' h1
        · rw [h1]; exact ⟨by rw [splice_length _ _ _ (by omega)]; exact hrm, splice_one _ _ _ hro (fun v hv => List.all_eq_true.1 hone v hv)⟩
      · intro j q y hjq
        have hjq' := hjq
        unfold cellAt at hjq
        by_cases hjr : j = r
        · subst hjr
          rw [List.getElem?_set_self hrl, Option.bind_some, splice_get _ _ _ (by omega)] at hjq
          split at hjq
          · rename_i hq
            have hlt : q - k < x.cells.size := by rw [hcr.1]; omega
            refine ⟨x.cells[q - k], ?_, hcr.2 (q - k) y _ hjq (Array.getElem?_eq_getElem hlt)⟩
            have := hcell (q - k) x.cells[q - k] (by simp)
            rw [← this]; congr 2; omega
          · rename_i hq
            obtain ⟨y', hy, hr⟩ := hc j q y (by simp [cellAt, hrow, hjq])
            exact ⟨y', hw.cell (fun ⟨_, h1, h2⟩ => hq ⟨by omega, by omega⟩) hy, hr⟩
        · rw [List.getElem?_set_ne (Ne.symm hjr)] at hjq
          obtain ⟨y', hy, hr⟩ := hc j q y hjq
          have hlt := cellAt_lt hm (show cellAt rows j q = some y from hjq)
          refine ⟨y', hw.cell (fun ⟨_, h1, h2⟩ => ?_) hy, hr⟩
          rcases Nat.lt_or_gt_of_ne hjr with hlt' | hgt
          · have : (j + 1) * m ≤ r * m := Nat.mul_le_mul_right _ hlt'
            rw [Nat.succ_mul] at this
            omega
          · have : (r + 1) * m ≤ j * m := Nat.mul_le_mul_right _ hgt
            rw [Nat.succ_mul] at this
            omega
end Go.Tc
namespace Go.Tc
theorem part_rel {P : Program} {t : TypeId} {ty : Ty} (ht : tyOf P t = some ty) {ι : Nm} {ro : Ros} {w : World} {cs : List AVal} {us : Array Value} (hl : us.size = cs.length)
    (h : ∀ (i : Nat) v u, cs[i]? = some v → us[i]? = some u → VRel ι ro w v u) {off : Nat} {v : AVal} (hp : partA ty.agg ty.n off cs = some v) :
    ∃ x, (part t us off).run P w = .ok x w ∧ VRel ι ro w v x := by
  obtain ⟨i, d, z, hi, hd, _, _, _, _, _, hsz, _, hagg, _⟩ := tyOf_spec ht
  cases ha : ty.agg with
  | false =>
    rw [ha] at hp hagg
    simp only [partA, Bool.false_eq_true, if_false] at hp
    have hlt := (List.getElem?_eq_some_iff.1 hp).1
    have hu : us[off]? = some (us[off]'(by omega)) := Array.getElem?_eq_getElem (by omega)
    exact ⟨_, by simp only [part, Sem.run_bind, run_isAgg hd, hagg, Result.andThen_ok, Bool.false_eq_true, if_false, hu, Sem.run_pure], h off v _ hp hu⟩
  | true =>
    rw [ha] at hp hagg
    simp only [partA, if_true] at hp
    split at hp
    · cases hp
      refine ⟨.agg (us.extract off (off + ty.n)), by simp only [part, Sem.run_bind, run_isAgg hd, hagg, Result.andThen_ok, if_true, run_sizeOf hi, hsz, Sem.run_pure], .agg (by simp; omega) ?_⟩
      intro i v u hv hu
      rw [Array.getElem?_extract] at hu
      split at hu
      · rw [List.getElem?_take] at hv
        split at hv
        · rw [List.getElem?_drop] at hv
          exact h _ v u hv hu
        · cases hv
      · cases hu
    · cases hp
def EqD : EqT → TypeDesc → Bool
  | .bool, .bool => true
  | .int, .int _ => true
  | .str, .string => true
  | .ptr, .pointer _ => true
  | .slice, .slice _ => true
  | .map, .map _ _ => true
  | .fn, .func .. => true
  | .iface, .interface _ => true
  | .ifn, .interface _ => true
  | _, _ => false
theorem eqL_rel {P : Program} {t : TypeId} {td : TypeDesc} (ht : P.underlying t = some td) {e : EqT} (he : EqD e td = true) {ι : Nm} {ro : Ros} {w : World} {x y : AVal} {u u' : Value} {b : Bool}
    (hx : VRel ι ro w x u) (hy : VRel ι ro w y u') (h : eqL e x y = some b) (d : Nat) : (Op.equalIn (d + 1) t u u').run P w = .ok b w := by
  cases e <;> cases td <;> simp only [EqD, Bool.false_eq_true] at he <;> simp only [eqL] at h <;> split at h <;> (try (cases h; done)) <;> cases hx <;> cases hy <;>
    first
      | (cases h; simp only [Op.equalIn, Sem.run_bind, run_und ht, Result.andThen_ok, Sem.run_pure, beq_toListBytes, Option.isNone_some, Option.isNone_none]; done)
      | (split at h
         · rename_i hk; subst hk; cases h; simp only [Op.equalIn, Sem.run_bind, run_und ht, Result.andThen_ok, if_true, Sem.run_pure]; done
         · cases h)
      | (split at h
         · cases h
         · cases h; simp only [Op.equalIn, Sem.run_bind, run_und ht, Result.andThen_ok, Sem.run_pure, Option.isNone_some]; done)
      | (split at h
         · cases h
         · rename_i hh; exact absurd rfl hh)
theorem eqA_leaf {P : Program} {t : TypeId} {td : TypeDesc} (ht : P.underlying t = some td) {e : EqT} (he : EqD e td = true) {ι : Nm} {ro : Ros} {w : World} {x y : AVal} {u u' : Value} {b : Bool}
    (hx : VRel ι ro w x u) (hy : VRel ι ro w y u') (h : eqA e x y = some b) (d : Nat) : (Op.equalIn (d + 1) t u u').run P w = .ok b w := by
  cases e <;> (try (simp only [eqA] at h; exact eqL_rel ht he hx hy h d))
  cases td <;> simp [EqD] at he
theorem eqA_struct {fs : List (Nat × Nat × Bool × EqT)} {x y : AVal} {b : Bool} (h : eqA (.struct fs) x y = some b) : ∃ cs cs', x = .agg cs ∧ y = .agg cs' ∧ eqAs fs cs cs' = some b := by
  simp only [eqA] at h
  split at h
  · exact ⟨_, _, rfl, rfl, h⟩
  · cases h
theorem eqTy_leaf {P : Program} {n : Nat} {t : TypeId} {e : EqT} (h : eqTy P n t = some e) : (∃ td, P.underlying t = some td ∧ EqD e td = true) ∨
    ∃ fs m fs', P.underlying t = some (.struct fs) ∧ n = m + 1 ∧ P.stoodInHeld t = false ∧ P.eqGuardType P.depth t = false ∧ eqGo P (fun t => eqTy P m t) fs.toList = some fs' ∧ e = .struct fs' := by
  cases n with
  | zero =>
    unfold eqTy at h
    split at h
    case h_9 => cases h
    all_goals
      cases h
      rename_i hu
      exact .inl ⟨_, hu, rfl⟩
  | succ m =>
    unfold eqTy at h
    split at h
    case h_9 fs hu =>
      split at h
      · cases h
      rename_i h1
      split at h
      · cases h
      rename_i h2
      simp only [Option.map_eq_some_iff] at h
      obtain ⟨fs', hgo, rfl⟩ := h
      exact .inr ⟨fs, m, fs', hu, rfl, by simpa using h1, by simpa using h2, hgo, rfl⟩
    case h_10 => cases h
    all_goals
      cases h
      rename_i hu
      exact .inl ⟨_, hu, rfl⟩
theorem eqA_rel {P : Program} {ι : Nm} {ro : Ros} {w : World} : ∀ (n : Nat) (t : TypeId) (e : EqT), eqTy P n t = some e → ∀ (d : Nat) (x y : AVal) (u u' : Value) (b : Bool), n < d → VRel ι ro w x u → VRel ι ro w y u' → eqA e x y = some b →
    (Op.equalIn d t u u').run P w = .ok b w := by
  intro n
  induction n with
  | zero =>
    intro t e he d x y u u' b hd hx hy h
    obtain ⟨d, rfl⟩ : ∃ k, d = k + 1 := ⟨d - 1, by omega⟩
    rcases eqTy_leaf he with ⟨td, ht, hl⟩ | ⟨fs, m, fs', _, hm, _⟩
    · exact eqA_leaf ht hl hx hy h d
    · omega
  | succ n ih =>
    intro t e he d x y u u' b hd hx hy h
    obtain ⟨d, rfl⟩ : ∃ k, d = k + 1 := ⟨d - 1, by omega⟩
    rcases eqTy_leaf he with ⟨td, ht, hl⟩ | ⟨fs, m, fs', hu, hm, hst, _, hgo, rfl⟩
    · exact eqA_leaf ht hl hx hy h d
    · obtain rfl : n = m := by omega
      obtain ⟨cs, cs', rfl, rfl, h2⟩ := eqA_struct h
      clear h
      cases hx with
      | @agg _ us hl hh =>
        cases hy with
        | @agg _ us' hl' hh' =>
          have hfo : P.fieldsOf t = fs := by simp [Program.fieldsOf, hu]
          rw [run_equalIn_agg w d t _ _ (by rw [hfo]; exact hu) hst, hfo]
          clear hu hfo hst he
          generalize fs.toList = fl at hgo
          induction fl generalizing fs' with
          | nil =>
            unfold eqGo at hgo
            cases hgo
            unfold eqAs at h2
            cases h2
            simp [Op.eqFields]
          | cons f fl ihf =>
            unfold eqGo at hgo
            split at hgo
            · cases hgo
            rename_i hname
            simp only [Option.bind_eq_some_iff] at hgo
            obtain ⟨ty, hty, e, he, hrest⟩ := hgo
            have hrest' : ∃ fs'', eqGo P (fun t => eqTy P n t) fl = some fs'' ∧ fs' = (f.offset, ty.n, ty.agg, e) :: fs'' := by
              cases e <;> simp at hrest <;> (obtain ⟨a, h1, h2⟩ := hrest; exact ⟨a, h1, h2.symm⟩)
            obtain ⟨fs'', hgo', rfl⟩ := hrest'
            unfold eqAs at h2
            split at h2
            · rename_i v v' hv hv'
              obtain ⟨a, ha, hra⟩ := part_rel hty hl hh hv
              obtain ⟨a', ha', hra'⟩ := part_rel hty hl' hh' hv'
              simp only [Op.eqFields, ne_eq, hname, not_false_eq_true, if_true, Sem.run_bind, ha, ha', Result.andThen_ok]
              cases hq : eqA e v v' with
              | none => simp [hq] at h2
              | some q =>
                rw [ih f.type e he d v v' a a' q (by omega) hra hra' hq]
                simp only [hq] at h2
                cases q with
                | true =>
                  simp only [Result.andThen_ok, Bool.not_true, Bool.false_eq_true, if_false]
                  exact ihf fs'' h2 hgo'
                | false =>
                  cases h2
                  simp
            · cases h2
end Go.Tc
namespace Go.Tc
set_option linter.unusedSimpArgs false
theorem eqGuard_ok {P : Program} {w : World} {op : BinOp} {t : TypeId} {x y : Operand} {u u' : Value} (h1 : u = .nilIface → u' = .nilIface → False)
    (h2 : ∀ a b, u = .agg a → u' = .agg b → P.eqGuardType P.depth t = false) : (eqGuard op t x y u u').run P w = .ok () w := by
  cases op <;> simp only [eqGuard, Bool.not_true, Bool.not_false, if_true, Bool.false_eq_true, if_false] <;> (try rfl)
  all_goals
    split
    · exact (h1 rfl rfl).elim
    · simp [h2 _ _ rfl rfl]
    · rfl
theorem run_binOp_int {P : Program} {w : World} {op : BinOp} {t : TypeId} {k : IntKind} {a b : Int} {v : AVal} (h : binI op k a b = some v) {ι : Nm} {ro : Ros} :
    ∃ r, (binOp op t (.int k a) (.int k b)).run P w = .ok r w ∧ VRel ι ro w v r := by
  have hb : ∀ (op : BinOp) (s : Sem Value), (op ≠ .shl) → (op ≠ .shr) → (match op with
      | .add | .sub | .mul => Op.intArith op k a b
      | .quo | .rem => Op.intDiv op k a b
      | .and | .or | .xor | .andNot => Op.intBits op k a b
      | _ => Op.intCmp op a b) = s → binOp op t (.int k a) (.int k b) = s := by
    intro op s h1 h2 e
    subst e
    cases op <;> first | (exact absurd rfl h1) | (exact absurd rfl h2) | (simp only [binOp]; simp)
  cases op <;> simp only [binI] at h
  case add => cases h; rw [hb .add _ (by decide) (by decide) rfl]; exact ⟨_, rfl, .int _ _⟩
  case sub => cases h; rw [hb .sub _ (by decide) (by decide) rfl]; exact ⟨_, rfl, .int _ _⟩
  case mul => cases h; rw [hb .mul _ (by decide) (by decide) rfl]; exact ⟨_, rfl, .int _ _⟩
  case quo =>
    split at h
    · cases h
    · rename_i hz; cases h; rw [hb .quo _ (by decide) (by decide) rfl]; exact ⟨_, by simp only [Op.intDiv, if_neg hz]; rfl, .int _ _⟩
  case rem =>
    split at h
    · cases h
    · rename_i hz; cases h; rw [hb .rem _ (by decide) (by decide) rfl]; exact ⟨_, by simp only [Op.intDiv, if_neg hz]; rfl, .int _ _⟩
  case and => cases h; rw [hb .and _ (by decide) (by decide) rfl]; exact ⟨_, rfl, .int _ _⟩
  case or => cases h; rw [hb .or _ (by decide) (by decide) rfl]; exact ⟨_, rfl, .int _ _⟩
  case xor => cases h; rw [hb .xor _ (by decide) (by decide) rfl]; exact ⟨_, rfl, .int _ _⟩
  case andNot => cases h; rw [hb .andNot _ (by decide) (by decide) rfl]; exact ⟨_, rfl, .int _ _⟩
  case eql => cases h; rw [hb .eql _ (by decide) (by decide) rfl]; exact ⟨_, rfl, .bool _⟩
  case neq => cases h; rw [hb .neq _ (by decide) (by decide) rfl]; exact ⟨_, rfl, .bool _⟩
  case lss => cases h; rw [hb .lss _ (by decide) (by decide) rfl]; exact ⟨_, rfl, .bool _⟩
  case leq => cases h; rw [hb .leq _ (by decide) (by decide) rfl]; exact ⟨_, rfl, .bool _⟩
  case gtr => cases h; rw [hb .gtr _ (by decide) (by decide) rfl]; exact ⟨_, rfl, .bool _⟩
  case geq => cases h; rw [hb .geq _ (by decide) (by decide) rfl]; exact ⟨_, rfl, .bool _⟩
  all_goals cases h
theorem run_binOp_shift {P : Program} {w : World} {op : BinOp} {t : TypeId} {k k' : IntKind} {a b : Int} {v : AVal} (hop : op = .shl ∨ op = .shr) (h : shiftI op k a b = some v) {ι : Nm} {ro : Ros} :
    ∃ r, (binOp op t (.int k a) (.int k' b)).run P w = .ok r w ∧ VRel ι ro w v r := by
  unfold shiftI at h
  split at h
  · cases h
  rename_i hb
  rcases hop with rfl | rfl <;> cases h <;> exact ⟨_, by simp only [binOp, Op.shift, if_neg hb]; rfl, .int _ _⟩
theorem run_binOp_str {P : Program} {w : World} {op : BinOp} {t : TypeId} {a b : ByteArray} {v : AVal} (h : binStr op a b = some v) {ι : Nm} {ro : Ros} :
    ∃ r, (binOp op t (.string a) (.string b)).run P w = .ok r w ∧ VRel ι ro w v r := by
  have hb : ∀ (op : BinOp), op ≠ .shl → op ≠ .shr → binOp op t (.string a) (.string b) = Op.stringOp op a b := by
    intro op h1 h2
    cases op <;> first | (exact absurd rfl h1) | (exact absurd rfl h2) | (simp only [binOp])
  cases op <;> simp only [binStr] at h
  case add =>
    split at h
    · rename_i hle
      cases h
      rw [hb .add (by decide) (by decide)]
      have hm : ¬ (((a.size + b.size : Nat) : Int) > IntKind.i64.max) := by
        have : IntKind.i64.max = 9223372036854775807 := by decide
        rw [this]; omega
      exact ⟨_, by simp only [Op.stringOp, if_neg hm]; rfl, .str _⟩
    · cases h
  case eql => cases h; rw [hb .eql (by decide) (by decide)]; exact ⟨_, rfl, .bool _⟩
  case neq => cases h; rw [hb .neq (by decide) (by decide)]; exact ⟨_, rfl, .bool _⟩
  case lss => cases h; rw [hb .lss (by decide) (by decide)]; exact ⟨_, rfl, .bool _⟩
  case leq => cases h; rw [hb .leq (by decide) (by decide)]; exact ⟨_, rfl, .bool _⟩
  case gtr => cases h; rw [hb .gtr (by decide) (by decide)]; exact ⟨_, rfl, .bool _⟩
  case geq => cases h; rw [hb .geq (by decide) (by decide)]; exact ⟨_, rfl, .bool _⟩
  all_goals cases h
theorem binOp_eq_run {t : TypeId} {e : EqT} {ι : Nm} {ro : Ros} {w : World} {x y : AVal} {u u' : Value} {b : Bool} (hb : eqA e x y = some b) (hx : VRel ι ro w x u) (hy : VRel ι ro w y u')
    (hni : ∀ k a k' c, x = .int k a → y = .int k' c → False) (hns : ∀ a c, x = .str a → y = .str c → False) :
    binOp .eql t u u' = (do pure (.bool (← Op.equal t u u'))) ∧ binOp .neq t u u' = (do pure (.bool (!(← Op.equal t u u')))) := by
  have leaf : ∀ e, eqL e x y = some b → binOp .eql t u u' = (do pure (.bool (← Op.equal t u u'))) ∧ binOp .neq t u u' = (do pure (.bool (!(← Op.equal t u u')))) := by
    intro e h
    cases e
    case int =>
      unfold eqL at h
      dsimp only at h
      split at h
      · exact (hni _ _ _ _ rfl rfl).elim
      · cases h
    case str =>
      unfold eqL at h
      dsimp only at h
      split at h
      · exact (hns _ _ rfl rfl).elim
      · cases h
    case struct => simp [eqL] at h
    all_goals
      simp only [eqL] at h
      split at h <;> (try (cases h; done)) <;> cases hx <;> cases hy <;> exact ⟨rfl, rfl⟩
  cases e
  case struct fs =>
    obtain ⟨cs, cs', rfl, rfl, _⟩ := eqA_struct hb
    cases hx; cases hy; exact ⟨rfl, rfl⟩
  all_goals (simp only [eqA] at hb; exact leaf _ hb)
theorem eqTy_nifn {P : Program} {n : Nat} {t : TypeId} (h : eqTy P n t = some .ifn) : False := by
  cases n with
  | zero => simp only [eqTy] at h; split at h <;> cases h
  | succ n =>
    simp only [eqTy] at h
    split at h <;> (try (cases h; done))
    repeat' (first
      | (simp only [Option.bind_eq_some_iff, Option.map_eq_some_iff] at h)
      | (obtain ⟨_, _, h⟩ := h)
      | (cases h; done)
      | (split at h))
theorem eqTy_guard {P : Program} {n : Nat} {t : TypeId} {e : EqT} (h : eqTy P n t = some e) {x y : AVal} {b : Bool} (hq : eqA e x y = some b) {ι : Nm} {ro : Ros} {w : World} {u u' : Value}
    (hx : VRel ι ro w x u) (hy : VRel ι ro w y u') : (u = .nilIface → u' = .nilIface → False) ∧ (∀ a b, u = .agg a → u' = .agg b → P.eqGuardType P.depth t = false) := by
  have leaf : ∀ e, e ≠ .ifn → eqL e x y = some b → (u = .nilIface → u' = .nilIface → False) ∧ (∀ a b, u = .agg a → u' = .agg b → P.eqGuardType P.depth t = false) := by
    intro e hne h
    cases e <;> (try exact absurd rfl hne) <;> simp only [eqL] at h <;> (try (cases h; done)) <;> split at h <;> (try (cases h; done)) <;> cases hx <;> cases hy <;> simp
  cases e
  case struct fs =>
    obtain ⟨cs, cs', rfl, rfl, _⟩ := eqA_struct hq
    rcases eqTy_leaf h with ⟨td, ht, hl⟩ | ⟨fs, m, fs', _, _, _, hg, _, _⟩
    · cases td <;> simp [EqD] at hl
    · exact ⟨fun e1 _ => (by subst e1; cases hx), fun _ _ _ _ => hg⟩
  case ifn => exact (eqTy_nifn h).elim
  all_goals (simp only [eqA] at hq; exact leaf _ (by simp) hq)
theorem binA_rel {P : Program} {t : TypeId} {e : EqT} (he : eqTy P 3 t = some e) {ι : Nm} {ro : Ros} {w : World} {op : BinOp} {x y v : AVal} {u u' : Value} (xo yo : Operand)
    (hx : VRel ι ro w x u) (hy : VRel ι ro w y u') (h : binA op e x y = some v) :
    ∃ r, (do eqGuard op t xo yo u u'; binOp op t u u' : Sem Value).run P w = .ok r w ∧ VRel ι ro w v r := by
  have key : (∃ r, (binOp op t u u').run P w = .ok r w ∧ VRel ι ro w v r) ∧ (u = .nilIface → u' = .nilIface → False) ∧ (∀ a b, u = .agg a → u' = .agg b → P.eqGuardType P.depth t = false) := by
    unfold binA at h
    split at h
    · cases hx; cases hy; exact ⟨run_binOp_shift (.inl rfl) h, by simp, by simp⟩
    · cases hx; cases hy; exact ⟨run_binOp_shift (.inr rfl) h, by simp, by simp⟩
    · split at h
      · rename_i hk; subst hk
        cases hx; cases hy
        exact ⟨run_binOp_int h, by simp, by simp⟩
      · cases h
    · cases hx; cases hy; exact ⟨run_binOp_str h, by simp, by simp⟩
    · rename_i hni hns
      simp only [Option.map_eq_some_iff] at h
      obtain ⟨b, hb, rfl⟩ := h
      refine ⟨⟨.bool b, ?_, .bool b⟩, eqTy_guard he hb hx hy⟩
      have hr := eqA_rel 3 t e he Op.maxDepth x y u u' b (by decide) hx hy hb
      rw [(binOp_eq_run (t := t) hb hx hy (fun k a k' c h1 h2 => hni k a k' c h1 h2) (fun a c h1 h2 => hns a c h1 h2)).1]
      simp only [Op.equal, Sem.run_bind, hr, Result.andThen_ok, Sem.run_pure]
    · rename_i hni hns
      simp only [Option.map_eq_some_iff] at h
      obtain ⟨b, hb, rfl⟩ := h
      refine ⟨⟨.bool (!b), ?_, .bool _⟩, eqTy_guard he hb hx hy⟩
      have hr := eqA_rel 3 t e he Op.maxDepth x y u u' b (by decide) hx hy hb
      rw [(binOp_eq_run (t := t) hb hx hy (fun k a k' c h1 h2 => hni k a k' c h1 h2) (fun a c h1 h2 => hns a c h1 h2)).2]
      simp only [Op.equal, Sem.run_bind, hr, Result.andThen_ok, Sem.run_pure]
    · cases h
  obtain ⟨⟨r, hr, hv⟩, g1, g2⟩ := key
  exact ⟨r, by simp only [Sem.run_bind, eqGuard_ok g1 g2, Result.andThen_ok]; exact hr, hv⟩
theorem eqA_ifn {x y : AVal} {b : Bool} (h : eqA .ifn x y = some b) : eqA .iface x y = some b ∨ (x = .nilI ∧ y = .nilI) := by
  simp only [eqA, eqL] at h ⊢
  split at h <;> first | (cases h; done) | exact .inr ⟨rfl, rfl⟩ | exact .inl h
theorem binA_gen {P : Program} {t : TypeId} {e : EqT} {ι : Nm} {ro : Ros} {w : World} {op : BinOp} {x y v : AVal} {u u' : Value} (xo yo : Operand)
    (hx : VRel ι ro w x u) (hy : VRel ι ro w y u') (hE : ∀ b, eqA e x y = some b → (Op.equalIn Op.maxDepth t u u').run P w = .ok b w) (hG : ∀ b op, eqA e x y = some b → (eqGuard op t xo yo u u').run P w = .ok () w) (h : binA op e x y = some v) :
    ∃ r, (do eqGuard op t xo yo u u'; binOp op t u u' : Sem Value).run P w = .ok r w ∧ VRel ι ro w v r := by
  have go : ∀ r, (eqGuard op t xo yo u u').run P w = .ok () w → (binOp op t u u').run P w = .ok r w → VRel ι ro w v r → ∃ r, (do eqGuard op t xo yo u u'; binOp op t u u' : Sem Value).run P w = .ok r w ∧ VRel ι ro w v r :=
    fun r h1 h2 h3 => ⟨r, by simp only [Sem.run_bind, h1, Result.andThen_ok]; exact h2, h3⟩
  unfold binA at h
  split at h
  · cases hx; cases hy; obtain ⟨r, h1, h2⟩ := run_binOp_shift (P := P) (w := w) (t := t) (ι := ι) (ro := ro) (.inl rfl) h; exact go r (eqGuard_ok (by simp) (by simp)) h1 h2
  · cases hx; cases hy; obtain ⟨r, h1, h2⟩ := run_binOp_shift (P := P) (w := w) (t := t) (ι := ι) (ro := ro) (.inr rfl) h; exact go r (eqGuard_ok (by simp) (by simp)) h1 h2
  · split at h
    · rename_i hk; subst hk
      cases hx; cases hy
      obtain ⟨r, h1, h2⟩ := run_binOp_int (P := P) (w := w) (t := t) (ι := ι) (ro := ro) h; exact go r (eqGuard_ok (by simp) (by simp)) h1 h2
    · cases h
  · cases hx; cases hy; obtain ⟨r, h1, h2⟩ := run_binOp_str (P := P) (w := w) (t := t) (ι := ι) (ro := ro) h; exact go r (eqGuard_ok (by simp) (by simp)) h1 h2
  · rename_i hni hns
    simp only [Option.map_eq_some_iff] at h
    obtain ⟨b, hb, rfl⟩ := h
    refine go (.bool b) (hG b _ hb) ?_ (.bool b)
    rw [(binOp_eq_run (t := t) hb hx hy (fun k a k' c h1 h2 => hni k a k' c h1 h2) (fun a c h1 h2 => hns a c h1 h2)).1]
    simp only [Op.equal, Sem.run_bind, hE b hb, Result.andThen_ok, Sem.run_pure]
  · rename_i hni hns
    simp only [Option.map_eq_some_iff] at h
    obtain ⟨b, hb, rfl⟩ := h
    refine go (.bool (!b)) (hG b _ hb) ?_ (.bool _)
    rw [(binOp_eq_run (t := t) hb hx hy (fun k a k' c h1 h2 => hni k a k' c h1 h2) (fun a c h1 h2 => hns a c h1 h2)).2]
    simp only [Op.equal, Sem.run_bind, hE b hb, Result.andThen_ok, Sem.run_pure]
  · cases h
theorem binA_const {P : Program} {t : TypeId} {e : EqT} (he : eqTy P 3 t = some e) {ι : Nm} {ro : Ros} {w : World} {op : BinOp} {x y v : AVal} {u u' : Value} (xo yo : Operand)
    (hx : VRel ι ro w x u) (hy : VRel ι ro w y u') (h : binA op (constE e xo yo) x y = some v) :
    ∃ r, (do eqGuard op t xo yo u u'; binOp op t u u' : Sem Value).run P w = .ok r w ∧ VRel ι ro w v r := by
  by_cases hc : constE e xo yo = e
  · rw [hc] at h; exact binA_rel he xo yo hx hy h
  obtain ⟨rfl, hcc⟩ : e = .iface ∧ (isConst xo || isConst yo) = true := by
    unfold constE at hc
    split at hc
    · split at hc
      · rename_i h; exact ⟨rfl, h⟩
      · exact absurd rfl hc
    · exact absurd rfl hc
  have hce : constE .iface xo yo = .ifn := by simp [constE, hcc]
  rw [hce] at h
  have hg : ∀ op, (eqGuard op t xo yo .nilIface .nilIface).run P w = .ok () w := by
    intro op
    cases op <;> simp only [eqGuard, Bool.not_true, Bool.not_false, if_true, Bool.false_eq_true, if_false] <;> (try rfl)
    all_goals
      cases xo <;> cases yo <;> first | rfl | (simp [isConst] at hcc)
  refine binA_gen xo yo hx hy (fun b hb => ?_) (fun b op hb => ?_) h
  · rcases eqTy_leaf he with ⟨td, ht, hl⟩ | ⟨fs, m, fs', hh⟩
    · exact eqA_leaf ht (e := .ifn) (by cases td <;> simp [EqD] at hl ⊢) hx hy hb _
    · simp at hh
  · rcases eqA_ifn hb with hb' | ⟨rfl, rfl⟩
    · obtain ⟨g1, g2⟩ := eqTy_guard he hb' hx hy
      exact eqGuard_ok g1 g2
    · cases hx; cases hy
      exact hg op
theorem unA_rel {P : Program} {ι : Nm} {ro : Ros} {w : World} {op : UnOp} {x v : AVal} {u : Value} (hx : VRel ι ro w x u) (h : unA op x = some v) :
    ∃ r, (Op.unary op u).run P w = .ok r w ∧ VRel ι ro w v r := by
  unfold unA at h
  split at h <;> cases h <;> cases hx
  · exact ⟨_, rfl, .int _ _⟩
  · exact ⟨_, rfl, .int _ _⟩
  · exact ⟨_, rfl, .bool _⟩
end Go.Tc
namespace Go.Tc
set_option linter.unusedSimpArgs false
def OptRel (ι : Nm) (ro : Ros) (w : World) : Option AVal → Option Value → Prop
  | none, none => True
  | some v, some u => VRel ι ro w v u
  | _, _ => False
theorem bound_rel {P : Program} {ι : Nm} {ro : Ros} {w : World} {x : AVal} {u : Value} (h : VRel ι ro w x u) {d y r : Nat} (hb : bound (some x) d y = some r) {y' : Nat} (hy : y ≤ y') (code : BoundsCode) :
    (Instr.sliceBound u y' code).run P w = .ok r w ∧ r ≤ y := by
  unfold bound at hb
  split at hb
  · rename_i he; cases he
  · rename_i k n he
    cases he
    split at hb
    · rename_i hn
      cases hb
      cases h
      refine ⟨?_, by omega⟩
      have : (0 : Int) ≤ n ∧ n ≤ (y' : Int) := ⟨hn.1, by omega⟩
      simp only [Instr.sliceBound, asIntOf, Sem.run_bind, Sem.run_pure, Result.andThen_ok, if_pos this]
    · cases hb
  · cases hb
theorem bound_none {d y r : Nat} (hb : bound none d y = some r) : r = d := by simp [bound] at hb; exact hb.symm
theorem sliceBounds_rel {P : Program} {ι : Nm} {ro : Ros} {w : World} {len cap h l c : Nat} (hcap : len ≤ cap) {lo hi mx : Option AVal} {lo' hi' mx' : Option Value}
    (rl : OptRel ι ro w lo lo') (rh : OptRel ι ro w hi hi') (rm : OptRel ι ro w mx mx') (hmx : mx = none ∨ hi ≠ none)
    (h1 : bound hi len len = some h) (h2 : bound lo 0 h = some l) (h3 : mx = none → c = cap) (h4 : ∀ m, mx = some m → bound (some m) len len = some c ∧ h ≤ c) :
    (Instr.sliceBounds true len cap lo' hi' mx').run P w = .ok (l, h, c) w ∧ l ≤ h ∧ h ≤ len ∧ h ≤ c ∧ c ≤ cap := by
  have hle : h ≤ len := by
    cases hi with
    | none => have := bound_none h1; omega
    | some x => cases hi' with
      | none => exact rh.elim
      | some u => exact (bound_rel (P := P) rh h1 (Nat.le_refl _) .sliceB).2
  have hll : l ≤ h ∧ ∀ code, (∀ u, lo' = some u → (Instr.sliceBound u h code).run P w = .ok l w) ∧ (lo' = none → l = 0) := by
    cases lo with
    | none => cases lo' with
      | none => have := bound_none h2; exact ⟨by omega, fun _ => ⟨by simp, fun _ => this⟩⟩
      | some u => exact rl.elim
    | some x => cases lo' with
      | none => exact rl.elim
      | some u => exact ⟨(bound_rel (P := P) rl h2 (Nat.le_refl _) .sliceB).2, fun code => ⟨fun u' e => by cases e; exact (bound_rel rl h2 (Nat.le_refl _) code).1, by simp⟩⟩
  cases mx with
  | none =>
    have hc := h3 rfl
    subst hc
    cases mx' with
    | some u => exact rm.elim
    | none =>
      refine ⟨?_, hll.1, hle, by omega, Nat.le_refl _⟩
      cases hi with
      | none => cases hi' with
        | some u => exact rh.elim
        | none =>
          have hh := bound_none h1
          cases lo' with
          | none => simp [Instr.sliceBounds, hh, (hll.2 .sliceB).2 rfl]
          | some u => have := (hll.2 .sliceB).1 u rfl; rw [hh] at this; simp [Instr.sliceBounds, hh, this]
      | some x => cases hi' with
        | none => exact rh.elim
        | some v =>
          have hb := (bound_rel (P := P) rh h1 hcap .sliceAcap).1
          cases lo' with
          | none => simp [Instr.sliceBounds, hb, (hll.2 .sliceB).2 rfl]
          | some u => have := (hll.2 .sliceB).1 u rfl; simp [Instr.sliceBounds, hb, this]
  | some m =>
    obtain ⟨hm, hhc⟩ := h4 m rfl
    cases mx' with
    | none => exact rm.elim
    | some um =>
      have hmb := bound_rel (P := P) rm hm hcap .slice3Acap
      refine ⟨?_, hll.1, hle, hhc, by omega⟩
      cases hi with
      | none => rcases hmx with hmx | hmx
                · cases hmx
                · exact absurd rfl hmx
      | some x => cases hi' with
        | none => exact rh.elim
        | some v =>
          have hb : (Instr.sliceBound v c .slice3B).run P w = .ok h w := by
            unfold bound at h1
            split at h1
            · rename_i he; cases he
            · rename_i k n he
              cases he
              split at h1
              · rename_i hn
                cases h1
                simp only [OptRel] at rh
                cases rh
                have : (0 : Int) ≤ n ∧ n ≤ (c : Int) := ⟨hn.1, by omega⟩
                simp only [Instr.sliceBound, asIntOf, Sem.run_bind, Sem.run_pure, Result.andThen_ok, if_pos this]
              · cases h1
            · cases h1
          cases lo' with
          | none => simp [Instr.sliceBounds, hmb.1, hb, (hll.2 .slice3C).2 rfl]
          | some u => have := (hll.2 .slice3C).1 u rfl; simp [Instr.sliceBounds, hmb.1, hb, this]
theorem sliceStr_rel {P : Program} {ι : Nm} {ro : Ros} {w : World} {size h l : Nat} {lo hi : Option AVal} {lo' hi' : Option Value} (rl : OptRel ι ro w lo lo') (rh : OptRel ι ro w hi hi')
    (h1 : bound hi size size = some h) (h2 : bound lo 0 h = some l) : (Instr.sliceBounds false size size lo' hi' none).run P w = .ok (l, h, size) w := by
  have hhb : ∀ code, (∀ u, hi' = some u → (Instr.sliceBound u size code).run P w = .ok h w) ∧ (hi' = none → h = size) := by
    intro code
    cases hi with
    | none => cases hi' with
      | none => have := bound_none h1; exact ⟨by simp, fun _ => this⟩
      | some u => exact rh.elim
    | some x => cases hi' with
      | none => exact rh.elim
      | some u => exact ⟨fun u' e => by cases e; exact (bound_rel rh h1 (Nat.le_refl _) code).1, by simp⟩
  have hlb : ∀ code, (∀ u, lo' = some u → (Instr.sliceBound u h code).run P w = .ok l w) ∧ (lo' = none → l = 0) := by
    intro code
    cases lo with
    | none => cases lo' with
      | none => have := bound_none h2; exact ⟨by simp, fun _ => this⟩
      | some u => exact rl.elim
    | some x => cases lo' with
      | none => exact rl.elim
      | some u => exact ⟨fun u' e => by cases e; exact (bound_rel rl h2 (Nat.le_refl _) code).1, by simp⟩
  cases hi' with
  | none =>
    have e1 := (hhb .sliceAlen).2 rfl
    cases lo' with
    | none => simp [Instr.sliceBounds, e1, (hlb .sliceB).2 rfl]
    | some u => have e2 := (hlb .sliceB).1 u rfl; rw [e1] at e2; simp [Instr.sliceBounds, e1, e2]
  | some v =>
    have e1 := (hhb .sliceAlen).1 v rfl
    cases lo' with
    | none => simp [Instr.sliceBounds, e1, (hlb .sliceB).2 rfl]
    | some u => have e2 := (hlb .sliceB).1 u rfl; simp [Instr.sliceBounds, e1, e2]
theorem slice_addr (a : Addr) (b o k : Nat) (h : a = ⟨b, o, none⟩) : a.add k = ⟨b, o + k, none⟩ := by subst h; exact addr_add _ _ _
theorem sliceA_rel {P : Program} {t e : TypeId} {ty : Ty} (hu : P.underlying t = some (.slice e)) (ht : tyOf P e = some ty) {ι : Nm} {ro : Ros} {w : World}
    {x v : AVal} {u : Value} (hx : VRel ι ro w x u) {lo hi mx : Option AVal} {lo' hi' mx' : Option Value} (rl : OptRel ι ro w lo lo') (rh : OptRel ι ro w hi hi') (rm : OptRel ι ro w mx mx') (hmx : mx = none ∨ hi ≠ none)
    (h : sliceA ty.n x lo hi mx = some v) : ∃ r, (Instr.sliceAt t u lo' hi' mx').run P w = .ok r w ∧ VRel ι ro w v r := by
  obtain ⟨i, d, z, hi2, hd, _, _, _, _, _, hsz, _, _, _⟩ := tyOf_spec ht
  have hs : (sizeOf e).run P w = .ok ty.n w := by rw [run_sizeOf hi2, hsz]
  have goSlice : ∀ u, (Instr.sliceAt t u lo' hi' mx').run P w = (Instr.slice t u lo' hi' mx').run P w := by
    intro u; simp [Instr.sliceAt, run_und hu]
  have goRun : ∀ a len cap l h m, (Instr.sliceBounds true len cap lo' hi' mx').run P w = .ok (l, h, m) w →
      (Instr.slice t (.slice a len cap) lo' hi' mx').run P w = .ok (.slice (if m = l then a else a.map (·.add (l * ty.n))) (h - l) (m - l)) w := by
    intro a len cap l h m hb
    simp [Instr.slice, run_und hu, hb, hs]
  unfold sliceA at h
  split at h
  · cases hx
    simp only [Option.bind_eq_some_iff, Option.map_eq_some_iff] at h
    obtain ⟨hh, h1, c, h2, l, h3, rfl⟩ := h
    have h0 : hh = 0 ∧ (mx = none → c = 0) ∧ (∀ m, mx = some m → bound (some m) 0 0 = some c ∧ hh ≤ c) := by
      have : hh = 0 := by
        cases hi with
        | none => exact bound_none h1
        | some x => cases hi' with
          | none => exact rh.elim
          | some u => have := (bound_rel (P := P) rh h1 (Nat.le_refl _) .sliceB).2; omega
      refine ⟨this, ?_, ?_⟩
      · rintro rfl; exact bound_none h2
      · rintro m rfl; exact ⟨h2, by omega⟩
    obtain ⟨hr, hl, _, _, hc⟩ := sliceBounds_rel (P := P) (w := w) (cap := 0) (Nat.le_refl 0) rl rh rm hmx h1 h3 (c := c) (fun e => h0.2.1 e) h0.2.2
    refine ⟨.slice none 0 0, ?_, .nilS⟩
    rw [goSlice, goRun none 0 0 l hh c hr]
    have : hh - l = 0 ∧ c - l = 0 := by omega
    rw [this.1, this.2]
    split <;> rfl
  · rename_i m' N i0 len ex
    split at h
    rename_i hmt
    subst hmt
    cases hx with
    | @ms _ _ b off ext _ _ cap _ a hN hlc hex ha =>
      simp only [Option.bind_eq_some_iff] at h
      obtain ⟨hh, h1, l, h2, h⟩ := h
      cases mx with
      | none =>
        simp only at h
        cases h
        obtain ⟨hr, hl, hle, _, _⟩ := sliceBounds_rel (P := P) (w := w) hlc rl rh rm hmx h1 h2 (c := cap) (fun _ => rfl) (by simp)
        refine ⟨_, by rw [goSlice, goRun _ _ _ _ _ _ hr], ?_⟩
        by_cases hcl : cap = l
        · rw [if_pos hcl]
          exact .ms hN (by omega) (by simp; intro e1 e2; have := hex e1; omega) (.inl (by omega))
        · rw [if_neg hcl]
          refine .ms hN (by omega) (by simp; intro e1 e2; have := hex e1; omega) (.inr ?_)
          rcases ha with ha | ⟨ha, hext⟩
          · omega
          · refine ⟨by show a.add _ = _; rw [slice_addr a b _ _ ha, Nat.add_mul]; congr 1; omega, ?_⟩
            rw [Nat.add_mul, Nat.sub_mul]
            have : l * ty.n ≤ cap * ty.n := Nat.mul_le_mul_right _ (by omega)
            omega
      | some m =>
        simp only [Option.bind_eq_some_iff] at h
        obtain ⟨c, h3, h⟩ := h
        split at h
        · rename_i hch
          cases h
          obtain ⟨hr, hl, hle, _, hcc⟩ := sliceBounds_rel (P := P) (w := w) hlc rl rh rm hmx h1 h2 (c := c) (by simp) (fun m' e => by cases e; exact ⟨h3, by omega⟩)
          refine ⟨_, by rw [goSlice, goRun _ _ _ _ _ _ hr], ?_⟩
          subst hch
          by_cases hcl : c = l
          · rw [if_pos hcl]
            exact .ms hN (by omega) (fun _ => rfl) (.inl (by omega))
          · rw [if_neg hcl]
            refine .ms hN (by omega) (fun _ => rfl) (.inr ?_)
            rcases ha with ha | ⟨ha, hext⟩
            · omega
            · refine ⟨by show a.add _ = _; rw [slice_addr a b _ _ ha, Nat.add_mul]; congr 1; omega, ?_⟩
              rw [Nat.add_mul, Nat.sub_mul]
              have : l * ty.n ≤ c * ty.n := Nat.mul_le_mul_right _ (by omega)
              have : c * ty.n ≤ cap * ty.n := Nat.mul_le_mul_right _ (by omega)
              omega
        · cases h
    · cases h
  · rename_i m' rows i0 len ex
    split at h
    · rename_i hmt
      subst hmt
      simp only [Option.bind_eq_some_iff] at h
      obtain ⟨hh, h1, l, h2, h⟩ := h
      cases hx with
      | @rs _ _ _ _ cap _ a b off f hmr hc hv hlc hex ha =>
        cases mx with
        | none =>
          simp only at h
          cases h
          obtain ⟨hr, hl, hle, _, _⟩ := sliceBounds_rel (P := P) (w := w) hlc rl rh rm hmx h1 h2 (c := cap) (fun _ => rfl) (by simp)
          refine ⟨_, by rw [goSlice, goRun _ _ _ _ _ _ hr], ?_⟩
          by_cases hcl : cap = l
          · rw [if_pos hcl]
            exact .rs b off f hmr hc hv (by omega) (by simp; intro e1 e2; have := hex e1; omega) (.inl (by omega))
          · rw [if_neg hcl]
            refine .rs b off f hmr hc hv (by omega) (by simp; intro e1 e2; have := hex e1; omega) (.inr ?_)
            rcases ha with ha | ha
            · omega
            · show a.add _ = _; rw [slice_addr a b _ _ ha, Nat.add_mul]; congr 1; omega
        | some m =>
          simp only [Option.bind_eq_some_iff] at h
          obtain ⟨c, h3, h⟩ := h
          split at h
          · rename_i hch
            cases h
            obtain ⟨hr, hl, hle, _, hcc⟩ := sliceBounds_rel (P := P) (w := w) hlc rl rh rm hmx h1 h2 (c := c) (by simp) (fun m' e => by cases e; exact ⟨h3, by omega⟩)
            refine ⟨_, by rw [goSlice, goRun _ _ _ _ _ _ hr], ?_⟩
            subst hch
            by_cases hcl : c = l
            · rw [if_pos hcl]
              exact .rs b off f hmr hc hv (by omega) (fun _ => rfl) (.inl (by omega))
            · rw [if_neg hcl]
              refine .rs b off f hmr hc hv (by omega) (fun _ => rfl) (.inr ?_)
              rcases ha with ha | ha
              · omega
              · show a.add _ = _; rw [slice_addr a b _ _ ha, Nat.add_mul]; congr 1; omega
          · cases h
    · cases h
  · cases h
end Go.Tc
namespace Go.Tc
set_option linter.unusedSimpArgs false
theorem cellAt_take_drop {rows : List (List AVal)} {i len j q : Nat} {v : AVal} (h : cellAt ((rows.drop i).take len) j q = some v) : j < len ∧ cellAt rows (i + j) q = some v := by
  unfold cellAt at h ⊢
  rw [List.getElem?_take] at h
  split at h
  · rw [List.getElem?_drop] at h; exact ⟨‹_›, h⟩
  · cases h
def Reads (ι : Nm) (ro : Ros) (w : World) (m n : Nat) (xs : List (List AVal)) (arr : Array Value) : Prop :=
  arr.size = n * m ∧ ∀ j q v, j < n → cellAt xs j q = some v → ∃ y, arr[j * m + q]? = some y ∧ VRel ι ro w v y
theorem reads_of_cells {P : Program} {ι : Nm} {ro : Ros} {w : World} {b base m len n cap : Nat} {xs : List (List AVal)} (hm : ∀ row ∈ xs, RowOk m row) (hl : xs.length = len) (hn : n ≤ len)
    (hc : ∀ j q v, cellAt xs j q = some v → ∃ y, w.cell? ⟨b, base + j * m + q, none⟩ = some y ∧ VRel ι ro w v y) :
    ∃ arr, (Builtin.firstCells m n (.slice (some ⟨b, base, none⟩) len cap)).run P w = .ok arr w ∧ Reads ι ro w m n xs arr := by
  have get : ∀ k, k < n * m → ∃ y, w.cell? ((⟨b, base, none⟩ : Addr).add k) = some y := fun k hk => by
    have hmpos : 0 < m := by
      rcases Nat.eq_zero_or_pos m with h | h
      · subst h; omega
      · exact h
    have hj : k / m < n := Nat.div_lt_of_lt_mul (by rw [Nat.mul_comm]; exact hk)
    have hq : k % m < m := Nat.mod_lt _ hmpos
    have hrow : xs[k / m]? = some (xs[k / m]'(by omega)) := List.getElem?_eq_getElem (by omega)
    have hrl := (hm _ (List.mem_of_getElem? hrow)).1
    obtain ⟨y, hy, _⟩ := hc (k / m) (k % m) ((xs[k / m]'(by omega))[k % m]'(by omega)) (by simp only [cellAt, hrow, Option.bind_some]; exact List.getElem?_eq_getElem _)
    refine ⟨y, ?_⟩
    rw [addr_add, ← hy]
    congr 2
    have := Nat.div_add_mod k m
    rw [Nat.mul_comm] at this
    omega
  refine ⟨((List.range (n * m)).map fun k => (w.cell? ((⟨b, base, none⟩ : Addr).add k)).getD undef).toArray, ?_, by simp, ?_⟩
  · simp only [Builtin.firstCells]
    exact run_loadCells w ⟨b, base, none⟩ (n * m) _ (fun k hk => by obtain ⟨y, hy⟩ := get k hk; rw [hy]; rfl)
  · intro j q v hj hv
    obtain ⟨y, hy, hr⟩ := hc j q v hv
    have hlt := cellAt_lt hm hv
    refine ⟨y, ?_, hr⟩
    have : j * m + q < n * m := mul_lt hj hlt.2
    simp only [List.getElem?_toArray, List.getElem?_map, List.getElem?_range this, Option.map_some]
    rw [addr_add, ← Nat.add_assoc, hy]; rfl
theorem elems_rel {P : Program} {ι : Nm} {ro : Ros} {σ : AHeap} {w : World} (R : Rel ι ro σ w) {m : Nat} {x : AVal} {u : Value} (h : VRel ι ro w x u) {xs : List (List AVal)} (hx : elems σ m x = some xs) :
    (Builtin.lenOf u).run P w = .ok xs.length w ∧ (∀ row ∈ xs, RowOk m row) ∧ ∀ n, n ≤ xs.length → ∃ arr, (Builtin.firstCells m n u).run P w = .ok arr w ∧ Reads ι ro w m n xs arr := by
  unfold elems at hx
  split at hx
  · cases hx; cases h
    refine ⟨rfl, by simp, fun n hn => ⟨#[], rfl, by simp at hn; simp [hn], by simp [cellAt]⟩⟩
  · rename_i m' N i len ex
    split at hx
    · rename_i hmm; subst hmm
      cases h with
      | @ms _ _ b off ext _ _ cap _ a hN hlc hex ha =>
        split at hx
        · rename_i hl0
          cases hx
          subst hl0
          refine ⟨rfl, by simp, fun n hn => ?_⟩
          simp at hn; subst hn
          exact ⟨#[], by simp [Builtin.firstCells, loadCells, loadCellsFrom], by simp, by simp [cellAt]⟩
        · rename_i hl0
          split at hx
          · rename_i m2 rows hs
            split at hx
            · rename_i hle
              cases hx
              obtain ⟨rfl, hm, hmul, _, hc⟩ := R.obj _ _ _ hN hs
              have hlen : ((rows.drop i).take len).length = len := by simp; omega
              refine ⟨by rw [hlen]; rfl, fun row hr => hm row (List.mem_of_mem_drop (List.mem_of_mem_take hr)), fun n hn => ?_⟩
              rw [hlen] at hn
              rcases ha with ha | ⟨ha, _⟩
              · omega
              · subst ha
                refine reads_of_cells (fun row hr => hm row (List.mem_of_mem_drop (List.mem_of_mem_take hr))) hlen hn (fun j q v hv => ?_)
                obtain ⟨_, hv'⟩ := cellAt_take_drop hv
                obtain ⟨y, hy, hr⟩ := hc _ _ _ hv'
                exact ⟨y, by rw [← hy, Nat.add_mul]; congr 2; omega, hr⟩
            · cases hx
          · cases hx
    · cases hx
  · rename_i m' rows i len ex
    split at hx
    · rename_i hmm; subst hmm
      split at hx
      · rename_i hl0
        cases hx
        subst hl0
        refine ⟨by cases h <;> rfl, by simp, fun n hn => ?_⟩
        simp at hn; subst hn
        refine ⟨#[], ?_, by simp, by simp [cellAt]⟩
        cases h
        simp [Builtin.firstCells, loadCells, loadCellsFrom]
      · rename_i hl0
        split at hx
        · rename_i hle
          cases hx
          have hlen : ((rows.drop i).take len).length = len := by simp; omega
          cases h with
          | @rs _ _ _ _ cap _ a b off f hmr hc hv hlc hex ha =>
            refine ⟨by rw [hlen]; rfl, fun row hr => hmr row (List.mem_of_mem_drop (List.mem_of_mem_take hr)), fun n hn => ?_⟩
            rw [hlen] at hn
            rcases ha with ha | ha
            · omega
            · subst ha
              refine reads_of_cells (fun row hr => hmr row (List.mem_of_mem_drop (List.mem_of_mem_take hr))) hlen hn (fun j q v hjq => ?_)
              obtain ⟨_, hv'⟩ := cellAt_take_drop hjq
              exact ⟨_, by rw [← (hc _ _ _ hv').2, Nat.add_mul]; congr 2; omega, hv _ _ _ hv'⟩
        · cases hx
    · cases hx
  · split at hx
    · rename_i hm1
      cases hx; cases h
      rename_i s
      subst hm1
      have hsz : s.size = s.data.size := rfl
      have hlen : (s.data.toList.map fun b => [AVal.int .u8 b.toNat]).length = s.data.size := by simp
      refine ⟨by rw [hlen]; rfl, by simp [RowOk, AVal.one], fun n hn => ?_⟩
      rw [hlen] at hn
      have hext : (s.extract 0 n).data = s.data.extract 0 n := by simp [ByteArray.data_extract]
      refine ⟨_, rfl, ?_, ?_⟩
      · rw [Array.size_map, hext, Array.size_extract]; omega
      · intro j q v hj hv
        unfold cellAt at hv
        have hjs : j < s.data.size := by omega
        rw [List.getElem?_map, List.getElem?_eq_getElem (by simpa using hjs)] at hv
        simp only [Option.map_some, Option.bind_some] at hv
        cases q with
        | zero =>
          simp only [List.getElem?_cons_zero, Option.some.injEq] at hv
          subst hv
          refine ⟨.int .u8 (s.data[j]).toNat, ?_, ?_⟩
          · rw [Nat.mul_one, Nat.add_zero, Array.getElem?_map, hext, Array.getElem?_extract, if_pos (by omega), Nat.zero_add, Array.getElem?_eq_getElem hjs]
            rfl
          · rw [Array.getElem_toList]; exact .int _ _
        | succ q => simp at hv
    · cases hx
  · cases hx
theorem Reads.append {ι : Nm} {ro : Ros} {w : World} {m n1 n2 : Nat} {xs ys : List (List AVal)} {a1 a2 : Array Value} (h1 : Reads ι ro w m n1 xs a1) (h2 : Reads ι ro w m n2 ys a2) (hx : xs.length = n1) :
    Reads ι ro w m (n1 + n2) (xs ++ ys) (a1 ++ a2) := by
  refine ⟨by simp [h1.1, h2.1, Nat.add_mul], fun j q v hj hv => ?_⟩
  unfold cellAt at hv
  by_cases hlt : j < n1
  · rw [List.getElem?_append_left (by omega)] at hv
    obtain ⟨y, hy, hr⟩ := h1.2 j q v hlt hv
    refine ⟨y, ?_, hr⟩
    rw [Array.getElem?_append_left (Array.getElem?_eq_some_iff.1 hy).1]; exact hy
  · rw [List.getElem?_append_right (by omega), hx] at hv
    obtain ⟨y, hy, hr⟩ := h2.2 (j - n1) q v (by omega) hv
    refine ⟨y, ?_, hr⟩
    rw [Array.getElem?_append_right (by rw [h1.1]; have : n1 * m ≤ j * m := Nat.mul_le_mul_right _ (by omega); omega), h1.1, ← hy]
    congr 1
    rw [Nat.sub_mul]
    have : n1 * m ≤ j * m := Nat.mul_le_mul_right _ (by omega)
    omega
theorem numsOf_len : ∀ {xs : List (List AVal)} {ns : List Int}, numsOf xs = some ns → ns.length = xs.length ∧ ∀ (j : Nat) n, ns[j]? = some n → cellAt xs j 0 = some (.int .u8 n)
  | [], ns, h => by simp [numsOf] at h; subst h; exact ⟨rfl, by simp⟩
  | r :: rest, ns, h => by
    unfold numsOf at h
    split at h
    · rename_i heq; cases heq
    · rename_i n rest' heq
      cases heq
      simp only [Option.map_eq_some_iff] at h
      obtain ⟨ns', h1, rfl⟩ := h
      obtain ⟨a, b⟩ := numsOf_len h1
      refine ⟨by simp [a], fun j m hj => ?_⟩
      cases j with
      | zero => simp at hj; subst hj; rfl
      | succ j => simp at hj; have := b j m hj; simpa [cellAt] using this
    · cases h
theorem b2s_rel {P : Program} {ι : Nm} {ro : Ros} {σ : AHeap} {w : World} (R : Rel ι ro σ w) {x : AVal} {u : Value} (h : VRel ι ro w x u) {s : ByteArray} (hx : b2sA σ x = some s) {src dst e : TypeId} (hs : P.underlying src = some (.slice e)) (he : P.underlying e = some (.int .u8)) (hd : P.underlying dst = some .string) :
    (convert src dst u).run P w = .ok (.string s) w := by
  have key : ∀ {a : Addr} {len cap : Nat} {ns : List Int}, u = .slice (some a) len cap → (elems σ 1 x).bind numsOf = some ns → (convert src dst u).run P w = .ok (.string ⟨(ns.map fun n => UInt8.ofNat n.toNat).toArray⟩) w := by
    intro a len cap ns hu hn
    subst hu
    simp only [Option.bind_eq_some_iff] at hn
    obtain ⟨xs, hxs, hn⟩ := hn
    obtain ⟨h1, h2, h3⟩ := elems_rel (P := P) R h hxs
    obtain ⟨arr, ha, hr1, hr2⟩ := h3 xs.length (Nat.le_refl _)
    obtain ⟨hl, hc⟩ := numsOf_len hn
    have hlen : len = xs.length := by
      simp only [Builtin.lenOf, Sem.run_pure, Result.ok.injEq, and_true] at h1
      exact h1
    have harr : arr = (ns.map (Value.int .u8)).toArray := by
      apply Array.ext_getElem?
      intro j
      by_cases hj : j < ns.length
      · have hnj : ns[j]? = some ns[j] := List.getElem?_eq_getElem hj
        obtain ⟨y, hy, hv⟩ := hr2 j 0 _ (by omega) (hc j _ hnj)
        simp only [Nat.mul_one, Nat.add_zero] at hy
        rw [hy]
        cases hv
        simp [hnj]
      · have h5 : ns.length ≤ j := by omega
        rw [Array.getElem?_eq_none (by omega)]
        simp [List.getElem?_eq_none h5]
    have hload : (loadCells a len).run P w = .ok (ns.map (Value.int .u8)).toArray w := by
      simp only [Builtin.firstCells, Nat.mul_one] at ha
      rw [hlen, ha, harr]
    rw [run_convert_bytes_string w src dst e _ len cap hs he hd, run_bytesToString w _ len cap ns hload, foldl_push_bytes]
    simp [ByteArray.empty, ByteArray.emptyWithCapacity]
    rfl
  unfold b2sA at hx
  split at hx
  · cases hx; cases h; exact run_convert_bytes_nil w src e hs he _ _ dst hd
  · simp only [Option.map_eq_some_iff] at hx
    obtain ⟨ns, hn, rfl⟩ := hx
    cases h with
    | ms => exact key rfl hn
  · simp only [Option.map_eq_some_iff] at hx
    obtain ⟨ns, hn, rfl⟩ := hx
    cases h with
    | rs => exact key rfl hn
  · cases hx
end Go.Tc
namespace Go.Tc
set_option linter.unusedSimpArgs false
theorem kill_rel {ι : Nm} {ro : Ros} {σ : AHeap} {w : World} (R : Rel ι ro σ w) (N : Nat) : Rel ι ro (σ.kill N) w ∧ Later ι ro σ w ι ro (σ.kill N) w := by
  have get : ∀ {M o}, (σ.kill N).objs M = some o → σ.objs M = some o := by
    intro M o h
    rw [AHeap.objs_kill] at h
    split at h
    · cases h
    · exact h
  have own : ∀ b x, Own ι (σ.kill N) b x → Own ι σ b x := by
    rintro b x ⟨M, m, off, ext, m', rows, h1, h2, h3, h4⟩
    exact ⟨M, m, off, ext, m', rows, h1, get h2, h3, h4⟩
  refine ⟨⟨R.dom, fun M l o h hs => R.obj M l o h (get hs), fun M M' l l' o o' hne h h' hs hs' => R.apart M M' l l' o o' hne h h' (get hs) (get hs'), fun b x hr ho => R.roSep b x hr (own b x ho), R.roIn⟩,
    ⟨.refl _ _ _, fun _ _ h => h, fun _ _ h => h, fun b x _ => own b x, ?_, fun _ _ _ h => .inl h, .kill _ _ _⟩⟩
  rintro r _ ⟨M, o, h1, h2⟩
  exact ⟨M, o, h1, get h2⟩
theorem append_new {ι : Nm} {ro : Ros} {σ : AHeap} {w : World} (R : Rel ι ro σ w) {m need cap : Nat} {rows : List (List AVal)} {cells : Array Value} (t : TypeId) (hm : ∀ row ∈ rows, RowOk m row) (hlen : rows.length = need)
    (hsz : cells.size = cap * m) (hcap : need ≤ cap) (hc : ∀ j q v, cellAt rows j q = some v → ∃ u, cells[j * m + q]? = some u ∧ VRel ι ro w v u) :
    ∃ ι' ro' w', w' = w.alloc (.cells cells t) ∧ Later ι ro σ w ι' ro' (σ.alloc (.cells m rows)) w' ∧ Rel ι' ro' (σ.alloc (.cells m rows)) w' ∧
      VRel ι' ro' w' (.ms m σ.next 0 need false) (.slice (some ⟨w.heap.size, 0, none⟩) need cap) := by
  obtain ⟨hR, hL⟩ := alloc_cells R m rows cells t hm (by rw [hlen, hsz]; exact Nat.mul_le_mul_right _ hcap) hc
  refine ⟨_, _, _, rfl, hL, hR, .ms (upd_same _ _ _) hcap (by simp) (.inr ⟨by simp, by rw [hsz]; simp⟩)⟩
theorem grownCap_ge' (w : World) (need old : Nat) (e : TypeId) : need ≤ grownCap w need old e := by
  simp [grownCap, Question.cut]
theorem sumLen_spec {a b bytes : Nat} (h : sumLen a b bytes = true) : (a + b) * bytes ≤ 70368744177664 ∧ a + b ≤ 4611686018427387904 := by
  simp only [sumLen, Bool.and_eq_true, decide_eq_true_eq] at h; exact h
theorem run_append_new {P : Program} {t t2 e : TypeId} {ty : Ty} {d2 : TypeDesc} (hu : P.underlying t = some (.slice e)) (ht : tyOf P e = some ty) (hu2 : P.underlying t2 = some d2) (hn2 : ∀ k, d2 ≠ .int k)
    {w : World} {x : Value} {base : Option Addr} {sLen sCap n : Nat} (rt : TypeId) (hx : (Builtin.lenOf x).run P w = .ok n w) (hlt : sCap < sLen + n)
    (hb : sumLen sLen n ty.bytes = true) {old new : Array Value} (hold : (Builtin.firstCells ty.n sLen (.slice base sLen sCap)).run P w.drew = .ok old w.drew) (hnew : (Builtin.firstCells ty.n n x).run P w.drew = .ok new w.drew)
    (hos : old.size = sLen * ty.n) (hns : new.size = n * ty.n) :
    ∃ cap cells, sLen + n ≤ cap ∧ cells.size = cap * ty.n ∧ (∀ (i : Nat) v, (old ++ new)[i]? = some v → cells[i]? = some v) ∧
      (Builtin.append_ #[t, t2] rt #[.slice base sLen sCap, x]).run P w = .ok (.slice (some ⟨w.heap.size, 0, none⟩) (sLen + n) cap) (w.drew.alloc (.cells cells e)) := by
  obtain ⟨i, d, z, hi, hd, hz, hcv, hzl, _, _, hsz, hby, _, _⟩ := tyOf_spec ht
  obtain ⟨hb1, hb2⟩ := sumLen_spec hb
  have hzc : z.cells.size = ty.n := by
    have := (cvNs_rel (ι := fun _ => none) (ro := fun _ _ => False) (w := w) 3 z.cells.toList ty.z hcv).1
    rw [hzl] at this; simpa using this
  have h63 : ¬ (IntKind.i64.max < ((sLen : Int) + (n : Int))) := by
    have : IntKind.i64.max = 9223372036854775807 := by decide
    rw [this]; omega
  have h63s : ¬ ((9223372036854775807 : Int) < ((sLen : Int) + (n : Int))) := by omega
  have hfit := growslice_fits (bytes := ty.bytes) hlt (by omega)
  have hfit' : ¬ (281474976710656 < Builtin.nextslicecap (sLen + n) sCap * ty.bytes) := by omega
  have hroom : ¬ (sLen + n ≤ sCap) := by omega
  have hge := grownCap_ge' w (sLen + n) sCap e
  refine ⟨grownCap w (sLen + n) sCap e, old ++ new ++ Builtin.zeroCells z.cells (grownCap w (sLen + n) sCap e - (sLen + n)), hge, ?_, ?_, ?_⟩
  · have hz' : (Builtin.zeroCells z.cells (grownCap w (sLen + n) sCap e - (sLen + n))).size = (grownCap w (sLen + n) sCap e - (sLen + n)) * ty.n := by simp [Builtin.zeroCells, hzc]
    simp only [Array.size_append, hos, hns, hz', ← Nat.add_mul]
    congr 1; omega
  · intro j v hj
    rw [Array.getElem?_append_left (Array.getElem?_eq_some_iff.1 hj).1]; exact hj
  · have hzeros : ∀ (b : Bool), (match d2 with | .int _ => true | _ => false) = false := by
      intro _; cases d2 <;> first | rfl | (exact absurd rfl (hn2 _))
    simp [Builtin.append_, run_und hu, run_und hu2, hzeros true, run_sizeOf hi, hsz, hx, hroom, h63, h63s, run_info hi, hby, hfit', Question.forced, hold, hnew, run_zero hi hz, newRow, grownCap]
theorem run_append_in {P : Program} {t t2 e : TypeId} {ty : Ty} {d2 : TypeDesc} (hu : P.underlying t = some (.slice e)) (ht : tyOf P e = some ty) (hu2 : P.underlying t2 = some d2) (hn2 : ∀ k, d2 ≠ .int k)
    {w w' : World} {x : Value} {base : Option Addr} {sLen sCap n : Nat} (rt : TypeId) (hx : (Builtin.lenOf x).run P w = .ok n w) (hle : sLen + n ≤ sCap) {new : Array Value}
    (hnew : (Builtin.firstCells ty.n n x).run P w = .ok new w) (hst : ∀ a, base = some a → (storeCells (a.add (sLen * ty.n)) new.toList).run P w = .ok () w') (hw : base = none → w' = w) :
    (Builtin.append_ #[t, t2] rt #[.slice base sLen sCap, x]).run P w = .ok (.slice base (sLen + n) sCap) w' := by
  obtain ⟨i, d, z, hi, hd, hz, hcv, hzl, _, _, hsz, hby, _, _⟩ := tyOf_spec ht
  have hzeros : (match d2 with | .int _ => true | _ => false) = false := by
    cases d2 <;> first | rfl | (exact absurd rfl (hn2 _))
  cases base with
  | none => have := hw rfl; subst this; simp [Builtin.append_, run_und hu, run_und hu2, hzeros, run_sizeOf hi, hsz, hx, hle, hnew]
  | some a => simp [Builtin.append_, run_und hu, run_und hu2, hzeros, run_sizeOf hi, hsz, hx, hle, hnew, hst a rfl]
theorem appA_rel {P : Program} {t t2 e : TypeId} {ty : Ty} {d2 : TypeDesc} (hu : P.underlying t = some (.slice e)) (ht : tyOf P e = some ty) (hu2 : P.underlying t2 = some d2) (hn2 : ∀ k, d2 ≠ .int k)
    {ι : Nm} {ro : Ros} {σ σ' : AHeap} {w : World} (R : Rel ι ro σ w) (rt : TypeId) {s x v : AVal} {us ux : Value} (hs : VRel ι ro w s us) (hx : VRel ι ro w x ux) (h : appA σ ty.n ty.bytes s x = some (v, σ')) :
    ∃ ι' ro' w' r, (Builtin.append_ #[t, t2] rt #[us, ux]).run P w = .ok r w' ∧ Later ι ro σ w ι' ro' σ' w' ∧ Rel ι' ro' σ' w' ∧ VRel ι' ro' w' v r := by
  unfold appA at h
  split at h
  · cases h
  rename_i xs hxs
  obtain ⟨hxl, hxm, hxr⟩ := elems_rel (P := P) R hx hxs
  obtain ⟨_, _, hxr'⟩ := elems_rel (P := P) R.drew hx.drew hxs
  have none0 : xs.length = 0 → ∀ (a : Option Addr) len cap, us = .slice a len cap → len ≤ cap → (Builtin.append_ #[t, t2] rt #[us, ux]).run P w = .ok us w := by
    intro h0 a len cap hus hlc
    subst hus
    obtain ⟨arr, harr, hr⟩ := hxr 0 (Nat.zero_le _)
    have he : arr = #[] := Array.eq_empty_of_size_eq_zero (by simpa using hr.1)
    subst he
    rw [h0] at hxl
    exact run_append_in hu ht hu2 hn2 rt hxl (by omega) harr (fun _ _ => rfl) (fun _ => rfl)
  have some0 : 0 < xs.length → ∀ (a : Option Addr) len cap rows, us = .slice a len cap → cap < len + xs.length → sumLen len xs.length ty.bytes = true → rows.length = len → (∀ row ∈ rows, RowOk ty.n row) →
      (∃ arr, (Builtin.firstCells ty.n len us).run P w.drew = .ok arr w.drew ∧ Reads ι ro w.drew ty.n len rows arr) → ∀ σ1, Rel ι ro σ1 w → Later ι ro σ w ι ro σ1 w → σ1.next = σ.next →
      ∃ ι' ro' w' r, (Builtin.append_ #[t, t2] rt #[us, ux]).run P w = .ok r w' ∧ Later ι ro σ w ι' ro' (σ1.alloc (.cells ty.n (rows ++ xs))) w' ∧ Rel ι' ro' (σ1.alloc (.cells ty.n (rows ++ xs))) w' ∧ VRel ι' ro' w' (.ms ty.n σ.next 0 (len + xs.length) false) r := by
    intro _ a len cap rows hus hlt hsum hrl hrm ⟨old, hold, hro⟩ σ1 R1 L1 hnext
    subst hus
    obtain ⟨new, hnew, hrn⟩ := hxr' xs.length (Nat.le_refl _)
    obtain ⟨cap', cells, hc1, hc2, hc3, hrun⟩ := run_append_new hu ht hu2 hn2 rt hxl hlt hsum hold hnew hro.1 hrn.1
    have hboth := hro.append hrn hrl
    obtain ⟨ι', ro', w', rfl, hL, hR, hV⟩ := append_new (need := len + xs.length) R1.drew e (m := ty.n) (rows := rows ++ xs) (cells := cells) (by
      intro row hrow
      rcases List.mem_append.1 hrow with h | h
      · exact hrm row h
      · exact hxm row h) (by simp [hrl]) hc2 hc1 (fun j q v hv => by
        have hj : j < len + xs.length := by
          have := (cellAt_lt (m := ty.n) (rows := rows ++ xs) (fun row hrow => by
            rcases List.mem_append.1 hrow with h | h
            · exact hrm row h
            · exact hxm row h) hv).1
          simp [hrl] at this; exact this
        obtain ⟨y, hy, hr⟩ := hboth.2 j q v hj hv
        exact ⟨y, hc3 _ _ hy, hr⟩)
    rw [hnext] at hV
    exact ⟨ι', ro', _, _, hrun, (L1.trans (Later.drew _ _ _ _)).trans hL, hR, hV⟩
  split at h
  ·
    cases hs
    split at h
    · rename_i h0
      cases h
      exact ⟨ι, ro, w, _, none0 h0 none 0 0 rfl (Nat.le_refl _), .refl _ _ _ _, R, .nilS⟩
    · rename_i h0
      split at h
      · rename_i hsum
        cases h
        have := some0 (by omega) none 0 0 [] rfl (by omega) hsum rfl (by simp) ⟨#[], rfl, by simp, by simp [cellAt]⟩ σ R (.refl _ _ _ _) rfl
        simpa using this
      · cases h
  ·
    rename_i m' N i len ex
    split at h
    · rename_i h0
      cases h
      cases hs with
      | ms hN hl he ha => exact ⟨ι, ro, w, _, none0 h0 _ _ _ rfl hl, .refl _ _ _ _, R, .ms hN hl he ha⟩
    rename_i h0
    split at h
    · rename_i m2 rows0 hobj
      split at h
      · rename_i old hold
        split at h
        · rename_i hh
          obtain ⟨hmm, hsum⟩ := hh
          subst hmm
          obtain ⟨_, hom, hor'⟩ := elems_rel (P := P) R.drew hs.drew hold
          obtain ⟨hol, _, _⟩ := elems_rel (P := P) R hs hold
          cases hs with
          | @ms _ _ b off ext _ _ cap _ a hN hlc hex ha =>
            have hlen : old.length = len := by
              have : (Builtin.lenOf (.slice (some a) len cap)).run P w = .ok len w := rfl
              rw [this] at hol; cases hol; rfl
            split at h
            · rename_i hext
              cases h
              have hcl := hex hext
              exact some0 (by omega) (some a) len cap old rfl (by omega) hsum hlen hom (by
                obtain ⟨arr, h1, h2⟩ := hor' len (by omega)
                exact ⟨arr, h1, h2⟩) σ R (.refl _ _ _ _) rfl
            · cases h
              by_cases hroom : len + xs.length ≤ cap
              ·
                rcases ha with ha | ⟨ha, hext⟩
                · omega
                subst ha
                obtain ⟨new, hnew, hrn⟩ := hxr xs.length (Nat.le_refl _)
                obtain ⟨rfl, hrm, hmul, _, hcell⟩ := R.obj _ _ _ hN hobj
                have hoc := owned_cells R hN hobj
                have hspace : i * ty.n + (len + xs.length) * ty.n ≤ ext := by
                  have : (len + xs.length) * ty.n ≤ cap * ty.n := Nat.mul_le_mul_right _ hroom
                  omega
                rw [Nat.add_mul] at hspace
                have hnl : new.toList.length = xs.length * ty.n := by simp [hrn.1]
                have hone : ∀ u ∈ new.toList, u.oneCell' = true := by
                  intro u hu
                  obtain ⟨k, hk⟩ := List.mem_iff_getElem?.1 hu
                  have hk' : k < xs.length * ty.n := by have := (List.getElem?_eq_some_iff.1 hk).1; omega
                  have hpos : 0 < ty.n := by
                    rcases Nat.eq_zero_or_pos ty.n with h | h
                    · rw [h] at hk'; omega
                    · exact h
                  have hj : k / ty.n < xs.length := Nat.div_lt_of_lt_mul (by rw [Nat.mul_comm]; exact hk')
                  have hrow : xs[k / ty.n]? = some (xs[k / ty.n]'hj) := List.getElem?_eq_getElem hj
                  have hrl := hxm _ (List.mem_of_getElem? hrow)
                  have hq : k % ty.n < (xs[k / ty.n]'hj).length := by rw [hrl.1]; exact Nat.mod_lt _ hpos
                  obtain ⟨y, hy, hr⟩ := hrn.2 (k / ty.n) (k % ty.n) ((xs[k / ty.n]'hj)[k % ty.n]'hq) hj (by simp only [cellAt, hrow, Option.bind_some]; exact List.getElem?_eq_getElem hq)
                  have hkd : k / ty.n * ty.n + k % ty.n = k := by rw [Nat.mul_comm]; exact Nat.div_add_mod k ty.n
                  rw [hkd] at hy
                  have : u = y := by
                    have h1 : new[k]? = some u := by simpa using hk
                    rw [hy] at h1; cases h1; rfl
                  rw [this]
                  exact hr.one_rel (hrl.2 _ (List.getElem_mem hq))
                obtain ⟨w', hrun, hw, hcells⟩ := run_storeCells_rel P b (off + i * ty.n + len * ty.n) new.toList 0 w hone
                  (fun j hj => (hoc _ (by omega) (by omega)).1) (fun j hj => (hoc _ (by omega) (by omega)).2)
                have hfin := run_append_in (w' := w') hu ht hu2 hn2 rt hxl hroom hnew (base := some ⟨b, off + i * ty.n, none⟩) (fun a' ha' => by cases ha'; rw [addr_add]; exact hrun) (by simp)
                have hold' : old = (rows0.drop i).take len := by
                  unfold elems at hold
                  simp only [if_true] at hold
                  split at hold
                  · rename_i hl0; cases hold; subst hl0; simp
                  · simp only [hobj] at hold
                    split at hold
                    · cases hold; rfl
                    · cases hold
                obtain ⟨hR, hL⟩ := reuse_cells R hN hobj (lo := off + i * ty.n + len * ty.n + 0) (hi := off + i * ty.n + len * ty.n + 0 + new.toList.length) (d := i * ty.n) (by omega) (by omega) hw (by omega) (old ++ xs)
                  (fun row hrow => by
                    rcases List.mem_append.1 hrow with h | h
                    · exact hom row h
                    · exact hxm row h)
                  (by simp only [List.length_append, hlen, Nat.add_mul]; omega)
                  (fun j q v hv => by
                    unfold cellAt at hv
                    by_cases hj : j < len
                    · rw [List.getElem?_append_left (by omega)] at hv
                      have hv2 : cellAt ((rows0.drop i).take len) j q = some v := by rw [← hold']; exact hv
                      obtain ⟨_, hv3⟩ := cellAt_take_drop hv2
                      obtain ⟨y, hy, hr⟩ := hcell _ _ _ hv3
                      have hqlt := (cellAt_lt hrm hv3).2
                      have hjm := mul_lt hj hqlt
                      refine ⟨y, ?_, hr⟩
                      have : off + (i + j) * ty.n + q = off + i * ty.n + j * ty.n + q := by rw [Nat.add_mul]; omega
                      rw [this] at hy
                      exact hw.cell (fun ⟨_, h1, _⟩ => by omega) hy
                    · rw [List.getElem?_append_right (by omega), hlen] at hv
                      obtain ⟨y, hy, hr⟩ := hrn.2 (j - len) q v (by
                        have := (cellAt_lt hxm (show cellAt xs (j - len) q = some v from hv)).1
                        omega) hv
                      refine ⟨y, ?_, hr⟩
                      have := hcells ((j - len) * ty.n + q) y (by simpa using hy)
                      rw [← this]
                      congr 2
                      rw [Nat.sub_mul]
                      have : len * ty.n ≤ j * ty.n := Nat.mul_le_mul_right _ (by omega)
                      omega)
                refine ⟨_, _, w', _, hfin, hL, hR, .ms (upd_same _ _ _) hroom (by simp) (.inr ⟨by simp, by omega⟩)⟩
              · obtain ⟨R1, L1⟩ := kill_rel R N
                exact some0 (by omega) (some a) len cap old rfl (by omega) hsum hlen hom (by
                  obtain ⟨arr, h1, h2⟩ := hor' len (by omega)
                  exact ⟨arr, h1, h2⟩) (σ.kill N) R1 L1 rfl
        · cases h
      · cases h
    · cases h
  ·
    rename_i m' rows i len ex
    split at h
    · rename_i h0
      cases h
      cases hs with
      | rs b off f hmr hc hv hl he ha => exact ⟨ι, ro, w, _, none0 h0 _ _ _ rfl hl, .refl _ _ _ _, R, .rs b off f hmr hc hv hl he ha⟩
    rename_i h0
    split at h
    · rename_i old hold
      split at h
      · rename_i hh
        obtain ⟨hmm, hext, hsum⟩ := hh
        subst hmm
        cases h
        obtain ⟨_, hom, hor'⟩ := elems_rel (P := P) R.drew hs.drew hold
        obtain ⟨hol, _, _⟩ := elems_rel (P := P) R hs hold
        cases hs with
        | @rs _ _ _ _ cap _ a b off f hmr hc hv hlc hex ha =>
          have hlen : old.length = len := by
            have : (Builtin.lenOf (.slice (some a) len cap)).run P w = .ok len w := rfl
            rw [this] at hol; cases hol; rfl
          have hcl := hex hext
          exact some0 (by omega) (some a) len cap old rfl (by omega) hsum hlen hom (by
            obtain ⟨arr, h1, h2⟩ := hor' len (by omega)
            exact ⟨arr, h1, h2⟩) σ R (.refl _ _ _ _) rfl
      · cases h
    · cases h
  · cases h
end Go.Tc
namespace Go.Tc
set_option linter.unusedSimpArgs false
theorem cellAt_single {z : List AVal} {j q : Nat} {v : AVal} (h : cellAt [z] j q = some v) : j = 0 ∧ z[q]? = some v := by
  unfold cellAt at h
  cases j with
  | zero => simpa using h
  | succ j => simp at h
theorem newVar_rel {P : Program} {ι : Nm} {ro : Ros} {σ : AHeap} {w : World} (R : Rel ι ro σ w) (t : TypeId) {u : Value} {cs : List AVal} (hl : u.cells.size = cs.length) (h1 : ∀ v ∈ cs, v.one = true)
    (hc : ∀ (i : Nat) v x, cs[i]? = some v → u.cells[i]? = some x → VRel ι ro w v x) :
    ∃ ι' ro' w' a, (newVar t u).run P w = .ok a w' ∧ Later ι ro σ w ι' ro' (σ.alloc (.cells cs.length [cs])) w' ∧ Rel ι' ro' (σ.alloc (.cells cs.length [cs])) w' ∧ VRel ι' ro' w' (.ptr σ.next 0 0) (.pointer (some a)) := by
  obtain ⟨hR, hL⟩ := alloc_cells R cs.length [cs] u.cells t (by intro row hr; simp at hr; subst hr; exact ⟨rfl, h1⟩) (by simp [hl]) (by
    intro j q v hv
    obtain ⟨rfl, hq⟩ := cellAt_single hv
    have hlt := (List.getElem?_eq_some_iff.1 hq).1
    exact ⟨u.cells[q]'(by omega), by simp [Array.getElem?_eq_getElem (show q < u.cells.size by omega)], hc q v _ hq (Array.getElem?_eq_getElem (by omega))⟩)
  refine ⟨_, _, _, ⟨w.heap.size, 0, none⟩, rfl, hL, hR, ?_⟩
  have := VRel.ptr (ι := upd ι σ.next (.cells cs.length w.heap.size 0 u.cells.size)) (ro := ro) (w := w.alloc (.cells u.cells t)) 0 0 (upd_same ι σ.next (.cells cs.length w.heap.size 0 u.cells.size))
  simpa using this
theorem cvCells_rel {ι : Nm} {ro : Ros} {w : World} {z : Value} {zs : List AVal} (h : cvCells z = some zs) : z.cells.size = zs.length ∧ ∀ (i : Nat) v x, zs[i]? = some v → z.cells[i]? = some x → VRel ι ro w v x := by
  have := cvNs_rel (ι := ι) (ro := ro) (w := w) 3 z.cells.toList zs h
  exact ⟨by simpa using this.1, fun i v x hv hx => this.2 i v x hv (by simpa using hx)⟩
theorem one_all {cs : List AVal} (h : cs.all AVal.one = true) : ∀ v ∈ cs, v.one = true := List.all_eq_true.1 h
theorem cells_VRels {ι : Nm} {ro : Ros} {w : World} {v : AVal} {u : Value} (h : VRel ι ro w v u) (ho : v.cells.all AVal.one = true) : VRels ι ro w v.cells u.cells := by
  obtain ⟨hj, ht⟩ := all_one_junk ho
  exact h.cells_rel hj ht
theorem fill_step {ι : Nm} {ro : Ros} {w : World} {cells : List AVal} {us : Array Value} (h : VRels ι ro w cells us) {off : Nat} {vs : List AVal} {xs : Array Value} (hv : VRels ι ro w vs xs) (hle : off + vs.length ≤ cells.length) :
    VRels ι ro w (splice cells off vs) (xs.zipIdx.foldl (fun cs (c, j) => cs.setIfInBounds (off + j) c) us) ∧ (xs.zipIdx.foldl (fun cs (c, j) => cs.setIfInBounds (off + j) c) us).size = us.size ∧
    ∀ k : Nat, (xs.zipIdx.foldl (fun cs (c, j) => cs.setIfInBounds (off + j) c) us)[k]? = if off ≤ k ∧ k < off + xs.size then xs[k - off]? else us[k]? := by
  have key : ∀ (l : List Value) (s : Nat) (us : Array Value), off + s + l.length ≤ us.size →
      ((l.zipIdx s).foldl (fun cs (c, j) => cs.setIfInBounds (off + j) c) us).size = us.size ∧
      ∀ k : Nat, ((l.zipIdx s).foldl (fun cs (c, j) => cs.setIfInBounds (off + j) c) us)[k]? = if off + s ≤ k ∧ k < off + s + l.length then l[k - (off + s)]? else us[k]? := by
    intro l
    induction l with
    | nil => intro s us _; simp; intro k h1 h2; omega
    | cons x l ih =>
      intro s us hle
      simp only [List.length_cons] at hle
      obtain ⟨h1, h2⟩ := ih (s + 1) (us.setIfInBounds (off + s) x) (by simp; omega)
      simp only [List.zipIdx_cons, List.foldl_cons]
      refine ⟨by rw [h1]; simp, fun k => ?_⟩
      rw [h2 k]
      by_cases hk : k = off + s
      · subst hk
        rw [if_neg (by omega), if_pos (by simp), Array.getElem?_setIfInBounds_self]
        rw [if_pos (by omega)]; simp
      · rw [Array.getElem?_setIfInBounds_ne (Ne.symm hk)]
        by_cases h3 : off + s ≤ k ∧ k < off + s + (l.length + 1)
        · rw [if_pos (by omega), if_pos (by simpa using h3)]
          have : k - (off + s) = (k - (off + (s + 1))) + 1 := by omega
          rw [this]; simp
        · rw [if_neg (by omega), if_neg (by simpa using h3)]
  have hfold : (xs.zipIdx.foldl (fun cs (c, j) => cs.setIfInBounds (off + j) c) us) = ((xs.toList.zipIdx 0).foldl (fun cs (c, j) => cs.setIfInBounds (off + j) c) us) := by
    rw [← Array.foldl_toList, Array.toList_zipIdx]
  obtain ⟨h1, h2⟩ := key xs.toList 0 us (by have := hv.1; have := h.1; simp; omega)
  rw [hfold]
  have h3 : ∀ k : Nat, ((xs.toList.zipIdx 0).foldl (fun cs (c, j) => cs.setIfInBounds (off + j) c) us)[k]? = if off ≤ k ∧ k < off + xs.size then xs[k - off]? else us[k]? := by
    intro k
    rw [h2 k]; simp
  refine ⟨⟨by rw [h1, splice_length _ _ _ hle]; exact h.1, fun i v u hvi hui => ?_⟩, h1, h3⟩
  rw [h3 i] at hui
  rw [splice_get _ _ _ hle] at hvi
  have := hv.1
  by_cases hc : off ≤ i ∧ i < off + vs.length
  · rw [if_pos hc] at hvi
    rw [if_pos (by omega)] at hui
    exact hv.2 _ v u hvi hui
  · rw [if_neg hc] at hvi
    rw [if_neg (by omega)] at hui
    exact h.2 _ v u hvi hui
theorem fillA_rel {ι : Nm} {ro : Ros} {w : World} {place : Nat → Option (Nat × Nat)} : ∀ (parts : List (Nat × Nat × AVal)) (parts' : List (Nat × Value)) (cells : List AVal) (us : Array Value) (res : List AVal), VRels ι ro w cells us →
    parts.length = parts'.length → (∀ (i : Nat) p p', parts[i]? = some p → parts'[i]? = some p' → place p'.1 = some (p.1, p.2.1) ∧ VRel ι ro w p.2.2 p'.2) →
    fillA cells parts = some res → ∃ us', Instr.fill place us parts' = some us' ∧ VRels ι ro w res us'
  | [], parts', cells, us, res, h, hl, _, hf => by
    cases parts' with
    | nil => simp [fillA] at hf; subst hf; exact ⟨us, rfl, h⟩
    | cons p ps => simp at hl
  | (off, size, v) :: rest, parts', cells, us, res, h, hl, hp, hf => by
    cases parts' with
    | nil => simp at hl
    | cons p' ps =>
      obtain ⟨i, u⟩ := p'
      simp only [fillA] at hf
      split at hf
      · rename_i hh
        obtain ⟨hplace, hv⟩ := hp 0 _ _ rfl rfl
        simp only at hplace hv
        have hc : VRels ι ro w v.cells u.cells := cells_VRels hv hh.2.2
        obtain ⟨h1, h2, h3⟩ := fill_step h (off := off) hc (by omega)
        obtain ⟨us', hus, hr⟩ := fillA_rel rest ps _ _ res h1 (by simpa using hl) (fun k p p' hk hk' => hp (k + 1) p p' (by simpa using hk) (by simpa using hk')) hf
        refine ⟨us', ?_, hr⟩
        have hc1 := hc.1
        have hu1 := h.1
        simp only [Instr.fill, hplace]
        rw [if_neg (by simp; omega)]
        exact hus
      · cases hf
theorem fillRows_rel {ι : Nm} {ro : Ros} {w : World} {m : Nat} : ∀ (parts : List (Nat × AVal)) (parts' : List (Nat × Value)) (rows : List (List AVal)) (us : Array Value) (res : List (List AVal)),
    (∀ row ∈ rows, RowOk m row) → us.size = rows.length * m → (∀ j q v, cellAt rows j q = some v → ∃ u, us[j * m + q]? = some u ∧ VRel ι ro w v u) →
    parts.length = parts'.length → (∀ (i : Nat) p p', parts[i]? = some p → parts'[i]? = some p' → p'.1 = p.1 ∧ VRel ι ro w p.2 p'.2) →
    fillRows m rows parts = some res → ∃ us', Instr.fill (fun i => some (i * m, m)) us parts' = some us' ∧ (∀ row ∈ res, RowOk m row) ∧ us'.size = rows.length * m ∧ res.length = rows.length ∧
      ∀ j q v, cellAt res j q = some v → ∃ u, us'[j * m + q]? = some u ∧ VRel ι ro w v u
  | [], parts', rows, us, res, hm, hs, hc, hl, _, hf => by
    cases parts' with
    | nil => simp [fillRows] at hf; subst hf; exact ⟨us, rfl, hm, hs, rfl, hc⟩
    | cons p ps => simp at hl
  | (i, v) :: rest, parts', rows, us, res, hm, hs, hc, hl, hp, hf => by
    cases parts' with
    | nil => simp at hl
    | cons p' ps =>
      obtain ⟨i', u⟩ := p'
      simp only [fillRows] at hf
      split at hf
      · rename_i hh
        obtain ⟨hvl, hil, hone⟩ := hh
        obtain ⟨hi, hv⟩ := hp 0 _ _ rfl rfl
        simp only at hi hv
        subst hi
        have hcv := cells_VRels hv hone
        have hc1 := hcv.1
        have hbound : i' * m + m ≤ rows.length * m := by
          have : (i' + 1) * m ≤ rows.length * m := Nat.mul_le_mul_right _ hil
          rw [Nat.succ_mul] at this; exact this
        have key := fill_step (ι := ι) (ro := ro) (w := w) (cells := List.replicate us.size .junk) (us := us) ⟨by simp, fun i v u hv _ => by
          have := List.mem_of_getElem? hv; simp at this; rw [this.2]; exact .junk _⟩ (off := i' * m) hcv (by simp; omega)
        obtain ⟨_, k2, k3⟩ := key
        obtain ⟨us', hus, h1, h2, h3, h4⟩ := fillRows_rel rest ps (rows.set i' v.cells) _ res (by
            intro row hrow
            rcases List.mem_or_eq_of_mem_set hrow with h | h
            · exact hm row h
            · rw [h]; exact ⟨hvl, one_all hone⟩)
          (by rw [k2, hs]; simp)
          (by
            intro j q x hjq
            unfold cellAt at hjq
            by_cases hji : j = i'
            · subst hji
              rw [List.getElem?_set_self hil, Option.bind_some] at hjq
              have hq := (List.getElem?_eq_some_iff.1 hjq).1
              refine ⟨u.cells[q]'(by omega), ?_, hcv.2 q x _ hjq (Array.getElem?_eq_getElem (by omega))⟩
              rw [k3, if_pos (by omega)]
              have : j * m + q - j * m = q := by omega
              rw [this]; exact Array.getElem?_eq_getElem (by omega)
            · rw [List.getElem?_set_ne (Ne.symm hji)] at hjq
              obtain ⟨y, hy, hr⟩ := hc j q x hjq
              have hlt := cellAt_lt hm (show cellAt rows j q = some x from hjq)
              refine ⟨y, ?_, hr⟩
              rw [k3, if_neg, hy]
              rintro ⟨g1, g2⟩
              rcases Nat.lt_or_gt_of_ne hji with h | h
              · have : (j + 1) * m ≤ i' * m := Nat.mul_le_mul_right _ h
                rw [Nat.succ_mul] at this; omega
              · have : (i' + 1) * m ≤ j * m := Nat.mul_le_mul_right _ h
                rw [Nat.succ_mul] at this; omega)
          (by simpa using hl) (fun k p p' hk hk' => hp (k + 1) p p' (by simpa using hk) (by simpa using hk')) hf
        refine ⟨us', ?_, h1, by simpa using h2, by simpa using h3, h4⟩
        simp only [Instr.fill]
        rw [if_neg (by simp; omega)]
        exact hus
      · cases hf
theorem zeros_rel {ι : Nm} {ro : Ros} {w : World} {z : Value} {zs : List AVal} (h : cvCells z = some zs) (len : Nat) :
    ((Array.range (len * zs.length)).map (z.cells[· % z.cells.size]!)).size = len * zs.length ∧
    ∀ j q v, cellAt (List.replicate len zs) j q = some v → ∃ u, ((Array.range (len * zs.length)).map (z.cells[· % z.cells.size]!))[j * zs.length + q]? = some u ∧ VRel ι ro w v u := by
  obtain ⟨h1, h2⟩ := cvCells_rel (ι := ι) (ro := ro) (w := w) h
  refine ⟨by simp, fun j q v hv => ?_⟩
  unfold cellAt at hv
  rw [List.getElem?_replicate] at hv
  split at hv
  · rename_i hj
    simp only [Option.bind_some] at hv
    have hq := (List.getElem?_eq_some_iff.1 hv).1
    have hlt := mul_lt hj hq
    refine ⟨z.cells[q]'(by omega), ?_, h2 q v _ hv (Array.getElem?_eq_getElem (by omega))⟩
    rw [Array.getElem?_map, Array.getElem?_range, if_pos hlt, Option.map_some]
    have : (j * zs.length + q) % z.cells.size = q := by rw [h1, Nat.mul_comm, Nat.mul_add_mod]; exact Nat.mod_eq_of_lt hq
    rw [this]
    simp [show q < z.cells.size by omega]
  · simp at hv
end Go.Tc
namespace Go.Tc
set_option linter.unusedSimpArgs false
theorem toAK_val {l : KL} {v : AVal} {a : AK} (h : toAK l v = some a) {ι : Nm} {ro : Ros} {w : World} {u : Value} (hv : VRel ι ro w v u) : akVal l a = some u := by
  unfold toAK at h
  split at h
  · split at h
    · rename_i hk; subst hk; cases h; cases hv; rfl
    · cases h
  · cases h; cases hv; rfl
  · cases h; cases hv; rfl
  · cases h
theorem toAKs_val {ι : Nm} {ro : Ros} {w : World} : ∀ {ls : List KL} {vs : List AVal} {zs : List AK}, toAKs ls vs = some zs → ∀ {us : List Value}, us.length = vs.length → (∀ (i : Nat) v u, vs[i]? = some v → us[i]? = some u → VRel ι ro w v u) → akVals ls zs = some us
  | [], [], zs, h, us, hl, _ => by
    simp [toAKs] at h; subst h
    cases us with
    | nil => rfl
    | cons _ _ => simp at hl
  | l :: ls, v :: vs, zs, h, us, hl, hr => by
    simp only [toAKs, Option.bind_eq_some_iff, Option.map_eq_some_iff] at h
    obtain ⟨a, ha, as', has, rfl⟩ := h
    cases us with
    | nil => simp at hl
    | cons u us =>
      have h1 := toAK_val ha (hr 0 v u rfl rfl)
      have h2 := toAKs_val has (us := us) (by simpa using hl) (fun i x y hx hy => hr (i + 1) x y (by simpa using hx) (by simpa using hy))
      simp [akVals, h1, h2]
  | [], _ :: _, zs, h, _, _, _ => by simp [toAKs] at h
  | _ :: _, [], zs, h, _, _, _ => by simp [toAKs] at h
theorem toKey_val {K : KT} {v : AVal} {k : AKey} (h : toKey K v = some k) {ι : Nm} {ro : Ros} {w : World} {u : Value} (hv : VRel ι ro w v u) : keyVal K k = some u := by
  unfold toKey at h
  split at h
  · simp only [Option.map_eq_some_iff] at h
    obtain ⟨a, ha, rfl⟩ := h
    exact toAK_val ha hv
  · simp only [Option.map_eq_some_iff] at h
    obtain ⟨zs, ha, rfl⟩ := h
    cases hv with
    | @agg _ us hl hh =>
      have := toAKs_val ha (us := us.toList) (by simpa using hl) (fun i v u hv hu => hh i v u hv (by simpa using hu))
      simp [keyVal, this]
  · cases h
theorem bytes_beq (x y : ByteArray) : (x == y) = decide (x = y) := by
  obtain ⟨a⟩ := x
  obtain ⟨b⟩ := y
  show (a == b) = _
  by_cases h : a = b
  · subst h; simp
  · simp [h]
theorem akVal_same {l : KL} {td : TypeDesc} (hl : klOf td = some l) {a b : AK} {u u' : Value} (ha : akVal l a = some u) (hb : akVal l b = some u') : Instr.sameNow td u u' = some (decide (a = b)) := by
  unfold klOf at hl
  split at hl <;> cases hl <;> (cases a <;> simp [akVal] at ha) <;> (cases b <;> simp [akVal] at hb) <;> subst ha <;> subst hb
  · rename_i x y; simp [Instr.sameNow]; cases x <;> cases y <;> rfl
  · rename_i x y; simp only [Instr.sameNow, if_true, AK.int.injEq]; congr 1
  · rename_i x y
    simp only [Instr.sameNow, AK.str.injEq]
    congr 1
    exact bytes_beq x y
theorem akVal_equal {P : Program} {t : TypeId} {l : KL} {td : TypeDesc} (ht : P.underlying t = some td) (hl : klOf td = some l) {a b : AK} {u u' : Value} (ha : akVal l a = some u) (hb : akVal l b = some u') (d : Nat) (w : World) :
    (Op.equalIn (d + 1) t u u').run P w = .ok (decide (a = b)) w := by
  unfold klOf at hl
  split at hl <;> cases hl <;> (cases a <;> simp [akVal] at ha) <;> (cases b <;> simp [akVal] at hb) <;> subst ha <;> subst hb
  · rename_i x y; simp only [Op.equalIn, Sem.run_bind, run_und ht, Result.andThen_ok, Sem.run_pure, AK.bool.injEq]; cases x <;> cases y <;> rfl
  · rename_i x y; simp only [Op.equalIn, Sem.run_bind, run_und ht, Result.andThen_ok, if_true, Sem.run_pure, AK.int.injEq]; congr 1
  · rename_i x y
    simp only [Op.equalIn, Sem.run_bind, run_und ht, Result.andThen_ok, Sem.run_pure, AK.str.injEq]
    congr 1
    exact bytes_beq x y
inductive KtSpec (P : Program) (t : TypeId) : KT → Prop
  | one {td : TypeDesc} {l : KL} (ht : P.underlying t = some td) (hl : klOf td = some l) : KtSpec P t (.one l)
  | tup {fs : Array Field} {ls : List KL} (ht : P.underlying t = some (.struct fs)) (hs : P.stoodInHeld t = false) (hk : klsOf P 0 fs.toList = some ls) : KtSpec P t (.tup ls)
theorem ktOf_spec {P : Program} {t : TypeId} {K : KT} (h : ktOf P t = some K) : KtSpec P t K := by
  unfold ktOf at h
  split at h
  · rename_i fs hu
    split at h
    · cases h
    · rename_i hs
      simp only [Option.map_eq_some_iff] at h
      obtain ⟨ls, hk, rfl⟩ := h
      exact .tup hu (by simpa using hs) hk
  · rename_i td hn hu
    simp only [Option.map_eq_some_iff] at h
    obtain ⟨l, hl, rfl⟩ := h
    exact .one hu hl
  · cases h
theorem klsOf_cons {P : Program} {i : Nat} {f : Field} {fs : List Field} {ls : List KL} (h : klsOf P i (f :: fs) = some ls) :
    f.name ≠ "_" ∧ f.offset = i ∧ ∃ d l ls' t, P.underlying f.type = some d ∧ klOf d = some l ∧ P.info? f.type = some t ∧ t.size = 1 ∧ klsOf P (i + 1) fs = some ls' ∧ ls = l :: ls' := by
  simp only [klsOf] at h
  split at h
  · cases h
  · rename_i hn
    simp only [not_or] at hn
    simp only [Option.bind_eq_some_iff] at h
    obtain ⟨d, hd, l, hl, t, ht, h⟩ := h
    split at h
    · rename_i hs
      simp only [Option.map_eq_some_iff] at h
      obtain ⟨ls', h1, h2⟩ := h
      exact ⟨hn.1, by simpa using hn.2, d, l, ls', t, hd, hl, ht, hs, h1, h2.symm⟩
    · cases h
theorem run_part_one {P : Program} {t : TypeId} {d : TypeDesc} {l : KL} (hd : P.underlying t = some d) (hl : klOf d = some l) {us : Array Value} {off : Nat} {u : Value} (hu : us[off]? = some u) (w : World) : (part t us off).run P w = .ok u w := by
  have : isAggD d = false := by cases d <;> simp [klOf] at hl <;> rfl
  simp only [part, Sem.run_bind, run_isAgg hd, this, Result.andThen_ok, Bool.false_eq_true, if_false, hu, Sem.run_pure]
theorem eqFields_keys {P : Program} (d : Nat) (w : World) {xs ys : Array Value} : ∀ (fs : List Field) (i : Nat) (ls : List KL) (zs bs : List AK) (us us' : List Value), klsOf P i fs = some ls → akVals ls zs = some us → akVals ls bs = some us' →
    (∀ j u, us[j]? = some u → xs[i + j]? = some u) → (∀ j u, us'[j]? = some u → ys[i + j]? = some u) → (Op.eqFields (d + 1) xs ys fs).run P w = .ok (decide (zs = bs)) w
  | [], i, ls, zs, bs, us, us', h, ha, hb, _, _ => by
    simp [klsOf] at h; subst h
    cases zs <;> cases bs <;> simp [akVals] at ha hb
    simp [Op.eqFields]
  | f :: fs, i, ls, zs, bs, us, us', h, ha, hb, hx, hy => by
    obtain ⟨hn, ho, dd, l, ls', t, hd, hl, ht, hs, hk, rfl⟩ := klsOf_cons h
    cases zs with
    | nil => simp [akVals] at ha
    | cons a zs =>
      cases bs with
      | nil => simp [akVals] at hb
      | cons b bs =>
        simp only [akVals, Option.bind_eq_some_iff, Option.map_eq_some_iff] at ha hb
        obtain ⟨va, hva, vas, hvas, rfl⟩ := ha
        obtain ⟨vb, hvb, vbs, hvbs, rfl⟩ := hb
        have h1 := run_part_one hd hl (hx 0 va rfl) w
        have h2 := run_part_one hd hl (hy 0 vb rfl) w
        simp only [Nat.add_zero] at h1 h2
        have h3 := akVal_equal hd hl hva hvb d w
        have ih := eqFields_keys d w fs (i + 1) ls' zs bs vas vbs hk hvas hvbs (fun j u hj => by have := hx (j + 1) u (by simpa using hj); rwa [Nat.add_assoc, Nat.add_comm 1 j]) (fun j u hj => by have := hy (j + 1) u (by simpa using hj); rwa [Nat.add_assoc, Nat.add_comm 1 j])
        simp only [Op.eqFields, ne_eq, hn, not_false_eq_true, if_true, Sem.run_bind, ho, h1, h2, Result.andThen_ok, h3]
        by_cases hab : a = b
        · subst hab
          simp only [decide_true, Bool.not_true, Bool.false_eq_true, if_false, ih]
          simp
        · have : ¬ (a :: zs = b :: bs) := fun e => hab (by injection e)
          simp [hab, this]
theorem keyVal_equal {P : Program} {t : TypeId} {K : KT} (hK : KtSpec P t K) {a b : AKey} {u u' : Value} (ha : keyVal K a = some u) (hb : keyVal K b = some u') (d : Nat) (w : World) :
    (Op.equalIn (d + 2) t u u').run P w = .ok (decide (a = b)) w := by
  cases hK with
  | one ht hl =>
    cases a <;> simp [keyVal] at ha
    cases b <;> simp [keyVal] at hb
    rw [akVal_equal ht hl ha hb (d + 1) w]; simp
  | @tup fs ls ht hs hk =>
    cases a <;> simp [keyVal] at ha
    cases b <;> simp [keyVal] at hb
    obtain ⟨us, hus, rfl⟩ := ha
    obtain ⟨us', hus', rfl⟩ := hb
    have hfo : P.fieldsOf t = fs := by simp [Program.fieldsOf, ht]
    rw [run_equalIn_agg w (d + 1) t _ _ (by rw [hfo]; exact ht) hs, hfo]
    rw [eqFields_keys d w fs.toList 0 ls _ _ us us' hk hus hus' (by simp) (by simp)]
    simp
def placeOf (k : AKey) : List (AKey × AVal) → Nat → Option Nat
  | [], _ => none
  | e :: es, i => if k = e.1 then some i else placeOf k es (i + 1)
theorem placeOf_spec (k : AKey) : ∀ (ks : List (AKey × AVal)) (i : Nat), (∃ j v, placeOf k ks i = some (i + j) ∧ ks[j]? = some (k, v) ∧ ks.lookup k = some v) ∨ (placeOf k ks i = none ∧ ks.lookup k = none ∧ k ∉ ks.map (·.1))
  | [], i => .inr ⟨rfl, rfl, by simp⟩
  | e :: ks, i => by
    obtain ⟨a, v⟩ := e
    by_cases h : k = a
    · subst h
      exact .inl ⟨0, v, by simp [placeOf], rfl, by simp⟩
    · rcases placeOf_spec k ks (i + 1) with ⟨j, v', h1, h2, h3⟩ | ⟨h1, h2, h3⟩
      · exact .inl ⟨j + 1, v', by simp only [placeOf, if_neg h, h1]; congr 1; omega, by simpa using h2, by simp [List.lookup, show (k == a) = false by simpa using h, h3]⟩
      · exact .inr ⟨by simp only [placeOf, if_neg h, h1], by simp [List.lookup, show (k == a) = false by simpa using h, h2], by simp [h]; simpa using h3⟩
structure Entries (ι : Nm) (ro : Ros) (w : World) (K : KT) (ks : List (AKey × AVal)) (es : List MapEntry) : Prop where
  len : es.length = ks.length
  rel : ∀ (i : Nat) (e : AKey × AVal) (e' : MapEntry), ks[i]? = some e → es[i]? = some e' → keyVal K e.1 = some e'.key ∧ VRel ι ro w e.2 e'.val
theorem Entries.tail {ι : Nm} {ro : Ros} {w : World} {K : KT} {e : AKey × AVal} {ks : List (AKey × AVal)} {e' : MapEntry} {es : List MapEntry} (h : Entries ι ro w K (e :: ks) (e' :: es)) :
    (keyVal K e.1 = some e'.key ∧ VRel ι ro w e.2 e'.val) ∧ Entries ι ro w K ks es :=
  ⟨h.rel 0 e e' rfl rfl, ⟨by simpa using h.len, fun i x x' hx hx' => h.rel (i + 1) x x' (by simpa using hx) (by simpa using hx')⟩⟩
theorem findAsking_key {P : Program} {t : TypeId} {K : KT} (hK : KtSpec P t K) {ι : Nm} {ro : Ros} {w : World} {k : AKey} {u : Value} (hk : keyVal K k = some u) :
    ∀ (ks : List (AKey × AVal)) (es : List MapEntry) (i : Nat), Entries ι ro w K ks es →
      (Instr.findAsking t u es i).run P w = .ok ((placeOf k ks i).bind fun j => (es[j - i]?).map fun e => (j, e.val)) w
  | [], es, i, h => by
    cases es with
    | nil => rfl
    | cons _ _ => have := h.len; simp at this
  | e :: ks, es, i, h => by
    cases es with
    | nil => have := h.len; simp at this
    | cons e' es =>
      obtain ⟨⟨h1, _⟩, ht⟩ := h.tail
      have he := keyVal_equal hK hk h1 9998 w
      have ih := findAsking_key hK hk ks es (i + 1) ht
      simp only [Instr.findAsking, Op.equal, Sem.run_bind]
      rw [show Op.maxDepth = 9998 + 2 from rfl, he]
      simp only [Result.andThen_ok, placeOf]
      by_cases hkk : k = e.1
      · simp [hkk]
      · simp only [hkk, decide_false, Bool.false_eq_true, if_false, ih]
        congr 1
        rcases placeOf_spec k ks (i + 1) with ⟨j, v, hp, _, _⟩ | ⟨hp, _, _⟩
        · rw [hp]; simp only [Option.bind_some]
          have : i + 1 + j - i = (i + 1 + j - (i + 1)) + 1 := by omega
          rw [this, List.getElem?_cons_succ]
        · rw [hp]; rfl
theorem findNow_key {P : Program} {t : TypeId} {td : TypeDesc} {l : KL} (hl : klOf td = some l) {ι : Nm} {ro : Ros} {w : World} {a : AK} {u : Value} (hk : akVal l a = some u) :
    ∀ (ks : List (AKey × AVal)) (es : List MapEntry) (i : Nat), Entries ι ro w (.one l) ks es →
      Instr.findNow td u es i = some ((placeOf (.one a) ks i).bind fun j => (es[j - i]?).map fun e => (j, e.val))
  | [], es, i, h => by
    cases es with
    | nil => rfl
    | cons _ _ => have := h.len; simp at this
  | e :: ks, es, i, h => by
    cases es with
    | nil => have := h.len; simp at this
    | cons e' es =>
      obtain ⟨⟨h1, _⟩, ht⟩ := h.tail
      obtain ⟨k, v⟩ := e
      cases k with
      | tup zs => simp [keyVal] at h1
      | one b =>
        have he := akVal_same hl hk h1
        have ih := findNow_key (P := P) (t := t) hl hk ks es (i + 1) ht
        simp only [Instr.findNow, he, placeOf, AKey.one.injEq]
        by_cases hkk : a = b
        · simp [hkk]
        · simp only [hkk, decide_false, if_false, ih]
          congr 1
          rcases placeOf_spec (.one a) ks (i + 1) with ⟨j, v, hp, _, _⟩ | ⟨hp, _, _⟩
          · rw [hp]; simp only [Option.bind_some]
            have : i + 1 + j - i = (i + 1 + j - (i + 1)) + 1 := by omega
            rw [this, List.getElem?_cons_succ]
          · rw [hp]; rfl
theorem findKey_key {P : Program} {t : TypeId} {K : KT} (hK : KtSpec P t K) {ι : Nm} {ro : Ros} {w : World} {k : AKey} {u : Value} (hk : keyVal K k = some u) {ks : List (AKey × AVal)} {es : List MapEntry} (h : Entries ι ro w K ks es) :
    (Instr.findKey t u es).run P w = .ok ((placeOf k ks 0).bind fun j => (es[j]?).map fun e => (j, e.val)) w := by
  have hask := findAsking_key hK hk ks es 0 h
  cases hK with
  | one ht hl =>
    cases k with
    | tup _ => simp [keyVal] at hk
    | one a =>
      have := findNow_key (P := P) (t := t) hl hk ks es 0 h
      simp only [Instr.findKey, Sem.run_bind, run_und ht, Result.andThen_ok, this, Sem.run_pure, Nat.sub_zero]
  | tup ht hs hkk =>
    cases es with
    | nil =>
      cases ks with
      | nil => simp [Instr.findKey, run_und ht, Instr.findNow, placeOf]
      | cons _ _ => have := h.len; simp at this
    | cons e' es =>
      have : Instr.findNow (.struct ‹Array Field›) u (e' :: es) 0 = none := by simp [Instr.findNow, Instr.sameNow]
      simp only [Instr.findKey, Sem.run_bind, run_und ht, Result.andThen_ok, this, hask, Nat.sub_zero]
theorem checkKey_key {P : Program} {t : TypeId} {K : KT} (hK : KtSpec P t K) {k : AKey} {u : Value} (hk : keyVal K k = some u) (empty : Bool) (w : World) : (Instr.checkKey empty 10000 t u).run P w = .ok () w := by
  have leaf : ∀ (n : Nat) (t : TypeId) (td : TypeDesc) (l : KL) (x : Value), P.underlying t = some td → klOf td = some l → (Instr.checkKey empty (n + 1) t x).run P w = .ok () w := by
    intro n t td l x ht hl
    unfold Instr.checkKey
    cases td <;> simp [klOf] at hl <;> simp [run_und ht]
  cases hK with
  | one ht hl => exact leaf 9999 t _ _ u ht hl
  | @tup fs ls ht hs hkk =>
    cases k with
    | one _ => simp [keyVal] at hk
    | tup zs =>
      simp only [keyVal, Option.map_eq_some_iff] at hk
      obtain ⟨us, hus, rfl⟩ := hk
      have key : ∀ (fl : List Field) (i : Nat) (ls : List KL) (zs : List AK) (vs : List Value), klsOf P i fl = some ls → akVals ls zs = some vs → (∀ j v, vs[j]? = some v → us[i + j]? = some v) →
          (forIn fl PUnit.unit fun f _ => (do
            if f.name ≠ "_" then Instr.checkKey empty 9999 f.type (← part f.type us.toArray f.offset)
            pure (ForInStep.yield PUnit.unit) : Sem (ForInStep PUnit))).run P w = .ok PUnit.unit w := by
        intro fl
        induction fl with
        | nil => intro i ls zs vs _ _ _; rfl
        | cons f fl ih =>
          intro i ls zs vs h ha hx
          obtain ⟨hn, ho, dd, l, ls', t', hd, hl, _, _, hk', rfl⟩ := klsOf_cons h
          cases zs with
          | nil => simp [akVals] at ha
          | cons a zs =>
            simp only [akVals, Option.bind_eq_some_iff, Option.map_eq_some_iff] at ha
            obtain ⟨va, hva, vas, hvas, rfl⟩ := ha
            have h1 := run_part_one hd hl (us := us.toArray) (off := i) (u := va) (by simpa using hx 0 va rfl) w
            have h2 := leaf 9998 f.type dd l va hd hl
            rw [List.forIn_cons]
            simp only [Sem.run_bind, ne_eq, hn, not_false_eq_true, if_true, ho, h1, Result.andThen_ok, h2, Sem.run_pure]
            exact ih (i + 1) ls' zs vas hk' hvas (fun j v hj => by have := hx (j + 1) v (by simpa using hj); rwa [Nat.add_assoc, Nat.add_comm 1 j])
      have := key fs.toList 0 ls zs us hkk hus (fun j v hj => by simpa using hj)
      unfold Instr.checkKey
      simp only [Sem.run_bind, run_und ht, Result.andThen_ok]
      rw [← Array.forIn_toList]
      rw [this]
      simp
theorem sameBits_ak {l : KL} {a : AK} {u : Value} (h : akVal l a = some u) (n : Nat) : Instr.sameBits n u u = true := by
  cases l <;> cases a <;> simp [akVal] at h <;> subst h <;> cases n <;> simp [Instr.sameBits, bytes_beq]
theorem sameBits_key {K : KT} {k : AKey} {u : Value} (h : keyVal K k = some u) : Instr.sameBits 10000 u u = true := by
  cases K with
  | one l => cases k with
    | one a => exact sameBits_ak h _
    | tup _ => simp [keyVal] at h
  | tup ls => cases k with
    | one _ => simp [keyVal] at h
    | tup zs =>
      simp only [keyVal, Option.map_eq_some_iff] at h
      obtain ⟨us, hus, rfl⟩ := h
      have key : ∀ (ls : List KL) (zs : List AK) (us : List Value), akVals ls zs = some us → ((us.zip us).all fun (x, y) => Instr.sameBits 9999 x y) = true := by
        intro ls
        induction ls with
        | nil => intro zs us h; cases zs <;> simp [akVals] at h; subst h; rfl
        | cons l ls ih =>
          intro zs us h
          cases zs with
          | nil => simp [akVals] at h
          | cons a zs =>
            simp only [akVals, Option.bind_eq_some_iff, Option.map_eq_some_iff] at h
            obtain ⟨va, hva, vas, hvas, rfl⟩ := h
            simp only [List.zip_cons_cons, List.all_cons, sameBits_ak hva, Bool.true_and]
            exact ih zs vas hvas
      have := key ls zs us hus
      simp only [Instr.sameBits, beq_self_eq_true, Bool.true_and]
      exact this
end Go.Tc
namespace Go.Tc
set_option linter.unusedSimpArgs false
theorem good_of {P : Program} {s : Sem Value} {ι : Nm} {ro : Ros} {σ : AHeap} {w : World} {v : AVal} (R : Rel ι ro σ w) (h : ∃ u, s.run P w = .ok u w ∧ VRel ι ro w v u) :
    Good P (do pure (.value (← s))) ι ro σ w v σ := by
  obtain ⟨u, hu, hv⟩ := h
  exact Good.still R (by simp [hu]) hv
theorem good_turn {P : Program} {s : Sem Value} {ι : Nm} {ro : Ros} {σ σ' : AHeap} {w : World} {v : AVal} (h : ∃ ι' ro' w' u, s.run P w = .ok u w' ∧ Later ι ro σ w ι' ro' σ' w' ∧ Rel ι' ro' σ' w' ∧ VRel ι' ro' w' v u) :
    Good P (do pure (.value (← s))) ι ro σ w v σ' := by
  obtain ⟨ι', ro', w', u, hu, h1, h2, h3⟩ := h
  exact ⟨ι', ro', w', u, .inl (by simp [hu]), h1, h2, h3⟩
theorem good_skip {P : Program} {s : Sem Unit} {ι : Nm} {ro : Ros} {σ σ' : AHeap} {w : World} (h : ∃ ι' ro' w', s.run P w = .ok () w' ∧ Later ι ro σ w ι' ro' σ' w' ∧ Rel ι' ro' σ' w') :
    Good P (do s; pure .skip) ι ro σ w (.tup []) σ' := by
  obtain ⟨ι', ro', w', hu, h1, h2⟩ := h
  exact ⟨ι', ro', w', undef, .inr ⟨by simp [hu], rfl⟩, h1, h2, .tup rfl (by simp)⟩
theorem map_range_zero (f : Nat → Value) : (Array.range 0).map f = #[] := by
  apply Array.ext <;> simp
section
variable {P : Program} {ι : Nm} {ro : Ros} {σ σ' : AHeap} {w : World} {v : AVal}
theorem alloc_rel (R : Rel ι ro σ w) {t : TypeId} {ty : Ty} (ht : tyOf P t = some ty) :
    ∃ ι' ro' w' u, (Instr.alloc t true (.tuple #[])).run P w = .ok u w' ∧ Later ι ro σ w ι' ro' (σ.alloc (.cells ty.z.length [ty.z])) w' ∧ Rel ι' ro' (σ.alloc (.cells ty.z.length [ty.z])) w' ∧ VRel ι' ro' w' (.ptr σ.next 0 0) u := by
  obtain ⟨i, d, z, hi, hd, hz, hcv, _, _, hone, _⟩ := tyOf_spec ht
  obtain ⟨h1, h2⟩ := cvCells_rel (ι := ι) (ro := ro) (w := w) hcv
  obtain ⟨ι', ro', w', a, hr, hL, hR, hV⟩ := newVar_rel (P := P) R t h1 (one_all hone) h2
  exact ⟨ι', ro', w', _, by simp [Instr.alloc, run_zero hi hz, hr], hL, hR, hV⟩
theorem box_rel (R : Rel ι ro σ w) (t : TypeId) {x : AVal} {u : Value} (hx : VRel ι ro w x u) (hone : x.cells.all AVal.one = true) :
    ∃ ι' ro' w' r, (Instr.box t u).run P w = .ok r w' ∧ Later ι ro σ w ι' ro' (σ.alloc (.cells x.cells.length [x.cells])) w' ∧ Rel ι' ro' (σ.alloc (.cells x.cells.length [x.cells])) w' ∧ VRel ι' ro' w' (.ptr σ.next 0 0) r := by
  have hc := cells_VRels hx hone
  obtain ⟨ι', ro', w', a, hr, hL, hR, hV⟩ := newVar_rel (P := P) R t hc.1 (one_all hone) hc.2
  exact ⟨ι', ro', w', _, by simp [Instr.box, hr], hL, hR, hV⟩
theorem cParts_rel {n : Nat} {env : AEnv} {a : Act} (hn : env.n = n) (E : EnvRel ι ro w env a) {place : Nat → Option (Nat × Nat)} : ∀ {parts : List (Nat × Operand)} {ps : List (Nat × Nat × Opnd)}, cParts P n place parts = some ps →
    (ps.map fun p => (p.1, p.2.1, env.ev p.2.2)).length = (parts.map fun p => (p.1, a.eval p.2)).length ∧
    ∀ (i : Nat) p p', (ps.map fun p => (p.1, p.2.1, env.ev p.2.2))[i]? = some p → (parts.map fun p => (p.1, a.eval p.2))[i]? = some p' → place p'.1 = some (p.1, p.2.1) ∧ VRel ι ro w p.2.2 p'.2 := by
  intro parts
  induction parts with
  | nil => intro ps h; simp [cParts] at h; subst h; simp
  | cons x xs ih =>
    intro ps h
    obtain ⟨k, x⟩ := x
    simp only [cParts, Option.bind_eq_some_iff, Option.map_eq_some_iff] at h
    obtain ⟨pl, hpl, y, hy, ps', hps, rfl⟩ := h
    obtain ⟨h1, h2⟩ := ih hps
    refine ⟨by simpa using h1, fun i p p' hp hp' => ?_⟩
    cases i with
    | zero =>
      simp at hp hp'
      subst hp; subst hp'
      exact ⟨hpl, eval_rel E (by rw [hn]; exact hy)⟩
    | succ i => simp at hp hp'; exact h2 i p p' (by simpa using hp) (by simpa using hp')
theorem cPartsI_rel {n : Nat} {env : AEnv} {a : Act} (hn : env.n = n) (E : EnvRel ι ro w env a) : ∀ {parts : List (Nat × Operand)} {ps : List (Nat × Opnd)}, cPartsI n parts = some ps →
    (ps.map fun p => (p.1, env.ev p.2)).length = (parts.map fun p => (p.1, a.eval p.2)).length ∧
    ∀ (i : Nat) p p', (ps.map fun p => (p.1, env.ev p.2))[i]? = some p → (parts.map fun p => (p.1, a.eval p.2))[i]? = some p' → p'.1 = p.1 ∧ VRel ι ro w p.2 p'.2 := by
  intro parts
  induction parts with
  | nil => intro ps h; simp [cPartsI] at h; subst h; simp
  | cons x xs ih =>
    intro ps h
    obtain ⟨k, x⟩ := x
    simp only [cPartsI, Option.bind_eq_some_iff, Option.map_eq_some_iff] at h
    obtain ⟨y, hy, ps', hps, rfl⟩ := h
    obtain ⟨h1, h2⟩ := ih hps
    refine ⟨by simpa using h1, fun i p p' hp hp' => ?_⟩
    cases i with
    | zero =>
      simp at hp hp'
      subst hp; subst hp'
      exact ⟨rfl, eval_rel E (by rw [hn]; exact hy)⟩
    | succ i => simp at hp hp'; exact h2 i p p' (by simpa using hp) (by simpa using hp')
theorem build_rel (t : TypeId) {ty : Ty} (ht : tyOf P t = some ty) {parts : List (Nat × Nat × AVal)} {parts' : Array (Nat × Value)} {res : List AVal} (place : Nat → Option (Nat × Nat))
    (hplace : (∃ fs, P.underlying t = some (.struct fs) ∧ place = fun i => (fs[i]?).bind fun f => (P.info? f.type).map fun k => (f.offset, k.size)) ∨ (∃ k e i, P.underlying t = some (.array k e) ∧ P.info? e = some i ∧ place = fun j => some (j * i.size, i.size)))
    (hstruct : ∀ fs, P.underlying t = some (.struct fs) → ∀ f ∈ fs.toList, ∃ i, P.info? f.type = some i)
    (hl : parts.length = parts'.toList.length) (hp : ∀ (i : Nat) p p', parts[i]? = some p → parts'.toList[i]? = some p' → place p'.1 = some (p.1, p.2.1) ∧ VRel ι ro w p.2.2 p'.2)
    (h : fillA ty.z parts = some res) : ∃ u, (Instr.build t parts').run P w = .ok u w ∧ VRel ι ro w (.agg res) u := by
  obtain ⟨i, d, z, hi, hd, hz, hcv, _, _, hone, _⟩ := tyOf_spec ht
  have hzr := cvCells_rel (ι := ι) (ro := ro) (w := w) hcv
  rcases hplace with ⟨fs, hu, rfl⟩ | ⟨k, e, ie, hu, hie, rfl⟩
  · have hm : (fs.mapM fun f => do pure (f.offset, ← sizeOf f.type) : Sem (Array (Nat × Nat))).run P w = .ok (fs.map fun f => (f.offset, ((P.info? f.type).map (·.size)).getD 0)) w := by
      have : ∀ (l : List Field), (∀ f ∈ l, ∃ i, P.info? f.type = some i) → (l.mapM fun f => do pure (f.offset, ← sizeOf f.type) : Sem (List (Nat × Nat))).run P w = .ok (l.map fun f => (f.offset, ((P.info? f.type).map (·.size)).getD 0)) w := by
        intro l hl
        induction l with
        | nil => rfl
        | cons f l ih =>
          obtain ⟨fi, hfi⟩ := hl f (by simp)
          simp only [List.mapM_cons, Sem.run_bind, run_sizeOf hfi, Result.andThen_ok, Sem.run_pure, ih (fun f hf => hl f (by simp [hf])), List.map_cons, hfi, Option.map_some, Option.getD_some]
      rw [Array.mapM_eq_mapM_toList, Sem.run_map, this fs.toList (hstruct fs hu)]
      simp only [Result.andThen_ok]
      congr 1
      apply Array.ext'
      simp
    have hpl : ∀ (j : Nat) (p : Nat × Nat), ((fs[j]?).bind fun f : Field => (P.info? f.type).map fun k => (f.offset, k.size)) = some p → (fs.map fun f : Field => (f.offset, ((P.info? f.type).map (·.size)).getD 0))[j]? = some p := by
      intro j p hj
      simp only [Option.bind_eq_some_iff, Option.map_eq_some_iff] at hj
      obtain ⟨f, hf, k, hk, rfl⟩ := hj
      simp [Array.getElem?_map, hf, hk]
    obtain ⟨us, hus, hr⟩ := fillA_rel (place := fun j => (fs.map fun f : Field => (f.offset, ((P.info? f.type).map (·.size)).getD 0))[j]?) parts parts'.toList ty.z z.cells res hzr hl
      (fun i p p' h1 h2 => ⟨hpl _ _ (hp i p p' h1 h2).1, (hp i p p' h1 h2).2⟩) h
    exact ⟨.agg us, by simp only [Instr.build, Sem.run_bind, run_zero hi hz, Result.andThen_ok, run_und hu, hm, hus, Sem.run_pure], .agg hr.1 hr.2⟩
  · obtain ⟨us, hus, hr⟩ := fillA_rel (place := fun j => some (j * ie.size, ie.size)) parts parts'.toList ty.z z.cells res hzr hl hp h
    exact ⟨.agg us, by simp [Instr.build, run_zero hi hz, run_und hu, run_sizeOf hie, hus], .agg hr.1 hr.2⟩
theorem buildS_rel (R : Rel ι ro σ w) {t e : TypeId} {ty : Ty} (hu : P.underlying t = some (.slice e)) (ht : tyOf P e = some ty) {len : Nat} (hle : len * ty.n ≤ 16777216) {parts : List (Nat × AVal)} {parts' : Array (Nat × Value)} {rows : List (List AVal)}
    (hl : parts.length = parts'.toList.length) (hp : ∀ (i : Nat) p p', parts[i]? = some p → parts'.toList[i]? = some p' → p'.1 = p.1 ∧ VRel ι ro w p.2 p'.2)
    (h : fillRows ty.n (List.replicate len ty.z) parts = some rows) :
    ∃ ι' ro' w' u, (Instr.buildSlice t len parts').run P w = .ok u w' ∧ Later ι ro σ w ι' ro' (σ.alloc (.cells ty.n rows)) w' ∧ Rel ι' ro' (σ.alloc (.cells ty.n rows)) w' ∧ VRel ι' ro' w' (.ms ty.n σ.next 0 len true) u := by
  obtain ⟨i, d, z, hi, hd, hz, hcv, hzl, hpos, hone, hsz, _⟩ := tyOf_spec ht
  obtain ⟨z1, z2⟩ := zeros_rel (ι := ι) (ro := ro) (w := w) hcv len
  rw [hzl] at z1 z2
  obtain ⟨us, hus, h1, h2, h3, h4⟩ := fillRows_rel parts parts'.toList (List.replicate len ty.z) ((Array.range (len * ty.n)).map (z.cells[· % z.cells.size]!)) rows
    (by intro row hr; simp at hr; rw [hr.2]; exact ⟨hzl, one_all hone⟩) (by rw [z1]; simp) z2 hl hp h
  obtain ⟨hR, hL⟩ := alloc_cells R ty.n rows us e h1 (by rw [h3, h2]; exact Nat.le_refl _) h4
  refine ⟨_, _, _, .slice (some ⟨w.heap.size, 0, none⟩) len len, ?_, hL, hR, .ms (upd_same _ _ _) (Nat.le_refl _) (fun _ => rfl) (.inr ⟨by simp, by rw [h2]; simp⟩)⟩
  have hbig : ¬ (16777216 < len * ty.n) := by omega
  simp only [Instr.buildSlice, Sem.run_bind, run_und hu, Result.andThen_ok, run_sizeOf hi, hsz]
  rw [if_neg (by simpa using hbig)]
  by_cases h0 : len * ty.n = 0
  · have e0 : ∀ f : Nat → Value, (Array.range (len * ty.n)).map f = #[] := fun f => by rw [h0]; exact map_range_zero f
    rw [e0] at hus
    rw [if_pos h0]
    simp only [Sem.run_bind, Sem.run_pure, Result.andThen_ok, e0, hus]
    simp [newRow]
  · rw [if_neg h0]
    simp only [Sem.run_bind, Sem.run_pure, Result.andThen_ok, run_zero hi hz, hus]
    simp [newRow]
theorem makeS_rel (R : Rel ι ro σ w) {t e : TypeId} {ty : Ty} (hu : P.underlying t = some (.slice e)) (ht : tyOf P e = some ty) {k k' : IntKind} {l c : Int} (hl : 0 ≤ l) (hlc : l ≤ c) (hb : c * ty.bytes ≤ 70368744177664) (hc : c ≤ 70368744177664) :
    ∃ ι' ro' w' u, (Instr.makeSlice t (.int k l) (.int k' c)).run P w = .ok u w' ∧ Later ι ro σ w ι' ro' (σ.alloc (.cells ty.z.length (List.replicate l.toNat ty.z))) w' ∧
      Rel ι' ro' (σ.alloc (.cells ty.z.length (List.replicate l.toNat ty.z))) w' ∧ VRel ι' ro' w' (.ms ty.z.length σ.next 0 l.toNat (l == c)) u := by
  obtain ⟨i, d, z, hi, hd, hz, hcv, hzl, hpos, hone, hsz, hby, _⟩ := tyOf_spec ht
  obtain ⟨z1, z2⟩ := zeros_rel (ι := ι) (ro := ro) (w := w) hcv c.toNat
  obtain ⟨hR, hL⟩ := alloc_cells R ty.z.length (List.replicate l.toNat ty.z) ((Array.range (c.toNat * ty.z.length)).map (z.cells[· % z.cells.size]!)) e
    (by intro row hr; simp at hr; rw [hr.2]; exact ⟨rfl, one_all hone⟩) (by rw [z1]; simp; exact Nat.mul_le_mul_right _ (by omega))
    (fun j q v hv => z2 j q v (by
      unfold cellAt at hv ⊢
      rw [List.getElem?_replicate] at hv ⊢
      split at hv
      · rw [if_pos (by omega)]; exact hv
      · simp at hv))
  refine ⟨_, _, _, .slice (some ⟨w.heap.size, 0, none⟩) l.toNat c.toNat, ?_, hL, hR, .ms (upd_same _ _ _) (by omega) (by simp; intro h; rw [h]) (.inr ⟨by simp, by rw [z1]; simp⟩)⟩
  have wl : IntKind.i64.wrap l = l := IntWalk.i64_in _ (by omega)
  have wc : IntKind.i64.wrap c = c := IntWalk.i64_in _ (by omega)
  have h0 : ¬ (c < 0) := by omega
  have h1 : ¬ ((ty.bytes : Int) * c > 2 ^ 48) := by rw [Int.mul_comm]; omega
  have h2 : ¬ (l < 0) := by omega
  have h3 : ¬ (l > c) := by omega
  simp only [Instr.makeSlice, Sem.run_bind, run_und hu, Result.andThen_ok, asInt, asIntOf, Sem.run_pure, run_info hi, hby, wl, wc]
  rw [if_neg (by simp only [Bool.or_eq_true, decide_eq_true_eq]; omega)]
  simp only [Sem.run_bind, Sem.run_pure, Result.andThen_ok, run_askRoom, run_sizeOf hi, hsz, hzl]
  by_cases h0 : c.toNat * ty.n = 0
  · have e0 : ∀ f : Nat → Value, (Array.range (c.toNat * ty.n)).map f = #[] := fun f => by rw [h0]; exact map_range_zero f
    rw [if_pos h0]
    simp only [Sem.run_bind, Sem.run_pure, Result.andThen_ok, e0]
    simp [newRow]
  · rw [if_neg h0]
    simp only [Sem.run_bind, Sem.run_pure, Result.andThen_ok, run_zero hi hz]
    simp [newRow]
end
end Go.Tc
namespace Go.Tc
set_option linter.unusedSimpArgs false
section
variable {P : Program} {ι : Nm} {ro : Ros} {σ σ' : AHeap} {w : World} {v : AVal}
theorem addrOf_rel {x : AVal} {u : Value} (hx : VRel ι ro w x u) {off : Nat} (h : addrOf off x = some v) : ∃ a, u = .pointer (some a) ∧ VRel ι ro w v (.pointer (some (a.add off))) := by
  cases hx <;> simp only [addrOf] at h <;> (try (cases h; done))
  · cases h
    refine ⟨_, rfl, ?_⟩
    rw [addr_add, Nat.add_assoc]
    exact .ptr _ _ ‹_›
  · cases h
    refine ⟨_, rfl, ?_⟩
    rw [addr_add, Nat.add_assoc]
    exact .rptr _ _ _ _ _ ‹_› ‹_› ‹_›
theorem fa_rel {t : TypeId} {f : Nat} {fd : Field} (hf : fieldOf P t f = some fd) {ty : Ty} (ht : tyOf P fd.type = some ty) {x : AVal} {u : Value} (hx : VRel ι ro w x u) (h : addrOf fd.offset x = some v) :
    ∃ r, (Instr.fieldAt t u f).run P w = .ok r w ∧ VRel ι ro w v r := by
  obtain ⟨a, rfl, hr⟩ := addrOf_rel hx h
  obtain ⟨i, d, z, hi, hd, hz, hcv, hzl, hpos, hone, hsz, _⟩ := tyOf_spec ht
  unfold fieldOf at hf
  split at hf
  · rename_i fs hu
    refine ⟨_, ?_, hr⟩
    simp only [Instr.fieldAt, Sem.run_bind, run_und hu, Result.andThen_ok, hf, Instr.sureAddr, Sem.run_pure, fieldPlace, run_sizeOf hi, hsz]
    rw [if_neg (by omega)]
    rfl
  · cases hf
theorem fld_rel {t : TypeId} {f : Nat} {fd : Field} (hf : fieldOf P t f = some fd) {ty : Ty} (ht : tyOf P fd.type = some ty) {cs : List AVal} {u : Value} (hx : VRel ι ro w (.agg cs) u) (h : partA ty.agg ty.n fd.offset cs = some v) :
    ∃ r, (Instr.field t u f).run P w = .ok r w ∧ VRel ι ro w v r := by
  cases hx with
  | agg hl hh =>
    unfold fieldOf at hf
    split at hf
    · rename_i fs hu
      obtain ⟨x, hx, hr⟩ := part_rel ht hl hh h
      exact ⟨x, by simp only [Instr.field, Sem.run_bind, run_und hu, Result.andThen_ok, hf, asAgg, Sem.run_pure, hx], hr⟩
    · cases hf
theorem idx_spec {i : Int} {len j : Nat} (h : idx i len = some j) : 0 ≤ i ∧ i < len ∧ j = i.toNat := by
  unfold idx at h
  split at h
  · cases h; exact ⟨‹_ ∧ _›.1, ‹_ ∧ _›.2, rfl⟩
  · cases h
theorem ixA_rel {t e : TypeId} {len : Nat} (hu : P.underlying t = some (.array len e)) {ty : Ty} (ht : tyOf P e = some ty) {x : AVal} {u : Value} (hx : VRel ι ro w x u) {k : IntKind} {i : Int} {j : Nat} (hj : idx i len = some j)
    (h : addrOf (j * ty.n) x = some v) : ∃ r, (Instr.indexAt t u (.int k i)).run P w = .ok r w ∧ VRel ι ro w v r := by
  obtain ⟨a, rfl, hr⟩ := addrOf_rel hx h
  obtain ⟨ti, d, z, hi, _, _, _, _, _, _, hsz, _⟩ := tyOf_spec ht
  obtain ⟨h1, h2, rfl⟩ := idx_spec hj
  refine ⟨_, ?_, hr⟩
  simp [Instr.indexAt, asIntOf, run_und hu, Instr.sureAddr, h1, h2, run_sizeOf hi, hsz]
theorem ixS_run {t e : TypeId} (hu : P.underlying t = some (.slice e)) {ty : Ty} (ht : tyOf P e = some ty) {a : Addr} {len cap : Nat} {k : IntKind} {i : Int} (h1 : 0 ≤ i) (h2 : i < len) :
    (Instr.indexAt t (.slice (some a) len cap) (.int k i)).run P w = .ok (.pointer (some (a.add (i.toNat * ty.n)))) w := by
  obtain ⟨ti, d, z, hi, _, _, _, _, _, _, hsz, _⟩ := tyOf_spec ht
  simp [Instr.indexAt, asIntOf, run_und hu, h1, h2, run_sizeOf hi, hsz]
theorem ixS_rel {t e : TypeId} (hu : P.underlying t = some (.slice e)) {ty : Ty} (ht : tyOf P e = some ty) {x : AVal} {u : Value} (hx : VRel ι ro w x u) {k : IntKind} {i : Int}
    (h : ixSA ty.n x i = some v) : ∃ r, (Instr.indexAt t u (.int k i)).run P w = .ok r w ∧ VRel ι ro w v r := by
  unfold ixSA at h
  split at h
  case h_5 => cases h
  all_goals
    split at h
    case isFalse => cases h
    rename_i hm
    subst hm
    simp only [Option.map_eq_some_iff] at h
    obtain ⟨j, hj, rfl⟩ := h
    obtain ⟨h1, h2, rfl⟩ := idx_spec hj
  · rename_i m' N r len ex
    cases hx with
    | @ms _ _ b off ext _ _ cap _ a hN hl he ha =>
      rcases ha with ha | ⟨ha, _⟩
      · omega
      subst ha
      refine ⟨_, ixS_run hu ht h1 h2, ?_⟩
      have := VRel.ptr (ι := ι) (ro := ro) (w := w) (r + i.toNat) 0 hN
      rw [addr_add]
      rw [Nat.add_mul, Nat.add_zero, ← Nat.add_assoc] at this
      exact this
  · rename_i m' rows r len ex
    cases hx with
    | @rs _ _ _ _ cap _ a b off f hmr hc hv hl he ha =>
      rcases ha with ha | ha
      · omega
      subst ha
      refine ⟨_, ixS_run hu ht h1 h2, ?_⟩
      have := VRel.rptr (ι := ι) (ro := ro) (w := w) b off (r + i.toNat) 0 f hmr hc hv
      rw [addr_add]
      rw [Nat.add_mul, Nat.add_zero, ← Nat.add_assoc] at this
      exact this
  · rename_i N r k' es len
    cases hx with
    | @mi _ m b off ext _ _ _ _ hN =>
      refine ⟨_, ixS_run hu ht h1 h2, ?_⟩
      rw [addr_add, Nat.add_assoc]
      exact .ptr _ _ hN
  · rename_i m' rows r k' es len
    cases hx with
    | ri b off _ _ _ _ f hmr hc hv =>
      refine ⟨_, ixS_run hu ht h1 h2, ?_⟩
      rw [addr_add, Nat.add_assoc]
      exact .rptr _ _ _ _ _ hmr hc hv
theorem slA_rel {t e : TypeId} {k : Nat} (hu : P.underlying t = some (.array k e)) {ty : Ty} (ht : tyOf P e = some ty) {x : AVal} {u : Value} (hx : VRel ι ro w x u)
    (h : slAA k ty.n x = some v) : ∃ r, (Instr.sliceAt t u none none none).run P w = .ok r w ∧ VRel ι ro w v r := by
  obtain ⟨ti, d, z, hi, _, _, _, _, _, _, hsz, _⟩ := tyOf_spec ht
  have run : ∀ a, (Instr.sliceAt t (.pointer (some a)) none none none).run P w = .ok (.slice (some a) k k) w := by
    intro a
    have : a.add 0 = a := by simp [Addr.add]
    simp [Instr.sliceAt, run_und hu, Instr.sureAddr, Instr.sliceBounds, run_sizeOf hi, this]
  unfold slAA at h
  split at h
  · cases h
    cases hx with
    | ptr _ _ hN => exact ⟨_, run _, .mi _ _ _ _ hN⟩
  · cases h
    cases hx with
    | rptr b off _ _ f hm hc hv => exact ⟨_, run _, .ri _ _ _ _ _ _ f hm hc hv⟩
  · cases h
theorem ixV_rel {t e : TypeId} {len : Nat} (hu : P.underlying t = some (.array len e)) {ty : Ty} (ht : tyOf P e = some ty) {cs : List AVal} {u : Value} (hx : VRel ι ro w (.agg cs) u) {k : IntKind} {i : Int} {j : Nat} (hj : idx i len = some j)
    (h : partA ty.agg ty.n (j * ty.n) cs = some v) : ∃ r, (Instr.index t u (.int k i)).run P w = .ok r w ∧ VRel ι ro w v r := by
  obtain ⟨ti, d, z, hi, _, _, _, _, _, _, hsz, _⟩ := tyOf_spec ht
  obtain ⟨h1, h2, rfl⟩ := idx_spec hj
  cases hx with
  | agg hl hh =>
    obtain ⟨x, hx, hr⟩ := part_rel ht hl hh h
    exact ⟨x, by simp [Instr.index, asIntOf, run_und hu, h1, h2, run_sizeOf hi, hsz, hx], hr⟩
theorem ixStr_rel {t : TypeId} (hu : P.underlying t = some .string) {s : ByteArray} {k : IntKind} {i : Int} (h : (if 0 ≤ i then (s[i.toNat]?).map fun b => AVal.int .u8 b.toNat else none) = some v) :
    ∃ r, (Instr.index t (.string s) (.int k i)).run P w = .ok r w ∧ VRel ι ro w v r := by
  split at h
  · rename_i h0
    simp only [Option.map_eq_some_iff] at h
    obtain ⟨b, hb, rfl⟩ := h
    exact ⟨.int .u8 b.toNat, by simp [Instr.index, asIntOf, run_und hu, h0, hb], .int _ _⟩
  · cases h
theorem find_of {K : KT} {f : AKey → Option AVal} {ks : List (AKey × AVal)} {es : List MapEntry} (h : Entries ι ro w K ks es) (hf : ∀ k, f k = ks.lookup k) (k : AKey) :
    (f k = none ∧ (placeOf k ks 0).bind (fun j => (es[j]?).map fun e => (j, e.val)) = none ∧ k ∉ ks.map (·.1)) ∨
    ∃ j v e, f k = some v ∧ ks[j]? = some (k, v) ∧ es[j]? = some e ∧ (placeOf k ks 0).bind (fun j => (es[j]?).map fun e => (j, e.val)) = some (j, e.val) ∧ VRel ι ro w v e.val ∧ keyVal K k = some e.key := by
  rcases placeOf_spec k ks 0 with ⟨j, v, h1, h2, h3⟩ | ⟨h1, h2, h3⟩
  · have hlt : j < es.length := by rw [h.len]; exact (List.getElem?_eq_some_iff.1 h2).1
    have he : es[j]? = some es[j] := List.getElem?_eq_getElem hlt
    obtain ⟨r1, r2⟩ := h.rel j _ _ h2 he
    exact .inr ⟨j, v, es[j], by rw [hf, h3], h2, he, by rw [h1, Nat.zero_add]; simp [he], r2, r1⟩
  · exact .inl ⟨by rw [hf, h2], by rw [h1]; rfl, h3⟩
theorem run_getObj {r : Nat} {o : Obj} (h : w.heap[r]? = some o) (hc : isCells o = false) : (getObj r).run P w = .ok o w := by
  cases o <;> first | (cases hc; done) | (simp [getObj, Sem.run, h])
theorem run_setObj {r : Nat} {o o' : Obj} (h : w.heap[r]? = some o) (hc : isCells o = false) : (setObj r o').run P w = .ok () { w with heap := w.heap.setIfInBounds r o' } := by
  cases o <;> first | (cases hc; done) | (simp [setObj, Sem.run, h])
theorem setObj_world (r : Nat) (o : Obj) (h : r < w.heap.size) : ({ w with heap := w.heap.setIfInBounds r o } : World).heap.size = w.heap.size ∧
    (∀ k : Nat, k ≠ r → ({ w with heap := w.heap.setIfInBounds r o } : World).heap[k]? = w.heap[k]?) ∧ ({ w with heap := w.heap.setIfInBounds r o } : World).heap[r]? = some o :=
  ⟨by simp, fun k hk => Array.getElem?_setIfInBounds_ne (Ne.symm hk), by simp [h]⟩
theorem map_obj (R : Rel ι ro σ w) {N : Nat} {u : Value} (hx : VRel ι ro w (.map N) u) {K : KT} {f : AKey → Option AVal} {n : Nat} (hs : σ.objs N = some (.map K f n)) :
    ∃ r es clock ks, u = .map (some r) ∧ ι N = some (.obj r) ∧ w.heap[r]? = some (Obj.map es clock) ∧ es.size = n ∧ ks.length = n ∧ (ks.map (·.1)).Nodup ∧ (∀ k, f k = ks.lookup k) ∧ (∀ e ∈ es.toList, e.born < clock) ∧ (es.toList.map (·.born)).Nodup ∧
      Entries ι ro w K ks es.toList := by
  cases hx with
  | @map _ r hN =>
    obtain ⟨es', clock, ks, h1, h2, h3, h4, h5, h6, h7, h8⟩ := R.obj _ _ _ hN hs
    exact ⟨r, es', clock, ks, rfl, hN, h1, h2, h3, h4, h5, h6, h7, ⟨by simpa using h2.trans h3.symm, fun i e e' he he' => h8 i e e' he (by simpa using he')⟩⟩
theorem look_rel (R : Rel ι ro σ w) {t kt e : TypeId} (hu : P.underlying t = some (.map kt e)) {K : KT} (hK : ktOf P kt = some K) {ti : TypeInfo} (hi : P.info? e = some ti) {z : Value} (hz : ti.zero = some z) {zv : AVal} (hzv : cvN 4 z = some zv)
    {x i : AVal} {u ui : Value} (hx : VRel ι ro w x u) (hxi : VRel ι ro w i ui) {f : AKey → Option AVal} {n : Nat} (hes : mapAt σ K x = some (f, n)) {k : AKey} (hk : toKey K i = some k) (ok : Bool) :
    ∃ y, (Instr.lookup t u ui ok).run P w = .ok y w ∧ VRel ι ro w (if ok then .tup [(f k).getD zv, .bool (f k).isSome] else (f k).getD zv) y := by
  have hzr : VRel ι ro w zv z := cvN_rel _ _ _ hzv
  have hKS := ktOf_spec hK
  have hkv := toKey_val hk hxi
  have build : ∀ (ov : Option AVal) (vy : Value) (b : Bool), b = ov.isSome → VRel ι ro w (ov.getD zv) vy →
      VRel ι ro w (if ok then .tup [ov.getD zv, .bool ov.isSome] else ov.getD zv) (if ok then .tuple #[vy, .bool b] else vy) := by
    intro ov vy b hb h1
    cases ok with
    | false => exact h1
    | true =>
      refine .tup rfl (fun i v u hv hu => ?_)
      match i, hv, hu with
      | 0, hv, hu => simp at hv hu; subst hv; subst hu; exact h1
      | 1, hv, hu => simp at hv hu; subst hv; subst hu; rw [hb]; exact .bool _
      | n + 2, hv, hu => simp at hv
  unfold mapAt at hes
  split at hes
  · cases hes
    cases hx
    refine ⟨_, ?_, build none z false rfl hzr⟩
    have hck := checkKey_key hKS hkv (#[] : Array MapEntry).isEmpty w
    have hfd := findKey_key hKS hkv (ι := ι) (ro := ro) (w := w) (ks := []) (es := []) ⟨rfl, by simp⟩
    simp only [Instr.lookup, Sem.run_bind, run_und hu, Result.andThen_ok, Sem.run_pure, hck, hfd]
    simp [placeOf, run_zero hi hz]
  · rename_i N
    split at hes
    · rename_i K' f' n' hs
      split at hes
      · rename_i hKK
        cases hes
        subst hKK
        obtain ⟨r, es, clock, ks, rfl, hN, hb, h2, h3, h4, h5, h6, h7, hE⟩ := map_obj R hx hs
        have hget : (getObj r).run P w = .ok (.map es clock) w := run_getObj hb rfl
        have hck := checkKey_key hKS hkv es.isEmpty w
        have hfd := findKey_key hKS hkv hE
        rcases find_of hE h5 k with ⟨g1, g2, _⟩ | ⟨j, v, e', g1, _, g3, g4, g5, _⟩
        · refine ⟨_, ?_, build (f k) z false (by rw [g1]; rfl) (by rw [g1]; exact hzr)⟩
          rw [g2] at hfd
          simp only [Instr.lookup, Sem.run_bind, run_und hu, Result.andThen_ok, hget, Sem.run_pure, hck, hfd]
          simp [run_zero hi hz]
        · refine ⟨_, ?_, build (f k) e'.val true (by rw [g1]; rfl) (by rw [g1]; exact g5)⟩
          rw [g4] at hfd
          simp only [Instr.lookup, Sem.run_bind, run_und hu, Result.andThen_ok, hget, Sem.run_pure, hck, hfd]
      · cases hes
    · cases hes
  · cases hes
theorem lookup_set {ks : List (AKey × AVal)} {j : Nat} {k : AKey} {v : AVal} (hj : ks[j]? = some (k, v)) (hn : (ks.map (·.1)).Nodup) (v' : AVal) : ∀ x, (ks.set j (k, v')).lookup x = if x = k then some v' else ks.lookup x := by
  induction ks generalizing j with
  | nil => simp at hj
  | cons e ks ih =>
    obtain ⟨a, b⟩ := e
    intro x
    cases j with
    | zero =>
      simp at hj
      obtain ⟨rfl, rfl⟩ := hj
      simp only [List.set_cons_zero, List.lookup]
      by_cases hx : x = a
      · simp [hx]
      · simp [hx, show (x == a) = false by simpa using hx]
    | succ j =>
      simp at hj hn
      have hak : a ≠ k := fun e => by subst e; exact hn.1 v (List.mem_of_getElem? hj)
      simp only [List.set_cons_succ, List.lookup]
      by_cases hx : x = a
      · subst hx; simp [hak]
      · simp only [show (x == a) = false by simpa using hx]
        exact ih hj hn.2 x
theorem lookup_append_new {ks : List (AKey × AVal)} {k : AKey} {v : AVal} (hn : k ∉ ks.map (·.1)) : ∀ x, (ks ++ [(k, v)]).lookup x = if x = k then some v else ks.lookup x := by
  induction ks with
  | nil => intro x; simp only [List.nil_append, List.lookup]; by_cases hx : x = k <;> simp [hx]; simp [show (x == k) = false by simpa using hx]
  | cons e ks ih =>
    obtain ⟨a, b⟩ := e
    intro x
    simp at hn
    simp only [List.cons_append, List.lookup]
    by_cases hx : x = a
    · subst hx; simp [Ne.symm hn.1]
    · simp only [show (x == a) = false by simpa using hx]
      exact ih (by simpa using hn.2) x
theorem lookup_erase {ks : List (AKey × AVal)} {j : Nat} {k : AKey} {v : AVal} (hj : ks[j]? = some (k, v)) (hn : (ks.map (·.1)).Nodup) : ∀ x, (ks.eraseIdx j).lookup x = if x = k then none else ks.lookup x := by
  have notin : ∀ (l : List (AKey × AVal)), k ∉ l.map (·.1) → l.lookup k = none := by
    intro l
    induction l with
    | nil => intro _; rfl
    | cons e l ih =>
      obtain ⟨a, b⟩ := e
      intro h
      simp at h
      simp only [List.lookup, show (k == a) = false by simpa using h.1]
      exact ih (by simpa using h.2)
  induction ks generalizing j with
  | nil => simp at hj
  | cons e ks ih =>
    obtain ⟨a, b⟩ := e
    intro x
    cases j with
    | zero =>
      simp at hj
      obtain ⟨rfl, rfl⟩ := hj
      simp at hn
      simp only [List.eraseIdx_cons_zero, List.lookup]
      by_cases hx : x = a
      · subst hx; simp only [if_true]; exact notin ks (by simpa using hn.1)
      · simp [hx, show (x == a) = false by simpa using hx]
    | succ j =>
      simp at hj hn
      have hak : a ≠ k := fun e => by subst e; exact hn.1 v (List.mem_of_getElem? hj)
      simp only [List.eraseIdx_cons_succ, List.lookup]
      by_cases hx : x = a
      · subst hx; simp [hak]
      · simp only [show (x == a) = false by simpa using hx]
        exact ih hj hn.2 x
theorem upd_rel (R : Rel ι ro σ w) {t kt e : TypeId} (hu : P.underlying t = some (.map kt e)) {K : KT} (hK : ktOf P kt = some K) {N : Nat} {i x : AVal} {u ui ux : Value} (hm : VRel ι ro w (.map N) u) (hxi : VRel ι ro w i ui) (hx : VRel ι ro w x ux)
    {f : AKey → Option AVal} {n : Nat} (hs : σ.objs N = some (.map K f n)) {k : AKey} (hk : toKey K i = some k) :
    ∃ ι' ro' w', (Instr.mapUpdate t u ui ux).run P w = .ok () w' ∧ Later ι ro σ w ι' ro' (σ.set N (.map K (mput f k x) (if (f k).isSome then n else n + 1))) w' ∧ Rel ι' ro' (σ.set N (.map K (mput f k x) (if (f k).isSome then n else n + 1))) w' := by
  have hKS := ktOf_spec hK
  have hkv := toKey_val hk hxi
  obtain ⟨r, es, clock, ks, rfl, hN, hb, h2, h3, h4, h5, h6, h7, hE⟩ := map_obj R hm hs
  have hlt : r < w.heap.size := (Array.getElem?_eq_some_iff.1 hb).1
  have hget : (getObj r).run P w = .ok (.map es clock) w := run_getObj hb rfl
  have hck := checkKey_key hKS hkv false w
  have hfd := findKey_key hKS hkv hE
  have cellsame : ∀ (o : Obj), (∀ (b c : Nat) v, w.cell? ⟨b, c, none⟩ = some v → ({ w with heap := w.heap.setIfInBounds r o } : World).cell? ⟨b, c, none⟩ = some v) := by
    intro o b c v hc
    unfold World.cell? at hc ⊢
    by_cases hbr : b = r
    · subst hbr; simp only [hb] at hc; cases hc
    · simp only [Array.getElem?_setIfInBounds_ne (Ne.symm hbr)]; exact hc
  have vsame : ∀ (o : Obj) v x, VRel ι ro w v x → VRel ι ro { w with heap := w.heap.setIfInBounds r o } v x := fun o v x h => h.mono (fun _ _ h => h) (fun _ _ h => h) (fun b c v _ hc => cellsame o b c v hc)
  rcases find_of hE h5 k with ⟨g1, g2, g3⟩ | ⟨j, v, e', g1, gk, g3, g4, g5, g6⟩
  · rw [g2] at hfd
    have hsome : (f k).isSome = false := by rw [g1]; rfl
    rw [hsome]
    let o' : Obj := .map (es.push { key := ui, val := ux, born := clock }) (clock + 1)
    obtain ⟨s1, s2, s3⟩ := setObj_world (w := w) r o' hlt
    have hw : ObjRel ι ro { w with heap := w.heap.setIfInBounds r o' } (.obj r) (.map K (mput f k x) (n + 1)) := by
      refine ⟨_, _, ks ++ [(k, x)], s3, by simp [h2], by simp [h3], ?_, fun y => by rw [lookup_append_new g3]; simp [mput, h5], ?_, ?_, ?_⟩
      · simp only [List.map_append, List.map_cons, List.map_nil]
        rw [List.nodup_append]
        exact ⟨h4, by simp, by intro a ha b hb; simp at hb; subst hb; exact fun e => g3 (e ▸ ha)⟩
      · intro a ha
        simp at ha
        rcases ha with ha | ha
        · have := h6 a (by simpa using ha); omega
        · rw [ha]; simp
      · simp only [Array.toList_push, List.map_append, List.map_cons, List.map_nil]
        rw [List.nodup_append]
        refine ⟨h7, by simp, ?_⟩
        intro a ha b hb
        simp at hb ha
        subst hb
        obtain ⟨y, hy, rfl⟩ := ha
        have := h6 y (by simpa using hy)
        omega
      · intro q a a' ha ha'
        by_cases hq : q < ks.length
        · rw [List.getElem?_append_left hq] at ha
          rw [Array.getElem?_push, if_neg (by omega)] at ha'
          obtain ⟨r1, r2⟩ := hE.rel q a a' ha (by simpa using ha')
          exact ⟨r1, vsame o' _ _ r2⟩
        · have hq' : q = ks.length := by
            have := (List.getElem?_eq_some_iff.1 ha).1
            simp at this; omega
          subst hq'
          rw [List.getElem?_append_right (by omega)] at ha
          simp at ha; subst ha
          rw [Array.getElem?_push, if_pos (by omega)] at ha'
          cases ha'
          exact ⟨hkv, vsame o' _ _ hx⟩
    obtain ⟨hR, hL⟩ := write_obj R hN hs _ hw rfl rfl rfl s1 s2
    refine ⟨ι, ro, _, ?_, hL, hR⟩
    simp only [Instr.mapUpdate, Sem.run_bind, run_und hu, Result.andThen_ok, hget, hck, hfd]
    exact run_setObj hb rfl
  · rw [g4] at hfd
    have hsome : (f k).isSome = true := by rw [g1]; rfl
    rw [hsome]
    have hkey : e'.key = ui := by rw [g6] at hkv; cases hkv; rfl
    have he' : es[j]? = some e' := by simpa using g3
    let o' : Obj := .map (es.modify j fun e => { e with key := ui, val := ux }) clock
    obtain ⟨s1, s2, s3⟩ := setObj_world (w := w) r o' hlt
    have hjk : j < ks.length := (List.getElem?_eq_some_iff.1 gk).1
    have hw : ObjRel ι ro { w with heap := w.heap.setIfInBounds r o' } (.obj r) (.map K (mput f k x) n) := by
      refine ⟨_, _, ks.set j (k, x), s3, by simp [h2], by simp [h3], ?_, fun y => by rw [lookup_set gk h4]; simp [mput, h5], ?_, ?_, ?_⟩
      · have : (ks.set j (k, x)).map (·.1) = ks.map (·.1) := by
          rw [List.map_set]
          apply List.ext_getElem?
          intro q
          by_cases hq : q = j
          · subst hq; rw [List.getElem?_set_self (by simpa using hjk), List.getElem?_map, gk]; rfl
          · rw [List.getElem?_set_ne (Ne.symm hq)]
        rw [this]; exact h4
      · intro a ha
        obtain ⟨q, hq⟩ := List.mem_iff_getElem?.1 ha
        simp only [Array.getElem?_toList, Array.getElem?_modify] at hq
        split at hq
        · simp only [Option.map_eq_some_iff] at hq
          obtain ⟨y, hy, rfl⟩ := hq
          exact h6 y (List.mem_of_getElem? (i := q) (by simpa using hy))
        · exact h6 a (List.mem_of_getElem? (i := q) (by simpa using hq))
      · have : (es.modify j fun e => { e with key := ui, val := ux }).toList.map (·.born) = es.toList.map (·.born) := by
          apply List.ext_getElem?
          intro q
          simp only [List.getElem?_map, Array.getElem?_toList, Array.getElem?_modify]
          split
          · cases es[q]? <;> rfl
          · rfl
        rw [this]; exact h7
      · intro q a a' ha ha'
        rw [Array.getElem?_modify] at ha'
        by_cases hq : q = j
        · subst hq
          rw [List.getElem?_set_self hjk] at ha
          cases ha
          simp only [if_true, he', Option.map_some, Option.some.injEq] at ha'
          subst ha'
          exact ⟨hkv, vsame o' _ _ hx⟩
        · rw [List.getElem?_set_ne (Ne.symm hq)] at ha
          rw [if_neg (Ne.symm hq)] at ha'
          obtain ⟨r1, r2⟩ := hE.rel q a a' ha (by simpa using ha')
          exact ⟨r1, vsame o' _ _ r2⟩
    obtain ⟨hR, hL⟩ := write_obj R hN hs _ hw rfl rfl rfl s1 s2
    refine ⟨ι, ro, _, ?_, hL, hR⟩
    have hks : (Instr.keyThatStays (((es[j]?).map (·.key)).getD ui) ui).run P w = .ok ui w := by
      rw [he']
      simp only [Option.map_some, Option.getD_some, hkey, Instr.keyThatStays, sameBits_key hkv, if_true, Sem.run_pure]
    simp only [Instr.mapUpdate, Sem.run_bind, run_und hu, Result.andThen_ok, hget, hck, hfd, hks]
    exact run_setObj hb rfl
end
end Go.Tc
namespace Go.Tc
set_option linter.unusedSimpArgs false
section
variable {P : Program} {ι : Nm} {ro : Ros} {σ σ' : AHeap} {w : World} {v : AVal}
theorem cpy_rel (R : Rel ι ro σ w) {t e : TypeId} {ty : Ty} (hu : P.underlying t = some (.slice e)) (ht : tyOf P e = some ty) (t2 rt : TypeId) {d s : AVal} {ud us : Value} (hd : VRel ι ro w d ud) (hs : VRel ι ro w s us) (h : cpyA σ ty.n d s = some (v, σ')) :
    ∃ ι' ro' w' r, (Builtin.copy_ #[t, t2] rt #[ud, us]).run P w = .ok r w' ∧ Later ι ro σ w ι' ro' σ' w' ∧ Rel ι' ro' σ' w' ∧ VRel ι' ro' w' v r := by
  obtain ⟨ti, td, z, hi, _, _, _, _, _, _, hsz, _⟩ := tyOf_spec ht
  unfold cpyA at h
  split at h
  · cases h
  rename_i xs hxs
  obtain ⟨hxl, hxm, hxr⟩ := elems_rel (P := P) R hs hxs
  have zero : ∀ (base : Option Addr) (len cap : Nat), ud = .slice base len cap → Nat.min xs.length len = 0 → (Builtin.copy_ #[t, t2] rt #[ud, us]).run P w = .ok (.int .i64 0) w := by
    intro base len cap hud h0
    subst hud
    obtain ⟨arr, harr, hr⟩ := hxr 0 (Nat.zero_le _)
    have he : arr = #[] := Array.eq_empty_of_size_eq_zero (by simpa using hr.1)
    subst he
    cases base with
    | none => simp [Builtin.copy_, run_und hu, hxl, run_sizeOf hi, hsz, h0, harr, goInt]
    | some a => simp [Builtin.copy_, run_und hu, hxl, run_sizeOf hi, hsz, h0, harr, goInt, storeCells]
  split at h
  · cases h
    cases hd
    exact ⟨ι, ro, w, _, zero none 0 0 rfl (by simp), .refl _ _ _ _, R, .int _ _⟩
  · rename_i m' N i len ex
    split at h
    · rename_i h0
      cases h
      cases hd with
      | ms hN hl he ha => exact ⟨ι, ro, w, _, zero _ _ _ rfl h0, .refl _ _ _ _, R, .int _ _⟩
    rename_i h0
    split at h
    · rename_i m2 rows hobj
      split at h
      · rename_i hh
        obtain ⟨hmm, hle⟩ := hh
        subst hmm
        cases h
        cases hd with
        | @ms _ _ b off ext _ _ cap _ a hN hlc hex ha =>
          obtain ⟨rfl, hrm, hmul, _, hcell⟩ := R.obj _ _ _ hN hobj
          have hmin1 : Nat.min xs.length len ≤ xs.length := Nat.min_le_left _ _
          have hmin2 : Nat.min xs.length len ≤ len := Nat.min_le_right _ _
          generalize hn : Nat.min xs.length len = n at *
          rcases ha with ha | ⟨ha, hext⟩
          · omega
          subst ha
          obtain ⟨new, hnew, hrn⟩ := hxr n hmin1
          have hoc := owned_cells R hN hobj
          have hspace : (i + n) * ty.n ≤ ext := by
            have : n * ty.n ≤ cap * ty.n := Nat.mul_le_mul_right _ (by omega)
            rw [Nat.add_mul]; omega
          have hspace0 := hspace
          rw [Nat.add_mul] at hspace
          have hnl : new.toList.length = n * ty.n := by simp [hrn.1]
          have hone : ∀ u ∈ new.toList, u.oneCell' = true := by
            intro u hu
            obtain ⟨k, hk⟩ := List.mem_iff_getElem?.1 hu
            have hk' : k < n * ty.n := by have := (List.getElem?_eq_some_iff.1 hk).1; omega
            have hpos : 0 < ty.n := by
              rcases Nat.eq_zero_or_pos ty.n with h | h
              · rw [h] at hk'; omega
              · exact h
            have hj : k / ty.n < n := Nat.div_lt_of_lt_mul (by rw [Nat.mul_comm]; exact hk')
            have hrow : xs[k / ty.n]? = some (xs[k / ty.n]'(by omega)) := List.getElem?_eq_getElem (by omega)
            have hrl := hxm _ (List.mem_of_getElem? hrow)
            have hq : k % ty.n < (xs[k / ty.n]'(by omega)).length := by rw [hrl.1]; exact Nat.mod_lt _ hpos
            obtain ⟨y, hy, hr⟩ := hrn.2 (k / ty.n) (k % ty.n) ((xs[k / ty.n]'(by omega))[k % ty.n]'hq) hj (by simp only [cellAt, hrow, Option.bind_some]; exact List.getElem?_eq_getElem hq)
            have hkd : k / ty.n * ty.n + k % ty.n = k := by rw [Nat.mul_comm]; exact Nat.div_add_mod k ty.n
            rw [hkd] at hy
            have : u = y := by
              have h1 : new[k]? = some u := by simpa using hk
              rw [hy] at h1; cases h1; rfl
            rw [this]
            exact hr.one_rel (hrl.2 _ (List.getElem_mem hq))
          obtain ⟨w', hrun, hw, hcells⟩ := run_storeCells_rel P b (off + i * ty.n) new.toList 0 w hone
            (fun j hj => (hoc _ (by omega) (by omega)).1) (fun j hj => (hoc _ (by omega) (by omega)).2)
          obtain ⟨hR, hL⟩ := write_cells R hN hobj (lo := off + i * ty.n + 0) (hi := off + i * ty.n + 0 + new.toList.length) (by omega) (by omega) hw (rows.take i ++ xs.take n ++ rows.drop (i + n))
            (fun row hrow => by
              simp only [List.mem_append] at hrow
              rcases hrow with (h | h) | h
              · exact hrm row (List.mem_of_mem_take h)
              · exact hxm row (List.mem_of_mem_take h)
              · exact hrm row (List.mem_of_mem_drop h))
            (by
              have : (rows.take i ++ xs.take n ++ rows.drop (i + n)).length = max rows.length (i + n) := by simp; omega
              rw [this]
              rcases Nat.le_total rows.length (i + n) with h | h
              · rw [Nat.max_eq_right h]; exact hspace0
              · rw [Nat.max_eq_left h]; exact hmul)
            (fun j q x hx => by
              unfold cellAt at hx
              by_cases h1 : j < i
              · rw [List.append_assoc, List.getElem?_append_left (by simp; omega), List.getElem?_take, if_pos h1] at hx
                obtain ⟨y, hy, hr⟩ := hcell j q x hx
                have hlt := cellAt_lt hrm (show cellAt rows j q = some x from hx)
                have := mul_lt h1 hlt.2
                exact ⟨y, hw.cell (fun ⟨_, h2, _⟩ => by omega) hy, hr⟩
              · by_cases h2 : j < i + n
                · rw [List.append_assoc, List.getElem?_append_right (by simp; omega), List.getElem?_append_left (by simp; omega)] at hx
                  have hjj : j - (rows.take i).length = j - i := by simp; omega
                  rw [hjj, List.getElem?_take, if_pos (by omega)] at hx
                  obtain ⟨y, hy, hr⟩ := hrn.2 (j - i) q x (by omega) hx
                  refine ⟨y, ?_, hr⟩
                  have := hcells ((j - i) * ty.n + q) y (by simpa using hy)
                  rw [← this]
                  congr 2
                  rw [Nat.sub_mul]
                  have : i * ty.n ≤ j * ty.n := Nat.mul_le_mul_right _ (by omega)
                  omega
                · rw [List.getElem?_append_right (by simp; omega), List.getElem?_drop] at hx
                  have hjj : i + n + (j - (rows.take i ++ xs.take n).length) = j := by simp; omega
                  rw [hjj] at hx
                  obtain ⟨y, hy, hr⟩ := hcell j q x hx
                  have : (i + n) * ty.n ≤ j * ty.n := Nat.mul_le_mul_right _ (by omega)
                  rw [Nat.add_mul] at this
                  exact ⟨y, hw.cell (fun ⟨_, h3, h4⟩ => by omega) hy, hr⟩)
          refine ⟨ι, ro, w', .int .i64 n, ?_, hL, hR, .int _ _⟩
          simp [Builtin.copy_, run_und hu, hxl, run_sizeOf hi, hsz, hn, hnew, goInt, hrun]
      · cases h
    · cases h
  · cases h
theorem rng_rel (R : Rel ι ro σ w) {t : TypeId} (hu : P.underlying t = some .string) (s : ByteArray) :
    ∃ ι' ro' w' r, (Instr.range t (.string s)).run P w = .ok r w' ∧ Later ι ro σ w ι' ro' (σ.alloc (.siter s 0)) w' ∧ Rel ι' ro' (σ.alloc (.siter s 0)) w' ∧ VRel ι' ro' w' (.iter σ.next) r := by
  obtain ⟨hR, hL⟩ := alloc_obj R (.stringIter s 0) (.siter s 0) (heap_alloc_new _ _)
  refine ⟨_, _, _, .pointer (some ⟨w.heap.size, 0, none⟩), ?_, hL, hR, .iter (upd_same _ _ _)⟩
  simp [Instr.range, run_und hu]
theorem next_rel (R : Rel ι ro σ w) {N : Nat} {u : Value} (hx : VRel ι ro w (.iter N) u) {s : ByteArray} {pos : Nat} (hs : σ.objs N = some (.siter s pos)) (t : TypeId) :
    (pos < s.size → ∃ ι' ro' w' r, (Instr.next u true t).run P w = .ok r w' ∧ Later ι ro σ w ι' ro' (σ.set N (.siter s (pos + (Utf8.decode s pos).2))) w' ∧ Rel ι' ro' (σ.set N (.siter s (pos + (Utf8.decode s pos).2))) w' ∧
      VRel ι' ro' w' (.tup [.bool true, .int .i64 pos, .int .i32 (Utf8.decode s pos).1]) r) ∧
    (¬ pos < s.size → ∃ r, (Instr.next u true t).run P w = .ok r w ∧ VRel ι ro w (.tup [.bool false]) r) := by
  cases hx with
  | @iter _ r hN =>
    have hb : w.heap[r]? = some (Obj.stringIter s pos) := R.obj _ _ _ hN hs
    have hlt : r < w.heap.size := (Array.getElem?_eq_some_iff.1 hb).1
    have hget : (getObj r).run P w = .ok (.stringIter s pos) w := run_getObj hb rfl
    constructor
    · intro hp
      let o' : Obj := .stringIter s (pos + (Utf8.decode s pos).2)
      obtain ⟨s1, s2, s3⟩ := setObj_world (w := w) r o' hlt
      obtain ⟨hR, hL⟩ := write_obj R hN hs (.siter s (pos + (Utf8.decode s pos).2)) (w' := { w with heap := w.heap.setIfInBounds r o' }) s3 rfl rfl rfl s1 s2
      refine ⟨ι, ro, _, .tuple #[.bool true, goInt pos, .int .i32 (Utf8.decode s pos).1], ?_, hL, hR, .tup rfl (fun i v u hv hu => ?_)⟩
      · have hset : (setObj r o').run P w = .ok () _ := run_setObj hb rfl
        simp only [Instr.next, Sem.run_bind, hget, Result.andThen_ok, if_pos hp, Sem.run_ite, Sem.run_pure]
        rw [show (setObj r (Obj.stringIter s (pos + (Utf8.decode s pos).2))).run P w = _ from hset]
        rfl
      · match i, hv, hu with
        | 0, hv, hu => simp at hv hu; subst hv; subst hu; exact .bool _
        | 1, hv, hu => simp at hv hu; subst hv; subst hu; exact .int _ _
        | 2, hv, hu => simp at hv hu; subst hv; subst hu; exact .int _ _
        | n + 3, hv, hu => simp at hv
    · intro hp
      refine ⟨.tuple #[.bool false], ?_, .tup rfl (fun i v u hv hu => ?_)⟩
      · simp only [Instr.next, Sem.run_bind, hget, Result.andThen_ok, if_neg hp, Sem.run_ite, Sem.run_pure]
      · match i, hv, hu with
        | 0, hv, hu => simp at hv hu; subst hv; subst hu; exact .bool _
        | n + 1, hv, hu => simp at hv
theorem foldO_max : ∀ (vs : List AVal) (us : List Value) (a : AVal) (ua : Value), VRel ι ro w a ua → us.length = vs.length → (∀ (i : Nat) v u, vs[i]? = some v → us[i]? = some u → VRel ι ro w v u) → foldO maxI vs a = some v →
    ∃ r, (us.foldlM Builtin.max2 ua).run P w = .ok r w ∧ VRel ι ro w v r
  | [], us, a, ua, ha, hl, _, h => by
    cases us with
    | nil => simp [foldO] at h; subst h; exact ⟨ua, rfl, ha⟩
    | cons _ _ => simp at hl
  | x :: xs, us, a, ua, ha, hl, hr, h => by
    cases us with
    | nil => simp at hl
    | cons u us =>
      simp only [foldO] at h
      split at h
      · rename_i b hb
        unfold maxI at hb
        split at hb
        · rename_i k p k' q
          split at hb
          · rename_i hk
            cases hb
            subst hk
            cases ha
            have hx := hr 0 _ _ rfl rfl
            cases hx
            obtain ⟨r, h1, h2⟩ := foldO_max xs us (.int k (max p q)) (.int k (max p q)) (.int _ _) (by simpa using hl) (fun i v u hv hu => hr (i + 1) v u (by simpa using hv) (by simpa using hu)) h
            refine ⟨r, ?_, h2⟩
            simp only [List.foldlM_cons, Sem.run_bind, Builtin.max2, Sem.run_pure, Result.andThen_ok]
            have : (if q > p then q else p) = max p q := by simp only [Int.max_def]; split <;> split <;> omega
            rw [this]; exact h1
          · cases hb
        · cases hb
      · cases h
theorem foldO_min : ∀ (vs : List AVal) (us : List Value) (a : AVal) (ua : Value), VRel ι ro w a ua → us.length = vs.length → (∀ (i : Nat) v u, vs[i]? = some v → us[i]? = some u → VRel ι ro w v u) → foldO minI vs a = some v →
    ∃ r, (us.foldlM Builtin.min2 ua).run P w = .ok r w ∧ VRel ι ro w v r
  | [], us, a, ua, ha, hl, _, h => by
    cases us with
    | nil => simp [foldO] at h; subst h; exact ⟨ua, rfl, ha⟩
    | cons _ _ => simp at hl
  | x :: xs, us, a, ua, ha, hl, hr, h => by
    cases us with
    | nil => simp at hl
    | cons u us =>
      simp only [foldO] at h
      split at h
      · rename_i b hb
        unfold minI at hb
        split at hb
        · rename_i k p k' q
          split at hb
          · rename_i hk
            cases hb
            subst hk
            cases ha
            have hx := hr 0 _ _ rfl rfl
            cases hx
            obtain ⟨r, h1, h2⟩ := foldO_min xs us (.int k (min p q)) (.int k (min p q)) (.int _ _) (by simpa using hl) (fun i v u hv hu => hr (i + 1) v u (by simpa using hv) (by simpa using hu)) h
            refine ⟨r, ?_, h2⟩
            simp only [List.foldlM_cons, Sem.run_bind, Builtin.min2, Sem.run_pure, Result.andThen_ok]
            have : (if q < p then q else p) = min p q := by simp only [Int.min_def]; split <;> split <;> omega
            rw [this]; exact h1
          · cases hb
        · cases hb
      · cases h
theorem ext_rel {vs : List AVal} {u : Value} (hx : VRel ι ro w (.tup vs) u) {i : Nat} (h : vs[i]? = some v) : ∃ r, (Instr.extract u i).run P w = .ok r w ∧ VRel ι ro w v r := by
  cases hx with
  | tup hl hh =>
    rename_i us
    have hlt := (List.getElem?_eq_some_iff.1 h).1
    have hu : us[i]? = some (us[i]'(by omega)) := Array.getElem?_eq_getElem (by omega)
    exact ⟨_, by simp [Instr.extract, hu], hh i v _ h hu⟩
theorem lenS_rel {x : AVal} {u : Value} (hx : VRel ι ro w x u) {n : Nat} (h : lenOfS x = some n) {t e : TypeId} (hu : P.underlying t = some (.slice e)) (zs : Array TypeId) (ha : zs[0]? = some t) (rt : TypeId) :
    (Builtin.len_ zs rt #[u]).run P w = .ok (.int .i64 n) w := by
  cases hx <;> simp only [lenOfS] at h <;> cases h <;> simp [Builtin.len_, ha, run_und hu, goInt]
theorem lenM_rel (R : Rel ι ro σ w) {x : AVal} {u : Value} (hx : VRel ι ro w x u) {n : Nat} (h : mapLen σ x = some n) {t k e : TypeId} (hu : P.underlying t = some (.map k e)) (zs : Array TypeId) (ha : zs[0]? = some t) (rt : TypeId) :
    (Builtin.len_ zs rt #[u]).run P w = .ok (.int .i64 n) w := by
  unfold mapLen at h
  split at h
  · cases h; cases hx; simp [Builtin.len_, ha, run_und hu, goInt]
  · rename_i N
    split at h
    · rename_i K f n' hs
      cases h
      obtain ⟨r, es, clock, ks, rfl, hN, hb, h2, _⟩ := map_obj R hx hs
      have hget : (getObj r).run P w = .ok (.map es clock) w := run_getObj hb rfl
      simp [Builtin.len_, ha, run_und hu, goInt, hget, h2]
    · cases h
  · cases h
theorem tas_rel {t xt : TypeId} {d : TypeDesc} (hd : P.underlying t = some d) (hni : ∀ ms, d ≠ .interface ms) {ti : TypeInfo} (hi : P.info? t = some ti) {z : Value} (hz : ti.zero = some z) {zv : AVal} (hzv : cvN 4 z = some zv) {x : AVal} {u : Value} (hx : VRel ι ro w x u) (ok : Bool)
    (h : tasA t zv x ok = some v) :
    ∃ r, (Instr.typeAssert u xt t ok).run P w = .ok r w ∧ VRel ι ro w v r := by
  have hzr : VRel ι ro w zv z := cvN_rel _ _ _ hzv
  have two : ∀ (a : AVal) (ua : Value) (b : Bool), VRel ι ro w a ua → VRel ι ro w (.tup [a, .bool b]) (.tuple #[ua, .bool b]) := by
    intro a ua b ha
    refine .tup rfl (fun i v u hv hu => ?_)
    match i, hv, hu with
    | 0, hv, hu => simp at hv hu; subst hv; subst hu; exact ha
    | 1, hv, hu => simp at hv hu; subst hv; subst hu; exact .bool _
    | n + 2, hv, hu => simp at hv
  cases hx with
  | @iface s y uy hy =>
    simp only [tasA] at h
    by_cases hst : s = t
    · rw [if_pos hst] at h
      subst hst
      cases ok
      · simp at h; subst h
        refine ⟨uy, ?_, hy⟩
        cases d <;> first | (exact absurd rfl (hni _)) | (simp [Instr.typeAssert, run_und hd])
      · simp at h; subst h
        refine ⟨_, ?_, two y uy true hy⟩
        cases d <;> first | (exact absurd rfl (hni _)) | (simp [Instr.typeAssert, run_und hd])
    · rw [if_neg hst] at h
      cases ok
      · simp at h
      · simp at h; subst h
        refine ⟨_, ?_, two zv z false hzr⟩
        cases d <;> first | (exact absurd rfl (hni _)) | (simp [Instr.typeAssert, run_und hd, hst, run_zero hi hz])
  | nilI =>
    simp only [tasA] at h
    cases ok
    · simp at h
    · simp at h; subst h
      refine ⟨_, ?_, two zv z false hzr⟩
      cases d <;> first | (exact absurd rfl (hni _)) | (simp [Instr.typeAssert, run_und hd, run_zero hi hz])
  | _ => simp [tasA] at h
end
end Go.Tc
namespace Go.Tc
set_option linter.unusedSimpArgs false
section
variable {P : Program} {ι : Nm} {ro : Ros} {σ σ' : AHeap} {w : World} {v : AVal}
theorem optEval {n : Nat} {env : AEnv} {a : Act} (hn : env.n = n) (E : EnvRel ι ro w env a) {x : Option Operand} {y : Option Opnd} (h : cOpt n x = some y) : OptRel ι ro w (y.map env.ev) (x.map a.eval) := by
  cases x with
  | none => simp [cOpt] at h; subst h; trivial
  | some x =>
    simp only [cOpt, Option.map_eq_some_iff] at h
    obtain ⟨y, hy, rfl⟩ := h
    exact eval_rel E (by rw [hn]; exact hy)
theorem opA_rel {n : Nat} {o : Oper} {ao : AOp} (hc : compOp P n o = some ao) {env : AEnv} (hn : env.n = n) {a : Act} (h : opA ao env σ = some (v, σ')) (R : Rel ι ro σ w) (E : EnvRel ι ro w env a) :
    Good P (execOp a.eval o) ι ro σ w v σ' := by
  have ev : ∀ {x : Operand} {y : Opnd}, cOpnd n x = some y → VRel ι ro w (env.ev y) (a.eval x) := fun h => eval_rel E (by rw [hn]; exact h)
  unfold compOp at hc
  split at hc
  ·
    rename_i x ho
    simp only [Option.map_eq_some_iff] at hc
    obtain ⟨y, hy, rfl⟩ := hc
    simp only [opA] at h
    cases h
    exact Good.still R (by simp only [execOp, ho]; rfl) (ev hy)
  ·
    rename_i x ho
    simp only [Option.map_eq_some_iff] at hc
    obtain ⟨y, hy, rfl⟩ := hc
    simp only [opA] at h
    cases h
    exact Good.still R (by simp only [execOp, ho]; rfl) (ev hy)
  ·
    rename_i c x y ho
    simp only [Option.bind_eq_some_iff, Option.map_eq_some_iff] at hc
    obtain ⟨c', hc', x', hx', y', hy', rfl⟩ := hc
    simp only [opA] at h
    have hcv := ev hc'
    split at h
    · rename_i t ht
      cases h
      rw [ht] at hcv
      generalize hq : a.eval c = q at hcv
      cases hcv
      refine Good.still R (u := if t then a.eval x else a.eval y) (by simp [execOp, ho, hq, asBool]) ?_
      cases t
      · exact ev hy'
      · exact ev hx'
    · cases h
  ·
    rename_i t ho
    simp only [Option.map_eq_some_iff] at hc
    obtain ⟨ty, hty, rfl⟩ := hc
    simp only [opA] at h
    cases h
    have := good_turn (P := P) (alloc_rel R hty)
    simpa only [execOp, ho] using this
  ·
    rename_i t x ho
    simp only [Option.map_eq_some_iff] at hc
    obtain ⟨y, hy, rfl⟩ := hc
    simp only [opA] at h
    split at h
    · rename_i hone
      cases h
      have := good_turn (P := P) (box_rel R t (ev hy) hone)
      simpa only [execOp, ho] using this
    · cases h
  ·
    rename_i t parts ho
    split at hc
    · rename_i hes
      cases hc
      simp only [opA] at h
      cases h
      simp only [Bool.and_eq_true] at hes
      obtain ⟨hes, hpe⟩ := hes
      unfold emptyS at hes
      split at hes
      · rename_i i fs hi hu
        simp only [Bool.and_eq_true] at hes
        obtain ⟨hfs, hz⟩ := hes
        split at hz
        · rename_i z hzz
          have hp0 : parts = #[] := by simpa using hpe
          have hf0 : fs = #[] := by simpa using hfs
          have hz0 : z.cells = #[] := by simpa using hz
          subst hp0; subst hf0
          refine Good.still R (u := .agg #[]) ?_ (.agg (by simp) (by simp))
          simp [execOp, ho, Instr.build, run_zero hi hzz, run_und hu, hz0, Instr.fill]
        · cases hz
      · cases hes
    simp only [Option.bind_eq_some_iff] at hc
    obtain ⟨ty, hty, hc⟩ := hc
    have fin : ∀ (place : Nat → Option (Nat × Nat)) (ps : List (Nat × Nat × Opnd)), cParts P n place parts.toList = some ps → ao = .build ty.z ps →
        ((∃ fs, P.underlying t = some (.struct fs) ∧ place = fun i => (fs[i]?).bind fun f => (P.info? f.type).map fun k => (f.offset, k.size)) ∨ (∃ k e i, P.underlying t = some (.array k e) ∧ P.info? e = some i ∧ place = fun j => some (j * i.size, i.size))) →
        (∀ fs, P.underlying t = some (.struct fs) → ∀ f ∈ fs.toList, ∃ i, P.info? f.type = some i) → Good P (execOp a.eval o) ι ro σ w v σ' := by
      rintro place ps hps rfl hplace hst
      simp only [opA] at h
      cases hf : fillA ty.z (ps.map fun p => (p.1, p.2.1, env.ev p.2.2)) with
      | none => simp [hf] at h
      | some res =>
        simp [hf] at h
        obtain ⟨rfl, rfl⟩ := h
        obtain ⟨h1, h2⟩ := cParts_rel (ι := ι) (ro := ro) (w := w) hn E hps
        have := good_of R (build_rel (P := P) (ι := ι) (ro := ro) (w := w) t hty (parts' := parts.map fun p => (p.1, a.eval p.2)) place hplace hst (by simpa using h1) (fun i p p' hp hp' => h2 i p p' hp (by simpa using hp')) hf)
        simpa only [execOp, ho] using this
    split at hc
    · rename_i fs hu
      split at hc
      · rename_i hall
        simp only [Option.map_eq_some_iff] at hc
        obtain ⟨ps, hps, rfl⟩ := hc
        refine fin _ ps hps rfl (.inl ⟨fs, hu, rfl⟩) (fun fs' hu' f hf => ?_)
        rw [hu] at hu'; cases hu'
        have := List.all_eq_true.1 hall f hf
        exact Option.isSome_iff_exists.1 this
      · cases hc
    · rename_i k e hu
      simp only [Option.bind_eq_some_iff, Option.map_eq_some_iff] at hc
      obtain ⟨i, hi, ps, hps, rfl⟩ := hc
      exact fin _ ps hps rfl (.inr ⟨k, e, i, hu, hi, rfl⟩) (fun fs' hu' => by rw [hu] at hu'; cases hu')
    · cases hc
  ·
    rename_i t len parts ho
    split at hc
    · rename_i e hu
      simp only [Option.bind_eq_some_iff] at hc
      obtain ⟨ty, hty, hc⟩ := hc
      split at hc
      · rename_i hle
        simp only [Option.map_eq_some_iff] at hc
        obtain ⟨ps, hps, rfl⟩ := hc
        simp only [opA] at h
        split at h
        · rename_i rows hrows
          cases h
          obtain ⟨h1, h2⟩ := cPartsI_rel (ι := ι) (ro := ro) (w := w) hn E hps
          have := good_turn (P := P) (buildS_rel R hu hty hle (parts' := parts.map fun p => (p.1, a.eval p.2)) (by simpa using h1) (fun i p p' hp hp' => h2 i p p' hp (by simpa using hp')) hrows)
          simpa only [execOp, ho] using this
        · cases h
      · cases hc
    · cases hc
  ·
    rename_i t x ho
    simp only [Option.bind_eq_some_iff, Option.map_eq_some_iff] at hc
    obtain ⟨ty, hty, y, hy, rfl⟩ := hc
    simp only [opA, Option.map_eq_some_iff] at h
    obtain ⟨v', hv, h⟩ := h
    cases h
    have := good_of R (loadA_rel (P := P) hty R (ev hy) hv)
    simpa only [execOp, ho] using this
  ·
    rename_i t x y ho
    simp only [Option.bind_eq_some_iff, Option.map_eq_some_iff] at hc
    obtain ⟨ty, hty, x', hx, y', hy, rfl⟩ := hc
    simp only [opA, Option.map_eq_some_iff] at h
    obtain ⟨σ2, hv, h⟩ := h
    cases h
    obtain ⟨w', h1, h2, h3⟩ := storeA_rel (P := P) hty R (ev hx) (ev hy) hv
    have := good_skip (P := P) ⟨ι, ro, w', h1, h3, h2⟩
    simpa only [execOp, ho] using this
  ·
    rename_i x ho
    simp only [Option.map_eq_some_iff] at hc
    obtain ⟨y, hy, rfl⟩ := hc
    simp only [opA] at h
    have hv := ev hy
    generalize hq : a.eval x = q at hv
    split at h <;> (try (cases h; done)) <;> rename_i he <;> cases h <;> rw [he] at hv ⊢ <;> have hv2 := hv <;> cases hv2 <;> exact Good.still R (by simp [execOp, ho, hq]) hv
  ·
    rename_i op t x y yt ho
    simp only [Option.bind_eq_some_iff, Option.map_eq_some_iff] at hc
    obtain ⟨e, he, x', hx, y', hy, rfl⟩ := hc
    simp only [opA, Option.map_eq_some_iff] at h
    obtain ⟨v', hv, h⟩ := h
    cases h
    have := good_of R (binA_const (P := P) he x y (ev hx) (ev hy) hv)
    simpa only [execOp, ho] using this
  ·
    rename_i op t x ho
    simp only [Option.map_eq_some_iff] at hc
    obtain ⟨y, hy, rfl⟩ := hc
    simp only [opA, Option.map_eq_some_iff] at h
    obtain ⟨v', hv, h⟩ := h
    cases h
    have := good_of R (unA_rel (P := P) (ev hy) hv)
    simpa only [execOp, ho] using this
  ·
    rename_i s d x ho
    simp only [Option.bind_eq_some_iff] at hc
    obtain ⟨y, hy, hc⟩ := hc
    have hv := ev hy
    generalize hq : a.eval x = q at hv
    split at hc
    · rename_i hs hd
      cases hc
      simp only [opA] at h
      split at h <;> (try (cases h; done)) <;> rename_i hcv he <;> cases hcv <;> rw [he] at hv <;> cases h <;> cases hv
      exact Good.still R (by simp [execOp, ho, hq, convert, run_und hs, run_und hd, Conv.intToInt]) (.int _ _)
    · rename_i hs hd
      cases hc
      simp only [opA] at h
      split at h <;> (try (cases h; done)) <;> rename_i hcv he <;> cases hcv <;> rw [he] at hv <;> cases h <;> cases hv
      exact Good.still R (by simp [execOp, ho, hq, convert, run_und hs, run_und hd]) (.str _)
    · rename_i hs hd
      cases hc
      simp only [opA] at h
      split at h <;> (try (cases h; done)) <;> rename_i hcv he <;> cases hcv <;> rw [he] at hv <;> cases h <;> cases hv
      exact Good.still R (by simp [execOp, ho, hq, convert, run_und hs, run_und hd, Conv.intToString]) (.str _)
    · rename_i e hs hd
      split at hc
      · rename_i he
        cases hc
        simp only [opA, Option.map_eq_some_iff] at h
        obtain ⟨_, ⟨s0, hs0, rfl⟩, h⟩ := h
        cases h
        rw [← hq] at hv
        refine Good.still R (u := .string s0) ?_ (.str _)
        have := b2s_rel (P := P) R hv hs0 hs he hd
        simp [execOp, ho, this]
      · cases hc
    · cases hc
  ·
    rename_i t x ho
    split at hc
    · cases hc
    · rename_i d hni hu
      simp only [Option.map_eq_some_iff] at hc
      obtain ⟨y, hy, rfl⟩ := hc
      simp only [opA] at h
      cases h
      refine Good.still R (u := .iface t (a.eval x)) ?_ (.iface (ev hy))
      cases d <;> first | (exact absurd rfl (hni _)) | (simp [execOp, ho, Instr.makeInterface, run_und hu])
    · cases hc
  ·
    rename_i fn x y ho
    split at hc
    · cases hc
    · rename_i hny
      simp only [Option.bind_eq_some_iff, Option.map_eq_some_iff] at hc
      obtain ⟨x', hx, y', hy, rfl⟩ := hc
      simp only [opA] at h
      cases h
      have h1 := evals_rel (ι := ι) (ro := ro) (w := w) E (by rw [hn]; exact hx)
      have h2 := evals_rel (ι := ι) (ro := ro) (w := w) E (by rw [hn]; exact hy)
      refine Good.still R (u := .func fn (x.map a.eval) (y.map a.eval)) (by simp [execOp, ho, Instr.makeFunc]) ?_
      have e1 : (x.toList.map a.eval).toArray = x.map a.eval := by apply Array.ext'; simp
      have e2 : (y.toList.map a.eval).toArray = y.map a.eval := by apply Array.ext'; simp
      rw [e1] at h1; rw [e2] at h2
      exact .func (fun l e => hny l e) h1.1 h2.1 h1.2 h2.2
  ·
    rename_i t r ho
    split at hc
    · rename_i k e hu
      simp only [Option.map_eq_some_iff] at hc
      obtain ⟨K, hK, rfl⟩ := hc
      simp only [opA] at h
      cases h
      obtain ⟨hR, hL⟩ := alloc_obj R (.map #[] 0) (.map K (fun _ => none) 0) ⟨#[], 0, [], heap_alloc_new _ _, rfl, rfl, by simp, fun _ => rfl, by simp, by simp, by simp⟩
      have := good_turn (P := P) (s := Instr.makeMap t none) ⟨_, _, _, .map (some w.heap.size), by simp [Instr.makeMap], hL, hR, .map (upd_same _ _ _)⟩
      simpa only [execOp, ho, Option.map_none] using this
    · cases hc
  ·
    rename_i t l c ho
    split at hc
    · rename_i e hu
      simp only [Option.bind_eq_some_iff, Option.map_eq_some_iff] at hc
      obtain ⟨ty, hty, l', hl, c', hcc, rfl⟩ := hc
      have hlv := ev hl
      have hcv := ev hcc
      generalize hq1 : a.eval l = q1 at hlv
      generalize hq2 : a.eval c = q2 at hcv
      simp only [opA] at h
      split at h
      · rename_i k1 n1 k2 n2 he1 he2
        rw [he1] at hlv; rw [he2] at hcv
        cases hlv; cases hcv
        split at h
        · rename_i hh
          cases h
          have := good_turn (P := P) (makeS_rel (k := k1) (k' := k2) R hu hty hh.1 hh.2.1 hh.2.2.1 hh.2.2.2)
          simpa only [execOp, ho, hq1, hq2] using this
        · cases h
      · cases h
    · cases hc
  ·
    rename_i t x lo hi mx ho
    simp only [Option.bind_eq_some_iff] at hc
    obtain ⟨x', hx, lo', hlo, hi', hhi, mx', hmx, hc⟩ := hc
    have rl := optEval (ι := ι) (ro := ro) (w := w) hn E hlo
    have rh := optEval (ι := ι) (ro := ro) (w := w) hn E hhi
    have rm := optEval (ι := ι) (ro := ro) (w := w) hn E hmx
    split at hc
    · rename_i e hu
      simp only [Option.bind_eq_some_iff] at hc
      obtain ⟨ty, hty, hc⟩ := hc
      split at hc
      · cases hc
      · rename_i hnn
        cases hc
        simp only [opA, Option.map_eq_some_iff] at h
        obtain ⟨v', hv, h⟩ := h
        cases h
        have := good_of R (sliceA_rel (P := P) hu hty (ev hx) rl rh rm (by
          cases mx' with
          | none => exact .inl rfl
          | some m => cases hi' with
            | none => simp at hnn
            | some q => exact .inr (by simp)) hv)
        simpa only [execOp, ho] using this
    · rename_i hu
      split at hc
      · cases hc
      · rename_i hmn
        cases hc
        cases mx' with
        | some m => simp at hmn
        | none =>
          have hm0 : mx = none := by
            cases mx with
            | none => rfl
            | some m => simp only [cOpt, Option.map_eq_some_iff] at hmx; obtain ⟨_, _, h⟩ := hmx; cases h
          subst hm0
          have hv := ev hx
          generalize hq : a.eval x = q at hv
          simp only [opA] at h
          split at h
          · rename_i s he
            rw [he] at hv; cases hv
            simp only [Option.map_eq_some_iff, Option.bind_eq_some_iff] at h
            obtain ⟨v', ⟨hh, h1, l, h2, rfl⟩, h⟩ := h
            cases h
            have hb := sliceStr_rel (P := P) (w := w) rl rh h1 h2
            refine Good.still R (u := .string (s.extract l hh)) ?_ (.str _)
            simp [execOp, ho, hq, Instr.sliceAt, run_und hu, Instr.slice, hb]
          · cases h
    · rename_i k e hu
      simp only [Option.bind_eq_some_iff] at hc
      obtain ⟨ty, hty, hc⟩ := hc
      split at hc
      · cases hc
      · rename_i hnn
        cases hc
        simp only [opA] at h
        split at h
        · cases h
        · rename_i hlh
          simp only [Option.map_eq_some_iff] at h
          obtain ⟨v', hv, h⟩ := h
          cases h
          have hnone : ∀ {z : Option Operand} {z' : Option Opnd}, cOpt n z = some z' → z'.isSome = false → z = none := by
            intro z z' hz hz'
            cases z with
            | none => rfl
            | some m => simp only [cOpt, Option.map_eq_some_iff] at hz; obtain ⟨_, _, rfl⟩ := hz; simp at hz'
          simp only [Bool.or_eq_true, not_or, Bool.not_eq_true] at hlh
          simp only [Bool.or_eq_true, not_or, Bool.not_eq_true, decide_eq_true_eq] at hnn
          have e1 := hnone hlo hlh.1
          have e2 := hnone hhi hlh.2
          have e3 := hnone hmx hnn.1
          subst e1; subst e2; subst e3
          have := good_of R (slA_rel (P := P) hu hty (ev hx) hv)
          simpa only [execOp, ho, Option.map_none] using this
    · cases hc
  ·
    rename_i t x f ho
    simp only [Option.bind_eq_some_iff, Option.map_eq_some_iff] at hc
    obtain ⟨fd, hfd, ty, hty, y, hy, rfl⟩ := hc
    simp only [opA, Option.map_eq_some_iff] at h
    obtain ⟨v', hv, h⟩ := h
    cases h
    have := good_of R (fa_rel (P := P) hfd hty (ev hy) hv)
    simpa only [execOp, ho] using this
  ·
    rename_i t x f ho
    simp only [Option.bind_eq_some_iff, Option.map_eq_some_iff] at hc
    obtain ⟨fd, hfd, ty, hty, y, hy, rfl⟩ := hc
    have hv := ev hy
    simp only [opA] at h
    split at h
    · rename_i cs he
      rw [he] at hv
      simp only [Option.map_eq_some_iff] at h
      obtain ⟨v', hv', h⟩ := h
      cases h
      have := good_of R (fld_rel (P := P) hfd hty hv hv')
      simpa only [execOp, ho] using this
    · cases h
  ·
    rename_i t x i ho
    simp only [Option.bind_eq_some_iff] at hc
    obtain ⟨x', hx, i', hi, hc⟩ := hc
    have hiv := ev hi
    generalize hq : a.eval i = q at hiv
    split at hc
    · rename_i len e hu
      simp only [Option.map_eq_some_iff] at hc
      obtain ⟨ty, hty, rfl⟩ := hc
      simp only [opA] at h
      split at h
      · rename_i k j he
        rw [he] at hiv; cases hiv
        simp only [Option.map_eq_some_iff, Option.bind_eq_some_iff] at h
        obtain ⟨v', ⟨jj, hj, hv⟩, h⟩ := h
        cases h
        have := good_of R (ixA_rel (P := P) (k := k) hu hty (ev hx) hj hv)
        simpa only [execOp, ho, hq] using this
      · cases h
    · rename_i e hu
      simp only [Option.map_eq_some_iff] at hc
      obtain ⟨ty, hty, rfl⟩ := hc
      simp only [opA] at h
      split at h
      · rename_i k j he
        rw [he] at hiv; cases hiv
        simp only [Option.map_eq_some_iff] at h
        obtain ⟨v', hv, h⟩ := h
        cases h
        have := good_of R (ixS_rel (P := P) (k := k) hu hty (ev hx) hv)
        simpa only [execOp, ho, hq] using this
      · cases h
    · cases hc
  ·
    rename_i t x i ho
    simp only [Option.bind_eq_some_iff] at hc
    obtain ⟨x', hx, i', hi, hc⟩ := hc
    have hiv := ev hi
    have hxv := ev hx
    generalize hq : a.eval i = q at hiv
    generalize hq2 : a.eval x = q2 at hxv
    split at hc
    · rename_i len e hu
      simp only [Option.map_eq_some_iff] at hc
      obtain ⟨ty, hty, rfl⟩ := hc
      simp only [opA] at h
      split at h
      · rename_i cs k j he1 he2
        rw [he1] at hxv; rw [he2] at hiv; cases hiv
        simp only [Option.map_eq_some_iff, Option.bind_eq_some_iff] at h
        obtain ⟨v', ⟨jj, hj, hv⟩, h⟩ := h
        cases h
        have := good_of R (ixV_rel (P := P) (k := k) hu hty hxv hj hv)
        simpa only [execOp, ho, hq, hq2] using this
      · cases h
    · rename_i hu
      cases hc
      simp only [opA] at h
      split at h
      · rename_i s k j he1 he2
        rw [he1] at hxv; rw [he2] at hiv; cases hiv; cases hxv
        simp only [Option.map_eq_some_iff] at h
        obtain ⟨v', hv, h⟩ := h
        cases h
        have := good_of R (ixStr_rel (P := P) (ι := ι) (ro := ro) (w := w) (k := k) hu hv)
        simpa only [execOp, ho, hq, hq2] using this
      · cases h
    · cases hc
  ·
    rename_i t x i ok ho
    simp only [Option.bind_eq_some_iff] at hc
    obtain ⟨x', hx, i', hi, hc⟩ := hc
    split at hc
    · rename_i kt e hu
      simp only [Option.bind_eq_some_iff, Option.map_eq_some_iff] at hc
      obtain ⟨K, hK, z, ⟨ti, hti, hz⟩, zv, hzv, rfl⟩ := hc
      simp only [opA] at h
      split at h
      · rename_i f nn k hm hk
        cases h
        have := good_of R (look_rel (P := P) R hu hK hti hz hzv (ev hx) (ev hi) hm hk ok)
        simpa only [execOp, ho] using this
      · cases h
    · cases hc
  ·
    rename_i t m i x ho
    simp only [Option.bind_eq_some_iff] at hc
    obtain ⟨m', hm, i', hi, x', hx, hc⟩ := hc
    split at hc
    · rename_i kt e hu
      simp only [Option.map_eq_some_iff] at hc
      obtain ⟨K, hK, rfl⟩ := hc
      have hmv := ev hm
      simp only [opA] at h
      split at h
      · rename_i N k he hk
        rw [he] at hmv
        split at h
        · rename_i K' f nn hs
          split at h
          · rename_i hKK
            subst hKK
            cases h
            have := good_skip (P := P) (upd_rel R hu hK hmv (ev hi) (ev hx) hs hk)
            simpa only [execOp, ho] using this
          · cases h
        · cases h
      · cases h
    · cases hc
  ·
    rename_i t m i x ho
    simp only [Option.bind_eq_some_iff] at hc
    obtain ⟨m', hm, i', hi, x', hx, hc⟩ := hc
    split at hc
    · rename_i kt e hu
      simp only [Option.map_eq_some_iff] at hc
      obtain ⟨K, hK, rfl⟩ := hc
      have hmv := ev hm
      simp only [opA] at h
      split at h
      · rename_i N k he hk
        rw [he] at hmv
        split at h
        · rename_i K' f nn hs
          split at h
          · rename_i hKK
            subst hKK
            cases h
            have := good_skip (P := P) (upd_rel R hu hK hmv (ev hi) (ev hx) hs hk)
            simpa only [execOp, ho] using this
          · cases h
        · cases h
      · cases h
    · cases hc
  ·
    rename_i t x ho
    simp only [Option.bind_eq_some_iff] at hc
    obtain ⟨x', hx, hc⟩ := hc
    split at hc
    · rename_i hu
      cases hc
      have hxv := ev hx
      generalize hq : a.eval x = q at hxv
      simp only [opA] at h
      split at h
      · rename_i s he
        rw [he] at hxv; cases hxv
        cases h
        have := good_turn (P := P) (rng_rel R hu s)
        simpa only [execOp, ho, hq] using this
      · cases h
    · cases hc
  ·
    rename_i x s ho
    split at hc
    · rename_i hs
      simp only [Option.map_eq_some_iff] at hc
      obtain ⟨x', hx, rfl⟩ := hc
      subst hs
      have hxv := ev hx
      simp only [opA] at h
      split at h
      · rename_i N he
        rw [he] at hxv
        split at h
        · rename_i s pos hs
          obtain ⟨h1, h2⟩ := next_rel (P := P) R hxv hs o.type
          split at h
          · rename_i hp
            cases h
            have := good_turn (P := P) (h1 hp)
            simpa only [execOp, ho] using this
          · rename_i hp
            cases h
            have := good_of R (h2 hp)
            simpa only [execOp, ho] using this
        · cases h
      · cases h
    · cases hc
  ·
    rename_i x xt t ok ho
    simp only [Option.bind_eq_some_iff] at hc
    obtain ⟨x', hx, hc⟩ := hc
    split at hc
    · cases hc
    · rename_i d hni hu
      simp only [Option.bind_eq_some_iff, Option.map_eq_some_iff] at hc
      obtain ⟨z, ⟨ti, hti, hz⟩, zv, hzv, rfl⟩ := hc
      simp only [opA] at h
      simp only [Option.map_eq_some_iff] at h
      obtain ⟨v', hv, h⟩ := h
      cases h
      have := good_of R (tas_rel (P := P) (xt := xt) hu (fun ms e => hni ms (by rw [e])) hti hz hzv (ev hx) ok hv)
      simpa only [execOp, ho] using this
    · cases hc
  ·
    rename_i x i ho
    simp only [Option.map_eq_some_iff] at hc
    obtain ⟨x', hx, rfl⟩ := hc
    have hxv := ev hx
    simp only [opA] at h
    split at h
    · rename_i vs he
      rw [he] at hxv
      simp only [Option.map_eq_some_iff] at h
      obtain ⟨v', hv, h⟩ := h
      cases h
      have := good_of R (ext_rel (P := P) hxv hv)
      simpa only [execOp, ho] using this
    · cases h
  ·
    rename_i c ho
    unfold compCall at hc
    simp only [Option.bind_eq_some_iff] at hc
    obtain ⟨args, hargs, hc⟩ := hc
    have hA := evals_rel (ι := ι) (ro := ro) (w := w) E (by rw [hn]; exact hargs)
    have hsz : (c.args.toList.map a.eval).toArray = c.args.map a.eval := by apply Array.ext'; simp
    rw [hsz] at hA
    split at hc
    · split at hc
      · split at hc
        · cases hc; simp [opA] at h
        · cases hc
      · cases hc
    · simp only [Option.map_eq_some_iff] at hc
      obtain ⟨_, _, rfl⟩ := hc
      simp [opA] at h
    · simp only [Option.map_eq_some_iff] at hc
      obtain ⟨_, _, rfl⟩ := hc
      simp [opA] at h
    · rename_i b hcal
      have exec : ∀ s : Sem Value, builtin b c.argTypes o.type (c.args.map fun | .const _ => true | _ => false) (c.args.map a.eval) = (do pure (.value (← s))) → execOp a.eval o = (do pure (.value (← s))) := by
        intro s hs
        simp only [execOp, ho, resolve, hcal]
        exact hs
      have arg : ∀ (i : Nat) (x : Opnd), args[i]? = some x → ∃ u, (c.args.map a.eval)[i]? = some u ∧ VRel ι ro w (env.ev x) u := by
        intro i x hx
        have hlt : i < (c.args.map a.eval).size := by have := hA.1; simp at this ⊢; have := (List.getElem?_eq_some_iff.1 hx).1; omega
        exact ⟨_, Array.getElem?_eq_getElem hlt, hA.2 i _ _ (by simp [hx]) (Array.getElem?_eq_getElem hlt)⟩
      have size : (c.args.map a.eval).size = args.length := by have := hA.1; simpa using this
      have at0 : ∀ {td}, (c.argTypes[0]?).bind P.underlying = some td → ∃ t, c.argTypes[0]? = some t ∧ P.underlying t = some td := by
        intro td h
        simp only [Option.bind_eq_some_iff] at h
        exact h
      split at hc
      ·
        rename_i hx0 x ht
        cases hc
        obtain ⟨t, h0, hu⟩ := at0 ht
        obtain ⟨u, hu0, hv⟩ := arg 0 x rfl
        simp only [opA] at h
        split at h
        · rename_i s he
          rw [he] at hv; cases hv
          cases h
          rw [exec (Builtin.len_ c.argTypes o.type (c.args.map a.eval)) rfl]
          exact good_of R ⟨_, by simp only [Builtin.len_, h0, hu0]; simp [run_und hu, goInt], .int _ _⟩
        · cases h
      ·
        rename_i hx0 x e ht
        cases hc
        obtain ⟨t, h0, hu⟩ := at0 ht
        obtain ⟨u, hu0, hv⟩ := arg 0 x rfl
        simp only [opA, Option.map_eq_some_iff] at h
        obtain ⟨v', ⟨k, hk, rfl⟩, h⟩ := h
        cases h
        have hone : c.args.map a.eval = #[u] := by
          apply Array.ext_getElem?
          intro i
          cases i with
          | zero => simpa using hu0
          | succ i => rw [Array.getElem?_eq_none (by rw [size]; simp), Array.getElem?_eq_none (by simp)]
        rw [exec (Builtin.len_ c.argTypes o.type (c.args.map a.eval)) rfl, hone]
        exact good_of R ⟨_, lenS_rel hv hk hu c.argTypes h0 o.type, .int _ _⟩
      ·
        rename_i hx0 x kt e ht
        cases hc
        obtain ⟨t, h0, hu⟩ := at0 ht
        obtain ⟨u, hu0, hv⟩ := arg 0 x rfl
        simp only [opA, Option.map_eq_some_iff] at h
        obtain ⟨v', ⟨k, hk, rfl⟩, h⟩ := h
        cases h
        have hone : c.args.map a.eval = #[u] := by
          apply Array.ext_getElem?
          intro i
          cases i with
          | zero => simpa using hu0
          | succ i => rw [Array.getElem?_eq_none (by rw [size]; simp), Array.getElem?_eq_none (by simp)]
        rw [exec (Builtin.len_ c.argTypes o.type (c.args.map a.eval)) rfl, hone]
        exact good_of R ⟨_, lenM_rel R hv hk hu c.argTypes h0 o.type, .int _ _⟩
      ·
        rename_i hx0 x k e ht
        cases hc
        obtain ⟨t, h0, hu⟩ := at0 ht
        obtain ⟨u, hu0, hv⟩ := arg 0 x rfl
        simp only [opA] at h
        cases h
        rw [exec (Builtin.len_ c.argTypes o.type (c.args.map a.eval)) rfl]
        exact good_of R ⟨_, by simp only [Builtin.len_, h0, hu0]; simp [run_und hu, goInt], .int _ _⟩
      ·
        rename_i hx0 s x e ht
        obtain ⟨t, h0, hu⟩ := at0 ht
        split at hc
        · cases hc
        · rename_i d2 hni ht2
          simp only [Option.bind_eq_some_iff] at ht2
          obtain ⟨t2, h2, hu2⟩ := ht2
          simp only [Option.map_eq_some_iff] at hc
          obtain ⟨ty, hty, rfl⟩ := hc
          obtain ⟨us, hus, hvs⟩ := arg 0 s rfl
          obtain ⟨ux, hux, hvx⟩ := arg 1 x rfl
          simp only [opA] at h
          have hone : c.args.map a.eval = #[us, ux] := by
            apply Array.ext_getElem?
            intro i
            match i with
            | 0 => simpa using hus
            | 1 => simpa using hux
            | i + 2 => rw [Array.getElem?_eq_none (by rw [size]; simp), Array.getElem?_eq_none (by simp)]
          rw [exec (Builtin.append_ c.argTypes o.type (c.args.map a.eval)) rfl, hone]
          have happ : Builtin.append_ c.argTypes o.type #[us, ux] = Builtin.append_ #[t, t2] o.type #[us, ux] := by
            simp only [Builtin.append_, h0, h2]; rfl
          rw [happ]
          exact good_turn (appA_rel (P := P) hu hty hu2 (fun k e => hni k (by rw [e])) R o.type hvs hvx h)
        · cases hc
      ·
        rename_i hx0 d s e ht
        obtain ⟨t, h0, hu⟩ := at0 ht
        simp only [Option.map_eq_some_iff] at hc
        obtain ⟨ty, hty, rfl⟩ := hc
        obtain ⟨us, hus, hvs⟩ := arg 0 d rfl
        obtain ⟨ux, hux, hvx⟩ := arg 1 s rfl
        simp only [opA] at h
        have hone : c.args.map a.eval = #[us, ux] := by
          apply Array.ext_getElem?
          intro i
          match i with
          | 0 => simpa using hus
          | 1 => simpa using hux
          | i + 2 => rw [Array.getElem?_eq_none (by rw [size]; simp), Array.getElem?_eq_none (by simp)]
        rw [exec (Builtin.copy_ c.argTypes o.type (c.args.map a.eval)) rfl, hone]
        have hcp : Builtin.copy_ c.argTypes o.type #[us, ux] = Builtin.copy_ #[t, t] o.type #[us, ux] := by
          simp only [Builtin.copy_, h0]; rfl
        rw [hcp]
        exact good_turn (cpy_rel (P := P) R hu hty t o.type hvs hvx h)
      ·
        rename_i xs hxs
        cases hc
        simp only [opA] at h
        split at h
        · cases h
        · rename_i x rest
          simp only [Option.map_eq_some_iff] at h
          obtain ⟨v', hv', h⟩ := h
          cases h
          obtain ⟨u, hu0, hv⟩ := arg 0 x rfl
          obtain ⟨us, hus⟩ : ∃ us, (c.args.map a.eval).toList = u :: us := by
            cases hl : (c.args.map a.eval).toList with
            | nil => have : (c.args.map a.eval).size = 0 := by rw [← Array.length_toList, hl]; rfl
                     rw [size] at this; simp at this
            | cons y ys => have : (c.args.map a.eval).toList[0]? = some u := by simpa using hu0
                           rw [hl] at this; simp at this; exact ⟨ys, by rw [this]⟩
          have hlen : us.length = (rest.map env.ev).length := by
            have : (c.args.map a.eval).toList.length = us.length + 1 := by rw [hus]; rfl
            rw [Array.length_toList, size] at this; simp at this ⊢; omega
          obtain ⟨r, h1, h2⟩ := foldO_max (P := P) (rest.map env.ev) us (env.ev x) u hv hlen (fun i y z hy hz => hA.2 (i + 1) y z (by simpa using hy) (by
            have : (c.args.map a.eval).toList[i + 1]? = some z := by rw [hus]; simpa using hz
            simpa using this)) hv'
          rw [exec (Builtin.max_ c.argTypes o.type (c.args.map a.eval)) rfl]
          exact good_of R ⟨r, by simp only [Builtin.max_, hus]; exact h1, h2⟩
      ·
        rename_i xs hxs
        cases hc
        simp only [opA] at h
        split at h
        · cases h
        · rename_i x rest
          simp only [Option.map_eq_some_iff] at h
          obtain ⟨v', hv', h⟩ := h
          cases h
          obtain ⟨u, hu0, hv⟩ := arg 0 x rfl
          obtain ⟨us, hus⟩ : ∃ us, (c.args.map a.eval).toList = u :: us := by
            cases hl : (c.args.map a.eval).toList with
            | nil => have : (c.args.map a.eval).size = 0 := by rw [← Array.length_toList, hl]; rfl
                     rw [size] at this; simp at this
            | cons y ys => have : (c.args.map a.eval).toList[0]? = some u := by simpa using hu0
                           rw [hl] at this; simp at this; exact ⟨ys, by rw [this]⟩
          have hlen : us.length = (rest.map env.ev).length := by
            have : (c.args.map a.eval).toList.length = us.length + 1 := by rw [hus]; rfl
            rw [Array.length_toList, size] at this; simp at this ⊢; omega
          obtain ⟨r, h1, h2⟩ := foldO_min (P := P) (rest.map env.ev) us (env.ev x) u hv hlen (fun i y z hy hz => hA.2 (i + 1) y z (by simpa using hy) (by
            have : (c.args.map a.eval).toList[i + 1]? = some z := by rw [hus]; simpa using hz
            simpa using this)) hv'
          rw [exec (Builtin.min_ c.argTypes o.type (c.args.map a.eval)) rfl]
          exact good_of R ⟨r, by simp only [Builtin.min_, hus]; exact h1, h2⟩
      ·
        cases hc
        simp [opA] at h
      · cases hc
  ·
    rename_i c ho
    split at hc
    · simp only [Option.bind_eq_some_iff, Option.map_eq_some_iff] at hc
      obtain ⟨_, _, _, _, rfl⟩ := hc
      simp [opA] at h
    · cases hc
  ·
    rename_i x ho
    simp only [Option.map_eq_some_iff] at hc
    obtain ⟨_, _, rfl⟩ := hc
    simp [opA] at h
  · cases hc
end
end Go.Tc
namespace Go.Tc
set_option linter.unusedSimpArgs false
inductive AExit where
  | normal | exit (id : Nat) | goto (l : Nat) | ret | panic (v : AVal)
inductive AOut where
  | ret (v : AVal) | panic (v : AVal)
inductive ExitRel (ι : Nm) (ro : Ros) (w : World) : AExit → Exit → Prop
  | normal : ExitRel ι ro w .normal .normal
  | exit (id : Nat) : ExitRel ι ro w (.exit id) (.exit id)
  | goto (l : Nat) : ExitRel ι ro w (.goto l) (.goto l)
  | ret : ExitRel ι ro w .ret .ret
  | panic {v : AVal} {u : Value} (h : VRel ι ro w v u) : ExitRel ι ro w (.panic v) (.panic [{ v := u, recovered := false }])
inductive EndRel (ι : Nm) (ro : Ros) (w : World) : AOut → Ending → Prop
  | ret {v : AVal} {u : Value} (h : VRel ι ro w v u) : EndRel ι ro w (.ret v) (.returned u)
  | panic {v : AVal} {u : Value} (h : VRel ι ro w v u) : EndRel ι ro w (.panic v) (.panicked [{ v := u, recovered := false }])
def Upon (P : Program) (R : Ending → World → Prop) : Result Next → Prop
  | .ok (.value v) w' => R (.returned v) w'
  | .ok .skip w' => R (.returned undef) w'
  | .ok (.enter f args) w' => CallsIn Fence.wide 0 P f args w' R
  | .ok (.row row args) w' => RowsIn Fence.wide 0 P row args w' fun v w'' => R (.returned v) w''
  | .ok (.round l f tmps assign body) w' => RoundIn Fence.wide 0 P l f tmps assign body w' R
  | .halt (.panic v) w' => R (.panicked [{ v, recovered := false }]) w'
  | _ => False
theorem Upon.mono {P : Program} {R R' : Ending → World → Prop} (h : ∀ e w, R e w → R' e w) {x : Result Next} (hx : Upon P R x) : Upon P R' x := by
  cases x with
  | ok n w =>
    cases n <;> simp only [Upon] at hx ⊢
    · exact h _ _ hx
    · exact h _ _ hx
    · exact CallsIn.mono hx h
    · exact RoundIn.mono hx h
    · exact RowsIn.mono hx fun _ _ => h _ _
  | halt x w => cases x <;> simp only [Upon] at hx ⊢; exact h _ _ hx
def Met (ι : Nm) (ro : Ros) (σ : AHeap) (w : World) (out : AOut) (σ' : AHeap) (e : Ending) (w' : World) : Prop :=
  ∃ ι' ro', Later ι ro σ w ι' ro' σ' w' ∧ Rel ι' ro' σ' w' ∧ EndRel ι' ro' w' out e
def CallV (P : Program) (fv : AVal) (args : List AVal) (σ : AHeap) (out : AOut) (σ' : AHeap) : Prop :=
  ∀ ι ro w fu us, Rel ι ro σ w → VRel ι ro w fv fu → VRels ι ro w args us →
    Upon P (Met ι ro σ w out σ') ((do let d ← Deferred.ofValue fu us; invoke d.target d.args).run P w)
def RunV (P : Program) (fv : AVal) (args : List AVal) (σ : AHeap) (Q : AOut → AHeap → Prop) : Prop :=
  ∃ out σ', Q out σ' ∧ CallV P fv args σ out σ'
def CallI (P : Program) (rv : AVal) (name : String) (args : List AVal) (σ : AHeap) (out : AOut) (σ' : AHeap) : Prop :=
  ∀ ι ro w ru us, Rel ι ro σ w → VRel ι ro w rv ru → VRels ι ro w args us →
    Upon P (Met ι ro σ w out σ') ((invoke (.fn (.method name) #[]) (#[ru] ++ us)).run P w)
def RunI (P : Program) (rv : AVal) (name : String) (args : List AVal) (σ : AHeap) (Q : AOut → AHeap → Prop) : Prop :=
  ∃ out σ', Q out σ' ∧ CallI P rv name args σ out σ'
theorem RunV.mono {P : Program} {fv : AVal} {args : List AVal} {σ : AHeap} {Q Q' : AOut → AHeap → Prop} (h : RunV P fv args σ Q) (hq : ∀ o s, Q o s → Q' o s) : RunV P fv args σ Q' :=
  let ⟨o, s, q, r⟩ := h; ⟨o, s, hq _ _ q, r⟩
theorem RunI.mono {P : Program} {rv : AVal} {name : String} {args : List AVal} {σ : AHeap} {Q Q' : AOut → AHeap → Prop} (h : RunI P rv name args σ Q) (hq : ∀ o s, Q o s → Q' o s) : RunI P rv name args σ Q' :=
  let ⟨o, s, q, r⟩ := h; ⟨o, s, hq _ _ q, r⟩
def Fr (r : Option Nat) : Fence := { Fence.wide with round := r }
def RdOk (ι : Nm) : Option Nat → Option Nat → Prop
  | none, none => True
  | some L, some l => ι L = some (.obj l)
  | _, _ => False
theorem RdOk.later {ι ι' : Nm} (h : ∀ N l, ι N = some l → ι' N = some l) : ∀ {rd r : Option Nat}, RdOk ι rd r → RdOk ι' rd r
  | none, none, _ => trivial
  | some _, some _, k => h _ _ k
def outK (K X : AVal → AHeap → Prop) : AOut → AHeap → Prop
  | .ret v, σ => K v σ
  | .panic v, σ => X v σ
def OpW (P : Program) (ao : AOp) (env : AEnv) (σ : AHeap) (K X : AVal → AHeap → Prop) : Prop :=
  match ao with
  | .callF f args => RunV P (.func (.func f) [] []) (args.map env.ev) σ (outK K X)
  | .callV f args => RunV P (env.ev f) (args.map env.ev) σ (outK K X)
  | .callI x m args => RunI P (env.ev x) m (args.map env.ev) σ (outK K X)
  | .panic x => (match env.ev x with | .iface t v => X (.iface t v) σ | _ => False)
  | ao => (match opA ao env σ with | some (v, σ') => K v σ' | none => False)
def OpMet (P : Program) (o : Oper) (env : AEnv) (σ : AHeap) (out : AOut) (σ' : AHeap) : Prop :=
  ∀ ι ro w a r, Rel ι ro σ w → EnvRel ι ro w env a →
    ∀ (K : Act → World → Prop) (Q : Exit → Act → World → Prop),
      (∀ v, out = .ret v → ∀ ι' ro' u w', Later ι ro σ w ι' ro' σ' w' → Rel ι' ro' σ' w' → VRel ι' ro' w' v u → K (a.put o.dst u) w') →
      (∀ v, out = .panic v → ∀ ι' ro' u w', Later ι ro σ w ι' ro' σ' w' → Rel ι' ro' σ' w' → VRel ι' ro' w' v u → Q (.panic [{ v := u, recovered := false }]) a w') →
      o.wpIn (Fr r) 0 P a w K Q
theorem wpIn_of_upon {P : Program} {o : Oper} {r : Option Nat} {a : Act} {w : World} {R : Ending → World → Prop} {K : Act → World → Prop} {Q : Exit → Act → World → Prop}
    (hd : ∀ c, o.op ≠ .defer c) (h : Upon P R ((execOp a.eval o).run P w))
    (hK : ∀ u w', R (.returned u) w' → K (a.put o.dst u) w') (hQ : ∀ ch w', R (.panicked ch) w' → Q (.panic ch) a w') (hO : ∀ w', ¬ R .outgrown w') :
    o.wpIn (Fr r) 0 P a w K Q := by
  refine ⟨fun f _ => trivial, ?_⟩
  rw [Oper.semAt_eq _ _ _ hd]
  generalize (execOp a.eval o).run P w = x at h
  cases x with
  | ok n w' =>
    cases n <;> simp only [Upon] at h <;> simp only [Oper.uponIn]
    · exact hK _ _ h
    · exact hK _ _ h
    · refine ⟨fun hh => by simp [Fr, Fence.wide] at hh, ?_⟩
      refine CallsIn.mono (R := R) h fun e w'' he => ?_
      cases e with
      | returned v => exact hK _ _ he
      | panicked ch => exact hQ _ _ he
      | outgrown => exact absurd he (hO _)
    · refine ⟨fun hh => by simp [Fr, Fence.wide] at hh, ?_⟩
      refine RoundIn.mono (R := R) h fun e w'' he => ?_
      cases e with
      | returned v => exact hK _ _ he
      | panicked ch => exact hQ _ _ he
      | outgrown => exact absurd he (hO _)
    · refine ⟨fun hh => by simp [Fr, Fence.wide] at hh, ?_⟩
      exact RowsIn.mono h fun v w'' he => hK _ _ he
  | halt x w' => cases x <;> simp only [Upon] at h; simp only [Oper.uponIn]; exact hQ _ _ h
theorem opMet_of_upon {P : Program} {o : Oper} {env : AEnv} {σ σ' : AHeap} {out : AOut} (hd : ∀ c, o.op ≠ .defer c)
    (h : ∀ ι ro w a, Rel ι ro σ w → EnvRel ι ro w env a → Upon P (Met ι ro σ w out σ') ((execOp a.eval o).run P w)) : OpMet P o env σ out σ' := by
  intro ι ro w a r R E K Q hK hQ
  refine wpIn_of_upon hd (h ι ro w a R E) ?_ ?_ ?_
  · rintro u w' ⟨ι', ro', L, R', hE⟩
    generalize hx : (Ending.returned u) = e at hE
    cases hE with
    | ret hv => cases hx; exact hK _ rfl _ _ _ _ L R' hv
    | panic hv => cases hx
  · rintro ch w' ⟨ι', ro', L, R', hE⟩
    generalize hx : (Ending.panicked ch) = e at hE
    cases hE with
    | ret hv => cases hx
    | panic hv => cases hx; exact hQ _ rfl _ _ _ _ L R' hv
  · rintro w' ⟨ι', ro', L, R', hE⟩
    generalize hx : Ending.outgrown = e at hE
    cases hE <;> cases hx
theorem compOp_defer {P : Program} {n : Nat} {o : Oper} {ao : AOp} (h : compOp P n o = some ao) (hd : ∀ f args, ao ≠ .dfr f args) : ∀ c, o.op ≠ .defer c := by
  intro c hc
  unfold compOp at h
  rw [hc] at h
  simp only at h
  split at h
  · simp only [Option.bind_eq_some_iff, Option.map_eq_some_iff] at h
    obtain ⟨_, _, _, _, rfl⟩ := h
    exact hd _ _ rfl
  · cases h
theorem callMet {P : Program} {o : Oper} {c : Call} {n : Nat} (ho : o.op = .call c) {env : AEnv} (hn : env.n = n) {σ σ' : AHeap} {out : AOut} {f : Operand} {fv : AVal} {args : List Opnd}
    (hcal : c.callee = .value f) (hf : ∀ ι ro w a, EnvRel ι ro w env a → VRel ι ro w fv (a.eval f)) (ha : cOpnds n c.args.toList = some args)
    (h : CallV P fv (args.map env.ev) σ out σ') : OpMet P o env σ out σ' := by
  refine opMet_of_upon (by rw [ho]; simp) fun ι ro w a R E => ?_
  have hargs := evals_rel E (by rw [hn]; exact ha)
  have h2 := h ι ro w (a.eval f) (c.args.map a.eval) R (hf _ _ _ _ E) (by simpa [← Array.toList_map] using hargs)
  simpa only [execOp, ho, resolve, hcal] using h2
def isCall : AOp → Bool
  | .callF .. | .callV .. | .callI .. => true
  | _ => false
theorem compOp_call {P : Program} {n : Nat} {o : Oper} {ao : AOp} (hc : compOp P n o = some ao) (h : isCall ao = true) : ∃ c, o.op = .call c ∧ compCall P n c = some ao := by
  unfold compOp at hc
  split at hc <;> first | exact ⟨_, ‹_›, hc⟩ | skip
  all_goals exfalso
  all_goals
    repeat' (first
      | (simp only [Option.bind_eq_some_iff, Option.map_eq_some_iff] at hc)
      | (obtain ⟨_, _, hc⟩ := hc)
      | (simp [isCall] at h; done)
      | (cases hc; done)
      | (split at hc))
theorem compOp_panic {P : Program} {n : Nat} {o : Oper} {x : Opnd} (hc : compOp P n o = some (.panic x)) : ∃ y, o.op = .panic y ∧ cOpnd n y = some x := by
  unfold compOp at hc
  split at hc
  all_goals
    repeat' (first
      | (simp only [Option.bind_eq_some_iff, Option.map_eq_some_iff] at hc)
      | (cases hc; done)
      | (cases hc; exact ⟨_, ‹_›, ‹_›⟩)
      | (obtain ⟨_, _, hc⟩ := hc)
      | (split at hc))
  all_goals
    exfalso
    unfold compCall at hc
    repeat' (first
      | (simp only [Option.bind_eq_some_iff, Option.map_eq_some_iff] at hc)
      | (obtain ⟨_, _, hc⟩ := hc)
      | (cases hc; done)
      | (split at hc))
theorem compCall_cases {P : Program} {n : Nat} {c : Call} {ao : AOp} (hc : compCall P n c = some ao) (h : isCall ao = true) :
    ∃ args, cOpnds n c.args.toList = some args ∧
      ((∃ f, c.callee = .value (.func f) ∧ ao = .callF f args) ∨ (∃ x y, c.callee = .value x ∧ cOpnd n x = some y ∧ ao = .callV y args) ∨
       (∃ x y m, c.callee = .invoke x m ∧ cOpnd n x = some y ∧ ao = .callI y m args)) := by
  unfold compCall at hc
  simp only [Option.bind_eq_some_iff] at hc
  obtain ⟨zs, ha, hc⟩ := hc
  refine ⟨zs, ha, ?_⟩
  split at hc
  · rename_i g hcal
    split at hc
    · split at hc
      · cases hc; exact .inl ⟨g, hcal, rfl⟩
      · cases hc
    · cases hc
  · rename_i x _ hcal
    simp only [Option.map_eq_some_iff] at hc
    obtain ⟨y, hy, rfl⟩ := hc
    exact .inr (.inl ⟨x, y, hcal, hy, rfl⟩)
  · rename_i x m hcal
    simp only [Option.map_eq_some_iff] at hc
    obtain ⟨y, hy, rfl⟩ := hc
    exact .inr (.inr ⟨x, y, m, hcal, hy, rfl⟩)
  · exfalso
    repeat' (first
      | (simp only [Option.bind_eq_some_iff, Option.map_eq_some_iff] at hc)
      | (obtain ⟨_, _, hc⟩ := hc)
      | (simp [isCall] at h; done)
      | (cases hc; done)
      | (split at hc))
theorem op_sound {P : Program} {n : Nat} {o : Oper} {ao : AOp} (hc : compOp P n o = some ao) (hd : ∀ f args, ao ≠ .dfr f args) {env : AEnv} (hn : env.n = n) {σ : AHeap}
    {K X : AVal → AHeap → Prop} (h : OpW P ao env σ K X) : ∃ out σ', outK K X out σ' ∧ OpMet P o env σ out σ' := by
  have hnd := compOp_defer hc hd
  have plain : ∀ v σ', opA ao env σ = some (v, σ') → OpMet P o env σ (.ret v) σ' := by
    intro v σ' hv
    refine opMet_of_upon hnd fun ι ro w a R E => ?_
    obtain ⟨ι', ro', w', u, hrun, L, R', hvr⟩ := opA_rel hc hn hv R E
    rcases hrun with hrun | ⟨hrun, rfl⟩
    · rw [hrun]; exact ⟨ι', ro', L, R', .ret hvr⟩
    · rw [hrun]; exact ⟨ι', ro', L, R', .ret hvr⟩
  have generic : (match opA ao env σ with | some (v, σ') => K v σ' | none => False) → ∃ out σ', outK K X out σ' ∧ OpMet P o env σ out σ' := by
    intro h
    split at h
    · rename_i v σ' hv; exact ⟨.ret v, σ', h, plain v σ' hv⟩
    · exact h.elim
  unfold OpW at h
  split at h
  ·
    obtain ⟨c, ho, hcc⟩ := compOp_call hc rfl
    obtain ⟨zs, ha, h1⟩ := compCall_cases hcc rfl
    obtain ⟨out, σ', hq, hr⟩ := h
    refine ⟨out, σ', hq, ?_⟩
    rcases h1 with ⟨f, hcal, he⟩ | ⟨x, y, _, _, he⟩ | ⟨x, y, m, _, _, he⟩ <;> cases he
    exact callMet ho hn hcal (fun ι ro w a _ => .func (by simp) rfl rfl (by simp) (by simp)) ha hr
  · obtain ⟨c, ho, hcc⟩ := compOp_call hc rfl
    obtain ⟨zs, ha, h1⟩ := compCall_cases hcc rfl
    obtain ⟨out, σ', hq, hr⟩ := h
    refine ⟨out, σ', hq, ?_⟩
    rcases h1 with ⟨f, hcal, he⟩ | ⟨x, y, hcal, hy, he⟩ | ⟨x, y, m, _, _, he⟩ <;> cases he
    exact callMet ho hn hcal (fun ι ro w a E => eval_rel E (by rw [hn]; exact hy)) ha hr
  · obtain ⟨c, ho, hcc⟩ := compOp_call hc rfl
    obtain ⟨zs, ha, h1⟩ := compCall_cases hcc rfl
    obtain ⟨out, σ', hq, hr⟩ := h
    refine ⟨out, σ', hq, ?_⟩
    rcases h1 with ⟨f, hcal, he⟩ | ⟨x, y, hcal, hy, he⟩ | ⟨x, y, m, hcal, hy, he⟩ <;> cases he
    refine opMet_of_upon (by rw [ho]; simp) fun ι ro w a R E => ?_
    have hargs := evals_rel E (by rw [hn]; exact ha)
    have h2 := hr ι ro w (a.eval x) (c.args.map a.eval) R (eval_rel E (by rw [hn]; exact hy)) (by simpa [← Array.toList_map] using hargs)
    simpa only [execOp, ho, resolve, hcal, pure_bind] using h2
  · rename_i x
    obtain ⟨y, ho, hy⟩ := compOp_panic hc
    split at h
    · rename_i t v hx
      refine ⟨.panic _, σ, h, opMet_of_upon hnd fun ι ro w a R E => ?_⟩
      have hv := eval_rel E (show cOpnd env.n y = some x by rw [hn]; exact hy)
      rw [hx] at hv
      generalize hq : a.eval y = q at hv
      cases hv with
      | iface hv =>
        simp only [execOp, ho, hq, Instr.panic]
        exact ⟨ι, ro, .refl _ _ _ _, R, .panic (.iface hv)⟩
    · exact h.elim
  · exact generic h
end Go.Tc
