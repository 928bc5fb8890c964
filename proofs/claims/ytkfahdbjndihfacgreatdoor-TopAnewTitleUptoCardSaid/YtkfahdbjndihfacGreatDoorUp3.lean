/- Proved here: for every argument of bulk at most 1048576 TopAnewTitle answers true and leaves its argument as it was. (part 3 of 6.) -/
import Derived.Test.YtkfahdbjndihfacGreatDoorUp2
import Derived.Carry
import Derived.RowKit3
import Derived.ProofKit
import Derived.OpenShut
import Derived.Deep.Slices
set_option linter.unusedSimpArgs false
set_option linter.unusedVariables false
set_option linter.unnecessarySimpa false
namespace Go.Tc
set_option linter.unusedSimpArgs false
theorem outK_ret {K X : AVal → AHeap → Prop} {v : AVal} {σ : AHeap} : outK K X (.ret v) σ = K v σ := id rfl
theorem outK_panic {K X : AVal → AHeap → Prop} {v : AVal} {σ : AHeap} : outK K X (.panic v) σ = X v σ := id rfl
section
variable {α β : Type} {a d : α} {l l' : List α} {n : Nat}
theorem w_cond_true {b : α} : cond true a b = a := id rfl
theorem w_cond_false {b : α} : cond false a b = b := id rfl
theorem w_nil_append : [] ++ l = l := id rfl
theorem w_append_nil : l ++ [] = l := List.append_nil l
theorem w_cons_append : (a :: l) ++ l' = a :: (l ++ l') := id rfl
theorem w_getD0 : (a :: l).getD 0 d = a := id rfl
theorem w_getDs : (a :: l).getD (n + 1) d = l.getD n d := id rfl
theorem w_map_cons {f : α → β} : (a :: l).map f = f a :: l.map f := id rfl
theorem w_map_nil {f : α → β} : [].map f = [] := id rfl
theorem w_omap_some {f : α → β} : (some a).map f = some (f a) := id rfl
theorem w_omap_none {f : α → β} : (none : Option α).map f = none := id rfl
theorem w_get0 : (a :: l)[0]? = some a := id rfl
theorem w_gets : (a :: l)[n + 1]? = l[n]? := id rfl
theorem w_take0 : l.take 0 = [] := List.take_zero
theorem w_drop0 : l.drop 0 = l := id rfl
theorem w_takes : (a :: l).take (n + 1) = a :: l.take n := id rfl
theorem w_drops : (a :: l).drop (n + 1) = l.drop n := id rfl
theorem w_lenc : (a :: l).length = l.length + 1 := id rfl
theorem w_len0 : ([] : List α).length = 0 := id rfl
theorem w_contc {x y : Nat} {l : List Nat} : (x :: l).contains y = (y == x || l.contains y) := List.contains_cons
theorem w_cont0 {y : Nat} : ([] : List Nat).contains y = false := id rfl
end
def setL : List (Nat × AVal) → AEnv → AEnv
  | [], e => e
  | (n, v) :: l, e => (setL l e).set n v
def stOk : List (Nat × AVal) → AEnv → Prop
  | [], _ => True
  | (n, v) :: l, e => e.t n = v ∧ stOk l e
theorem setL_nil {e : AEnv} : setL [] e = e := id rfl
theorem setL_cons {n : Nat} {v : AVal} {l : List (Nat × AVal)} {e : AEnv} : setL ((n, v) :: l) e = (setL l e).set n v := id rfl
theorem stOk_nil {e : AEnv} : stOk [] e = True := id rfl
theorem stOk_cons {n : Nat} {v : AVal} {l : List (Nat × AVal)} {e : AEnv} : stOk ((n, v) :: l) e = (e.t n = v ∧ stOk l e) := id rfl
theorem CTL : type_of% (And.intro @L_nil (And.intro @L_guardK (And.intro @L_b2s (And.intro @A_skip (And.intro @A_seq (And.intro @A_ops (And.intro @A_ret (And.intro @A_exit (And.intro @A_block (And.intro @A_condK (And.intro @th_normal (And.intro @th_ret (And.intro @th_exit (And.intro @th_panic (And.intro @bl_normal (And.intro @bl_ret (And.intro @bl_panic (And.intro @bl_exit' (And.intro @L_mv (And.intro @L_pick (And.intro @L_build (And.intro @L_load (And.intro @L_nilck (And.intro @L_bin (And.intro @L_un (And.intro @L_conv (And.intro @L_mkI (And.intro @L_mkF (And.intro @L_slS (And.intro @L_slA (And.intro @L_fa (And.intro @L_fld (And.intro @L_ixA (And.intro @L_ixS (And.intro @L_ixStr (And.intro @L_look (And.intro @L_ext (And.intro @L_lenStr (And.intro @L_lenS (And.intro @L_lenM (And.intro @L_lenA (And.intro @L_mx (And.intro @L_mn (And.intro @L_alloc (And.intro @L_box (And.intro @L_store (And.intro @L_mkM (And.intro @L_mkS (And.intro @L_upd (And.intro @L_app (And.intro @L_cpy (And.intro @L_buildS (And.intro @L_callFK (And.intro @L_callVK (And.intro @A_loopK (And.intro @outK_ret (And.intro @outK_panic (And.intro @setL_nil (@setL_cons))))))))))))))))))))))))))))))))))))))))))))))))))))))))))) :=
  And.intro @L_nil (And.intro @L_guardK (And.intro @L_b2s (And.intro @A_skip (And.intro @A_seq (And.intro @A_ops (And.intro @A_ret (And.intro @A_exit (And.intro @A_block (And.intro @A_condK (And.intro @th_normal (And.intro @th_ret (And.intro @th_exit (And.intro @th_panic (And.intro @bl_normal (And.intro @bl_ret (And.intro @bl_panic (And.intro @bl_exit' (And.intro @L_mv (And.intro @L_pick (And.intro @L_build (And.intro @L_load (And.intro @L_nilck (And.intro @L_bin (And.intro @L_un (And.intro @L_conv (And.intro @L_mkI (And.intro @L_mkF (And.intro @L_slS (And.intro @L_slA (And.intro @L_fa (And.intro @L_fld (And.intro @L_ixA (And.intro @L_ixS (And.intro @L_ixStr (And.intro @L_look (And.intro @L_ext (And.intro @L_lenStr (And.intro @L_lenS (And.intro @L_lenM (And.intro @L_lenA (And.intro @L_mx (And.intro @L_mn (And.intro @L_alloc (And.intro @L_box (And.intro @L_store (And.intro @L_mkM (And.intro @L_mkS (And.intro @L_upd (And.intro @L_app (And.intro @L_cpy (And.intro @L_buildS (And.intro @L_callFK (And.intro @L_callVK (And.intro @A_loopK (And.intro @outK_ret (And.intro @outK_panic (And.intro @setL_nil (@setL_cons))))))))))))))))))))))))))))))))))))))))))))))))))))))))))
theorem VAL : type_of% (And.intro @ev_t (And.intro @ev_c (And.intro @ev_f (And.intro @put_some (And.intro @put_none (And.intro @set_get (And.intro @set_ds (And.intro @env0_get (And.intro @env0_ds (And.intro @setF_get (And.intro @setF_ds (And.intro @k1_some (And.intro @b_lss (And.intro @b_leq (And.intro @b_gtr (And.intro @b_geq (And.intro @b_eql (And.intro @b_neq (And.intro @b_add (And.intro @b_sub (And.intro @b_mul (And.intro @b_quo' (And.intro @b_rem' (And.intro @b_shr (And.intro @b_shl (And.intro @neg_int (And.intro @not_bool (And.intro @pick_true (And.intro @pick_false (And.intro @pick_pos (And.intro @pick_neg (And.intro @pick_or (And.intro @ixSV_int (And.intro @fldV_agg (And.intro @extV_tup (And.intro @convV_int (And.intro @maxI_int (And.intro @minI_int (And.intro @mkSV_int (And.intro @boxV_c (And.intro @boxV'_agg (And.intro @w_all_cons (And.intro @w_all_nil (And.intro @one_int (And.intro @one_bool (And.intro @one_str (And.intro @one_nilS (And.intro @one_nilP (And.intro @one_nilF (And.intro @one_nilM (And.intro @one_nilI (And.intro @one_ptr (And.intro @one_ms (And.intro @one_rs (And.intro @one_rptr (And.intro @one_map (And.intro @one_func (And.intro @one_iface (And.intro @one_yield (And.intro @one_agg (And.intro @w_set0 (And.intro @w_sets (And.intro @fillA_nil (And.intro @fillA_c (And.intro @fillA'_agg (And.intro @splice_eq (And.intro @storeO_c (And.intro @storeR_agg (And.intro @ble_z (And.intro @ble_s (And.intro @Bool.and_true (And.intro @Bool.true_and (And.intro @Bool.false_and (And.intro @Bool.and_false (And.intro @part1 (And.intro @partN' (And.intro @nil_eq_ms (And.intro @nil_eq_rs (And.intro @nil_eq_nil (And.intro @nilV_ptr (And.intro @nilV_rptr (And.intro @len_ms (And.intro @len_rs (And.intro @len_nil (And.intro @ix_ms (And.intro @ix_rs (And.intro @addr_ptr (And.intro @addr_rptr (And.intro @condK_true (And.intro @condK_false (And.intro @condK_pos (And.intro @condK_neg (And.intro @guardK_nf (And.intro @guardK_pf (And.intro @guardK_nt (And.intro @guardK_pt (And.intro @guardK_tt (And.intro @guardK_ff (And.intro @guardK_tf (And.intro @guardK_ft (And.intro @guardK_u (And.intro @dor (And.intro @dand (And.intro @dnot (And.intro @wrap_in (And.intro @load_ptr (And.intro @loadO_row (And.intro @store_ptr (And.intro @objs_a (And.intro @objs_s (And.intro @objsA_eq (And.intro @objsA_ne (And.intro @objs_k (And.intro @objsX_eq (And.intro @objsX_ne (And.intro @AHeap.next_kill (And.intro @set_set (And.intro @set_alloc (And.intro @alloc_set (And.intro @AHeap.next_alloc (And.intro @AHeap.next_set (And.intro @retA_normal (And.intro @retA_ret (And.intro @resAs_nil (And.intro @resAs_t (And.intro @resAs_cell (And.intro @resC_some (And.intro @tupA_one (And.intro @tupA_nil (And.intro @tupA_two (And.intro @w_cond_true (And.intro @w_cond_false (And.intro @w_nil_append (And.intro @w_append_nil (And.intro @w_cons_append (And.intro @w_getD0 (And.intro @w_getDs (And.intro @w_map_cons (And.intro @w_map_nil (And.intro @w_omap_some (And.intro @w_omap_none (And.intro @w_get0 (And.intro @w_gets (And.intro @w_take0 (And.intro @w_drop0 (And.intro @w_takes (And.intro @w_drops (And.intro @w_lenc (And.intro @w_len0 (And.intro @w_contc (And.intro @w_cont0 (And.intro @Bool.or_false (And.intro @Bool.false_or (And.intro @Bool.true_or (And.intro @Bool.or_true (And.intro @true_and (And.intro @and_true (And.intro @k2_some (And.intro @stOk_nil (@stOk_cons)))))))))))))))))))))))))))))))))))))))))))))))))))))))))))))))))))))))))))))))))))))))))))))))))))))))))))))))))))))))))))))))))))))))))))))))))))))))))))))))) :=
  And.intro @ev_t (And.intro @ev_c (And.intro @ev_f (And.intro @put_some (And.intro @put_none (And.intro @set_get (And.intro @set_ds (And.intro @env0_get (And.intro @env0_ds (And.intro @setF_get (And.intro @setF_ds (And.intro @k1_some (And.intro @b_lss (And.intro @b_leq (And.intro @b_gtr (And.intro @b_geq (And.intro @b_eql (And.intro @b_neq (And.intro @b_add (And.intro @b_sub (And.intro @b_mul (And.intro @b_quo' (And.intro @b_rem' (And.intro @b_shr (And.intro @b_shl (And.intro @neg_int (And.intro @not_bool (And.intro @pick_true (And.intro @pick_false (And.intro @pick_pos (And.intro @pick_neg (And.intro @pick_or (And.intro @ixSV_int (And.intro @fldV_agg (And.intro @extV_tup (And.intro @convV_int (And.intro @maxI_int (And.intro @minI_int (And.intro @mkSV_int (And.intro @boxV_c (And.intro @boxV'_agg (And.intro @w_all_cons (And.intro @w_all_nil (And.intro @one_int (And.intro @one_bool (And.intro @one_str (And.intro @one_nilS (And.intro @one_nilP (And.intro @one_nilF (And.intro @one_nilM (And.intro @one_nilI (And.intro @one_ptr (And.intro @one_ms (And.intro @one_rs (And.intro @one_rptr (And.intro @one_map (And.intro @one_func (And.intro @one_iface (And.intro @one_yield (And.intro @one_agg (And.intro @w_set0 (And.intro @w_sets (And.intro @fillA_nil (And.intro @fillA_c (And.intro @fillA'_agg (And.intro @splice_eq (And.intro @storeO_c (And.intro @storeR_agg (And.intro @ble_z (And.intro @ble_s (And.intro @Bool.and_true (And.intro @Bool.true_and (And.intro @Bool.false_and (And.intro @Bool.and_false (And.intro @part1 (And.intro @partN' (And.intro @nil_eq_ms (And.intro @nil_eq_rs (And.intro @nil_eq_nil (And.intro @nilV_ptr (And.intro @nilV_rptr (And.intro @len_ms (And.intro @len_rs (And.intro @len_nil (And.intro @ix_ms (And.intro @ix_rs (And.intro @addr_ptr (And.intro @addr_rptr (And.intro @condK_true (And.intro @condK_false (And.intro @condK_pos (And.intro @condK_neg (And.intro @guardK_nf (And.intro @guardK_pf (And.intro @guardK_nt (And.intro @guardK_pt (And.intro @guardK_tt (And.intro @guardK_ff (And.intro @guardK_tf (And.intro @guardK_ft (And.intro @guardK_u (And.intro @dor (And.intro @dand (And.intro @dnot (And.intro @wrap_in (And.intro @load_ptr (And.intro @loadO_row (And.intro @store_ptr (And.intro @objs_a (And.intro @objs_s (And.intro @objsA_eq (And.intro @objsA_ne (And.intro @objs_k (And.intro @objsX_eq (And.intro @objsX_ne (And.intro @AHeap.next_kill (And.intro @set_set (And.intro @set_alloc (And.intro @alloc_set (And.intro @AHeap.next_alloc (And.intro @AHeap.next_set (And.intro @retA_normal (And.intro @retA_ret (And.intro @resAs_nil (And.intro @resAs_t (And.intro @resAs_cell (And.intro @resC_some (And.intro @tupA_one (And.intro @tupA_nil (And.intro @tupA_two (And.intro @w_cond_true (And.intro @w_cond_false (And.intro @w_nil_append (And.intro @w_append_nil (And.intro @w_cons_append (And.intro @w_getD0 (And.intro @w_getDs (And.intro @w_map_cons (And.intro @w_map_nil (And.intro @w_omap_some (And.intro @w_omap_none (And.intro @w_get0 (And.intro @w_gets (And.intro @w_take0 (And.intro @w_drop0 (And.intro @w_takes (And.intro @w_drops (And.intro @w_lenc (And.intro @w_len0 (And.intro @w_contc (And.intro @w_cont0 (And.intro @Bool.or_false (And.intro @Bool.false_or (And.intro @Bool.true_or (And.intro @Bool.or_true (And.intro @true_and (And.intro @and_true (And.intro @k2_some (And.intro @stOk_nil (@stOk_cons)))))))))))))))))))))))))))))))))))))))))))))))))))))))))))))))))))))))))))))))))))))))))))))))))))))))))))))))))))))))))))))))))))))))))))))))))))))))))))))))
theorem setL_same : ∀ {l : List (Nat × AVal)} {e : AEnv}, stOk l e → setL l e = e
  | [], _, _ => rfl
  | (n, v) :: l, e, h => by
    rw [setL_cons, setL_same h.2]
    obtain ⟨k, t, ds⟩ := e
    have h1 : t n = v := h.1
    unfold AEnv.set
    congr 1
    funext i
    by_cases hi : i = n
    · subst hi; simp [h1]
    · simp [hi]
theorem exists_min {p : Nat → Prop} : ∀ n, p n → ∃ m, p m ∧ ∀ k, p k → m ≤ k := by
  intro n
  induction n using Nat.strongRecOn with
  | ind n ih =>
    intro hn
    by_cases h : ∃ k, k < n ∧ p k
    · obtain ⟨k, h1, h2⟩ := h
      exact ih k h1 h2
    · refine ⟨n, hn, fun k hk => ?_⟩
      apply Nat.le_of_not_lt
      intro hlt
      exact h ⟨k, hlt, hk⟩
theorem stOk_setF {l : List (Nat × AVal)} {e e' : AEnv} {ms : List Nat} (hk : l.all (fun p => ms.contains p.1) = true) (h : stOk l e') : stOk l (setF e ms e'.t) := by
  induction l with
  | nil => trivial
  | cons p l ih =>
    simp only [List.all_cons, Bool.and_eq_true] at hk
    refine ⟨?_, ih hk.2 h.2⟩
    rw [setF_get, hk.1]
    exact h.1
theorem A_loopV {P : Program} {c : ACode} {rd : Option Nat} {env : AEnv} {σ : AHeap} {Q : AExit → AEnv → AHeap → Prop} {α : Type} (ms : List Nat) (st : α → List (Nat × AVal)) (I : α → AHeap → Prop) (μ : α → Nat)
    (hms : (noDfr c && (modsOf c).all (fun t => ms.contains t)) = true) (hk : ∀ a, (st a).all (fun p => ms.contains p.1) = true) (h0 : ∃ a, stOk (st a) env ∧ I a σ)
    (hs : ∀ a f σ', I a σ' → wpA P c rd (setL (st a) (setF env ms f)) σ' (thenA (fun e2 s2 => ∃ a', stOk (st a') e2 ∧ I a' s2 ∧ μ a' < μ a) Q)) : loopK P c {} rd env σ Q {} := by
  have hrd : (noDfr c && (modsOf c).all (fun t => ms.contains t)) = true := hms
  simp only [Bool.and_eq_true] at hms
  obtain ⟨hd, hm⟩ := hms
  have hm' : ∀ t ∈ modsOf c, t ∈ ms := fun t ht => by have := List.all_eq_true.1 hm t ht; simpa using this
  let S : AEnv → AHeap → Nat → Prop := fun e s n => ∃ a, stOk (st a) e ∧ I a s ∧ μ a = n
  have hmin : ∀ e s, (∃ a, stOk (st a) e ∧ I a s) → ∃ m, S e s m ∧ ∀ k, S e s k → m ≤ k := fun e s ⟨a, h1, h2⟩ => exists_min (μ a) ⟨a, h1, h2, rfl⟩
  let μ' : AEnv → AHeap → Nat := fun e s => open Classical in if h : ∃ a, stOk (st a) e ∧ I a s then Classical.choose (hmin e s h) else 0
  have hμ : ∀ e s (h : ∃ a, stOk (st a) e ∧ I a s), S e s (μ' e s) ∧ ∀ k, S e s k → μ' e s ≤ k := by
    intro e s h
    have : μ' e s = Classical.choose (hmin e s h) := by simp only [μ', dif_pos h]
    rw [this]
    exact Classical.choose_spec (hmin e s h)
  refine ⟨fun e s => Un ms env e ∧ ∃ a, stOk (st a) e ∧ I a s, μ', ⟨.refl _ _, h0⟩, fun env' σ' hn hI => ?_⟩
  obtain ⟨⟨a, h1, h2, h3⟩, _⟩ := hμ env' σ' hI.2
  have he := hI.1.eqF
  have := hs a env'.t σ' h2
  rw [setL_same (stOk_setF (hk a) h1), ← he] at this
  refine wpA_un (ms := ms) (env0 := env) c rd env' σ' _ _ hd hm' hI.1 (fun e env2 s2 hu hq => ?_) this
  cases e with
  | normal =>
    obtain ⟨a', g1, g2, g3⟩ := hq
    refine ⟨⟨hu, a', g1, g2⟩, ?_⟩
    have := (hμ env2 s2 ⟨a', g1, g2⟩).2 _ ⟨a', g1, g2, rfl⟩
    omega
  | exit id => exact hq
  | goto l => exact hq
  | ret => exact hq
  | panic v => exact hq
end Go.Tc
namespace Go.Tc
def Ext (σ s : AHeap) : Prop := σ.next ≤ s.next ∧ ∀ N, N < σ.next → s.objs N = σ.objs N
theorem Ext.refl (σ : AHeap) : Ext σ σ := ⟨Nat.le_refl _, fun _ _ => rfl⟩
theorem Ext.trans {a b c : AHeap} (h : Ext a b) (k : Ext b c) : Ext a c := ⟨Nat.le_trans h.1 k.1, fun N hN => (k.2 N (Nat.lt_of_lt_of_le hN h.1)).trans (h.2 N hN)⟩
theorem Ext.alloc {a b : AHeap} (h : Ext a b) (o : AObj) : Ext a (b.alloc o) := ⟨Nat.le_succ_of_le h.1, fun N hN => by rw [objs_old (Nat.ne_of_lt (Nat.lt_of_lt_of_le hN h.1))]; exact h.2 N hN⟩
theorem Ext.set {a b : AHeap} (h : Ext a b) {M : Nat} (hM : a.next ≤ M) (o : AObj) : Ext a (b.set M o) := ⟨h.1, fun N hN => by rw [objs_else (by omega)]; exact h.2 N hN⟩
theorem Ext.kill {a b : AHeap} (h : Ext a b) {M : Nat} (hM : a.next ≤ M) : Ext a (b.kill M) := ⟨h.1, fun N hN => by rw [AHeap.objs_kill, if_neg (by omega)]; exact h.2 N hN⟩
theorem Ext.of_alloc {a b : AHeap} {o : AObj} (h : Ext (a.alloc o) b) : Ext a b := (Ext.alloc (.refl a) o).trans h
theorem Ext.one {σ s : AHeap} {o0 : AObj} (h : Ext (σ.alloc o0) s) : s.objs σ.next = some o0 ∧ σ.next + 1 ≤ s.next ∧ Ext σ s := by
  have h0 := h.1
  simp only [AHeap.next_alloc] at h0
  refine ⟨by rw [h.2 _ (by simp only [AHeap.next_alloc]; omega)]; simp (disch := omega) only [objs_a, objsA_eq, objsA_ne, AHeap.next_alloc], by omega, ?_⟩
  · exact Ext.trans (by repeat first | exact Ext.refl _ | refine Ext.alloc ?_ _) h
theorem Ext.two {σ s : AHeap} {o0 o1 : AObj} (h : Ext ((σ.alloc o0).alloc o1) s) : s.objs σ.next = some o0 ∧ s.objs (σ.next + 1) = some o1 ∧ σ.next + 2 ≤ s.next ∧ Ext σ s := by
  have h0 := h.1
  simp only [AHeap.next_alloc] at h0
  refine ⟨by rw [h.2 _ (by simp only [AHeap.next_alloc]; omega)]; simp (disch := omega) only [objs_a, objsA_eq, objsA_ne, AHeap.next_alloc], by rw [h.2 _ (by simp only [AHeap.next_alloc]; omega)]; simp (disch := omega) only [objs_a, objsA_eq, objsA_ne, AHeap.next_alloc], by omega, ?_⟩
  · exact Ext.trans (by repeat first | exact Ext.refl _ | refine Ext.alloc ?_ _) h
theorem Ext.three {σ s : AHeap} {o0 o1 o2 : AObj} (h : Ext (((σ.alloc o0).alloc o1).alloc o2) s) : s.objs σ.next = some o0 ∧ s.objs (σ.next + 1) = some o1 ∧ s.objs (σ.next + 2) = some o2 ∧ σ.next + 3 ≤ s.next ∧ Ext σ s := by
  have h0 := h.1
  simp only [AHeap.next_alloc] at h0
  refine ⟨by rw [h.2 _ (by simp only [AHeap.next_alloc]; omega)]; simp (disch := omega) only [objs_a, objsA_eq, objsA_ne, AHeap.next_alloc], by rw [h.2 _ (by simp only [AHeap.next_alloc]; omega)]; simp (disch := omega) only [objs_a, objsA_eq, objsA_ne, AHeap.next_alloc], by rw [h.2 _ (by simp only [AHeap.next_alloc]; omega)]; simp (disch := omega) only [objs_a, objsA_eq, objsA_ne, AHeap.next_alloc], by omega, ?_⟩
  · exact Ext.trans (by repeat first | exact Ext.refl _ | refine Ext.alloc ?_ _) h
theorem Ext.four {σ s : AHeap} {o0 o1 o2 o3 : AObj} (h : Ext ((((σ.alloc o0).alloc o1).alloc o2).alloc o3) s) : s.objs σ.next = some o0 ∧ s.objs (σ.next + 1) = some o1 ∧ s.objs (σ.next + 2) = some o2 ∧ s.objs (σ.next + 3) = some o3 ∧ σ.next + 4 ≤ s.next ∧ Ext σ s := by
  have h0 := h.1
  simp only [AHeap.next_alloc] at h0
  refine ⟨by rw [h.2 _ (by simp only [AHeap.next_alloc]; omega)]; simp (disch := omega) only [objs_a, objsA_eq, objsA_ne, AHeap.next_alloc], by rw [h.2 _ (by simp only [AHeap.next_alloc]; omega)]; simp (disch := omega) only [objs_a, objsA_eq, objsA_ne, AHeap.next_alloc], by rw [h.2 _ (by simp only [AHeap.next_alloc]; omega)]; simp (disch := omega) only [objs_a, objsA_eq, objsA_ne, AHeap.next_alloc], by rw [h.2 _ (by simp only [AHeap.next_alloc]; omega)]; simp (disch := omega) only [objs_a, objsA_eq, objsA_ne, AHeap.next_alloc], by omega, ?_⟩
  · exact Ext.trans (by repeat first | exact Ext.refl _ | refine Ext.alloc ?_ _) h
theorem Ext.five {σ s : AHeap} {o0 o1 o2 o3 o4 : AObj} (h : Ext (((((σ.alloc o0).alloc o1).alloc o2).alloc o3).alloc o4) s) : s.objs σ.next = some o0 ∧ s.objs (σ.next + 1) = some o1 ∧ s.objs (σ.next + 2) = some o2 ∧ s.objs (σ.next + 3) = some o3 ∧ s.objs (σ.next + 4) = some o4 ∧ σ.next + 5 ≤ s.next ∧ Ext σ s := by
  have h0 := h.1
  simp only [AHeap.next_alloc] at h0
  refine ⟨by rw [h.2 _ (by simp only [AHeap.next_alloc]; omega)]; simp (disch := omega) only [objs_a, objsA_eq, objsA_ne, AHeap.next_alloc], by rw [h.2 _ (by simp only [AHeap.next_alloc]; omega)]; simp (disch := omega) only [objs_a, objsA_eq, objsA_ne, AHeap.next_alloc], by rw [h.2 _ (by simp only [AHeap.next_alloc]; omega)]; simp (disch := omega) only [objs_a, objsA_eq, objsA_ne, AHeap.next_alloc], by rw [h.2 _ (by simp only [AHeap.next_alloc]; omega)]; simp (disch := omega) only [objs_a, objsA_eq, objsA_ne, AHeap.next_alloc], by rw [h.2 _ (by simp only [AHeap.next_alloc]; omega)]; simp (disch := omega) only [objs_a, objsA_eq, objsA_ne, AHeap.next_alloc], by omega, ?_⟩
  · exact Ext.trans (by repeat first | exact Ext.refl _ | refine Ext.alloc ?_ _) h
mutual
def scal : AVal → Bool
  | .bool _ => true
  | .int _ _ => true
  | .str _ => true
  | .nilS => true
  | .nilP => true
  | .agg vs => scals vs
  | .tup vs => scals vs
  | _ => false
def scals : List AVal → Bool
  | [] => true
  | v :: vs => scal v && scals vs
end
theorem frz_list {σ : AHeap} {n : Nat} : ∀ {vs : List AVal}, (∀ v ∈ vs, Frz σ n v v) → ∀ (i : Nat) v v', vs[i]? = some v → vs[i]? = some v' → Frz σ n v v' := by
  intro vs h i v v' h1 h2
  rw [h1] at h2; cases h2
  exact h v (List.mem_of_getElem? h1)
mutual
theorem scal_frz {σ : AHeap} {n : Nat} : ∀ v, scal v = true → Frz σ n v v
  | .bool b, _ => .bool b
  | .int k x, _ => .int k x
  | .str s, _ => .str s
  | .nilS, _ => .nilS
  | .nilP, _ => .nilP
  | .agg vs, h => .agg rfl (frz_list (scals_frz vs (by simpa [scal] using h)))
  | .tup vs, h => .tup rfl (frz_list (scals_frz vs (by simpa [scal] using h)))
theorem scals_frz {σ : AHeap} {n : Nat} : ∀ vs, scals vs = true → ∀ v ∈ vs, Frz σ n v v
  | [], _ => by simp
  | v :: vs, h => by
    simp only [scals, Bool.and_eq_true] at h
    intro x hx
    have h1 := scal_frz (σ := σ) (n := n) v h.1
    have h2 := scals_frz (σ := σ) (n := n) vs h.2
    rcases List.mem_cons.1 hx with h3 | hx
    · rw [h3]; exact h1
    · exact h2 x hx
end
theorem RunV.drop {P : Program} {fv : AVal} {args : List AVal} {σ : AHeap} {Q : AOut → AHeap → Prop}
    (h : RunV P fv args σ (fun o s => ∃ v, o = .ret v ∧ scal v = true ∧ Ext σ s ∧ Q (.ret v) σ)) : RunV P fv args σ Q :=
  RunV.pure (h.mono fun _ _ ⟨v, h1, h2, h3, h4⟩ => ⟨v, v, h1, scal_frz v h2, fun N _ hN hx => (h3.2 N hN).trans hx, h4⟩)
end Go.Tc
namespace Go.Tc
set_option linter.unusedSimpArgs false
structure HoldL (l : List AOper) : Type where
structure HoldA (l : List AOper) (σ : AHeap) : Type where
def drK (P : Program) (l : List AOper) (_ : HoldL l) (rd : Option Nat) (env : AEnv) (σ : AHeap) (Q : AExit → AEnv → AHeap → Prop) (_ : HoldQ Q) : Prop := wpA P (.dr l) rd env σ Q
def psOf (q : List Nat) (l : List AOper) (j k : Nat) : Bool := poss q l (ancs l []) j k
def allP {γ : Type} : List γ → (γ → Prop) → Prop
  | [], _ => True
  | a :: l, p => p a ∧ allP l p
theorem allP_iff {γ : Type} {l : List γ} {p : γ → Prop} : allP l p ↔ ∀ x ∈ l, p x := by
  induction l with
  | nil => simp [allP]
  | cons a l ih => simp [allP, ih]
theorem allP_eq {γ : Type} {l : List γ} {p : γ → Prop} : allP l p = ∀ x ∈ l, p x := propext allP_iff
theorem allP_nil {γ : Type} {p : γ → Prop} : allP [] p = True := id rfl
theorem allP_cons {γ : Type} {a : γ} {l : List γ} {p : γ → Prop} : allP (a :: l) p = (p a ∧ allP l p) := id rfl
structure HoldPs (ps : Nat → Nat → Bool) : Type where
def dK (P : Program) (q st : List Nat) (ps : Nat → Nat → Bool) (_ : HoldPs ps) (i : Nat) (l : List AOper) (env : AEnv) (σ : AHeap) (past : List (Nat × AHeap)) (pend : List (Nat × AOp × AEnv × AVal)) (K : AEnv → AHeap → Prop) (X : Nat → AVal → AHeap → Prop) : Prop :=
  wpDr P q st ps i l env σ past pend K X
def effW (q : Bool) (op : AOp) : Bool := match effOf q op with | .wr => true | _ => false
theorem ew_mv {q : Bool} {a0 : _} : effW q (.mv a0) = false := id rfl
theorem ew_pick {q : Bool} {a0 : _} {a1 : _} {a2 : _} : effW q (.pick a0 a1 a2) = false := id rfl
theorem ew_alloc {q : Bool} {a0 : _} : effW q (.alloc a0) = true := id rfl
theorem ew_box {q : Bool} {a0 : _} : effW q (.box a0) = true := id rfl
theorem ew_build {q : Bool} {a0 : _} {a1 : _} : effW q (.build a0 a1) = false := id rfl
theorem ew_buildS {q : Bool} {a0 : _} {a1 : _} {a2 : _} {a3 : _} : effW q (.buildS a0 a1 a2 a3) = true := id rfl
theorem ew_load {q : Bool} {a0 : _} {a1 : _} {a2 : _} : effW q (.load a0 a1 a2) = false := id rfl
theorem ew_store {q : Bool} {a0 : _} {a1 : _} {a2 : _} : effW q (.store a0 a1 a2) = true := id rfl
theorem ew_nilck {q : Bool} {a0 : _} : effW q (.nilck a0) = false := id rfl
theorem ew_bin {q : Bool} {a0 : _} {a1 : _} {a2 : _} {a3 : _} : effW q (.bin a0 a1 a2 a3) = false := id rfl
theorem ew_un {q : Bool} {a0 : _} {a1 : _} : effW q (.un a0 a1) = false := id rfl
theorem ew_conv {q : Bool} {a0 : _} {a1 : _} : effW q (.conv a0 a1) = false := id rfl
theorem ew_mkI {q : Bool} {a0 : _} {a1 : _} : effW q (.mkI a0 a1) = false := id rfl
theorem ew_mkF {q : Bool} {a0 : _} {a1 : _} {a2 : _} : effW q (.mkF a0 a1 a2) = false := id rfl
theorem ew_mkM {q : Bool} {a0 : _} : effW q (.mkM a0) = true := id rfl
theorem ew_mkS {q : Bool} {a0 : _} {a1 : _} {a2 : _} {a3 : _} : effW q (.mkS a0 a1 a2 a3) = true := id rfl
theorem ew_slS {q : Bool} {a0 : _} {a1 : _} {a2 : _} {a3 : _} {a4 : _} : effW q (.slS a0 a1 a2 a3 a4) = false := id rfl
theorem ew_slStr {q : Bool} {a0 : _} {a1 : _} {a2 : _} : effW q (.slStr a0 a1 a2) = false := id rfl
theorem ew_slA {q : Bool} {a0 : _} {a1 : _} {a2 : _} {a3 : _} {a4 : _} : effW q (.slA a0 a1 a2 a3 a4) = false := id rfl
theorem ew_fa {q : Bool} {a0 : _} {a1 : _} : effW q (.fa a0 a1) = false := id rfl
theorem ew_fld {q : Bool} {a0 : _} {a1 : _} {a2 : _} {a3 : _} : effW q (.fld a0 a1 a2 a3) = false := id rfl
theorem ew_ixA {q : Bool} {a0 : _} {a1 : _} {a2 : _} {a3 : _} : effW q (.ixA a0 a1 a2 a3) = false := id rfl
theorem ew_ixS {q : Bool} {a0 : _} {a1 : _} {a2 : _} : effW q (.ixS a0 a1 a2) = false := id rfl
theorem ew_ixV {q : Bool} {a0 : _} {a1 : _} {a2 : _} {a3 : _} {a4 : _} : effW q (.ixV a0 a1 a2 a3 a4) = false := id rfl
theorem ew_ixStr {q : Bool} {a0 : _} {a1 : _} : effW q (.ixStr a0 a1) = false := id rfl
theorem ew_look {q : Bool} {a0 : _} {a1 : _} {a2 : _} {a3 : _} {a4 : _} : effW q (.look a0 a1 a2 a3 a4) = false := id rfl
theorem ew_upd {q : Bool} {a0 : _} {a1 : _} {a2 : _} {a3 : _} : effW q (.upd a0 a1 a2 a3) = true := id rfl
theorem ew_del {q : Bool} {a0 : _} {a1 : _} {a2 : _} : effW q (.del a0 a1 a2) = true := id rfl
theorem ew_rngStr {q : Bool} {a0 : _} : effW q (.rngStr a0) = true := id rfl
theorem ew_nextStr {q : Bool} {a0 : _} : effW q (.nextStr a0) = true := id rfl
theorem ew_tas {q : Bool} {a0 : _} {a1 : _} {a2 : _} {a3 : _} : effW q (.tas a0 a1 a2 a3) = false := id rfl
theorem ew_ext {q : Bool} {a0 : _} {a1 : _} : effW q (.ext a0 a1) = false := id rfl
theorem ew_b2s {q : Bool} {a0 : _} : effW q (.b2s a0) = false := id rfl
theorem ew_lenStr {q : Bool} {a0 : _} : effW q (.lenStr a0) = false := id rfl
theorem ew_lenS {q : Bool} {a0 : _} : effW q (.lenS a0) = false := id rfl
theorem ew_lenM {q : Bool} {a0 : _} : effW q (.lenM a0) = false := id rfl
theorem ew_lenA {q : Bool} {a0 : _} : effW q (.lenA a0) = false := id rfl
theorem ew_app {q : Bool} {a0 : _} {a1 : _} {a2 : _} {a3 : _} : effW q (.app a0 a1 a2 a3) = true := id rfl
theorem ew_cpy {q : Bool} {a0 : _} {a1 : _} {a2 : _} : effW q (.cpy a0 a1 a2) = true := id rfl
theorem ew_mx {q : Bool} {a0 : _} : effW q (.mx a0) = false := id rfl
theorem ew_mn {q : Bool} {a0 : _} : effW q (.mn a0) = false := id rfl
theorem ew_panic {q : Bool} {a0 : _} : effW q (.panic a0) = true := id rfl
theorem ew_callF {q : Bool} {a0 : _} {a1 : _} : effW q (.callF a0 a1) = !q := by cases q <;> rfl
theorem ew_callV {q : Bool} {a0 : _} {a1 : _} : effW q (.callV a0 a1) = !q := by cases q <;> rfl
theorem ew_callI {q : Bool} {a0 : _} {a1 : _} {a2 : _} : effW q (.callI a0 a1 a2) = !q := by cases q <;> rfl
theorem EFW : type_of% (And.intro @ew_mv (And.intro @ew_pick (And.intro @ew_alloc (And.intro @ew_box (And.intro @ew_build (And.intro @ew_buildS (And.intro @ew_load (And.intro @ew_store (And.intro @ew_nilck (And.intro @ew_bin (And.intro @ew_un (And.intro @ew_conv (And.intro @ew_mkI (And.intro @ew_mkF (And.intro @ew_mkM (And.intro @ew_mkS (And.intro @ew_slS (And.intro @ew_slStr (And.intro @ew_slA (And.intro @ew_fa (And.intro @ew_fld (And.intro @ew_ixA (And.intro @ew_ixS (And.intro @ew_ixV (And.intro @ew_ixStr (And.intro @ew_look (And.intro @ew_upd (And.intro @ew_del (And.intro @ew_rngStr (And.intro @ew_nextStr (And.intro @ew_tas (And.intro @ew_ext (And.intro @ew_b2s (And.intro @ew_lenStr (And.intro @ew_lenS (And.intro @ew_lenM (And.intro @ew_lenA (And.intro @ew_app (And.intro @ew_cpy (And.intro @ew_mx (And.intro @ew_mn (And.intro @ew_panic (And.intro @ew_callF (And.intro @ew_callV (@ew_callI))))))))))))))))))))))))))))))))))))))))))))) := And.intro @ew_mv (And.intro @ew_pick (And.intro @ew_alloc (And.intro @ew_box (And.intro @ew_build (And.intro @ew_buildS (And.intro @ew_load (And.intro @ew_store (And.intro @ew_nilck (And.intro @ew_bin (And.intro @ew_un (And.intro @ew_conv (And.intro @ew_mkI (And.intro @ew_mkF (And.intro @ew_mkM (And.intro @ew_mkS (And.intro @ew_slS (And.intro @ew_slStr (And.intro @ew_slA (And.intro @ew_fa (And.intro @ew_fld (And.intro @ew_ixA (And.intro @ew_ixS (And.intro @ew_ixV (And.intro @ew_ixStr (And.intro @ew_look (And.intro @ew_upd (And.intro @ew_del (And.intro @ew_rngStr (And.intro @ew_nextStr (And.intro @ew_tas (And.intro @ew_ext (And.intro @ew_b2s (And.intro @ew_lenStr (And.intro @ew_lenS (And.intro @ew_lenM (And.intro @ew_lenA (And.intro @ew_app (And.intro @ew_cpy (And.intro @ew_mx (And.intro @ew_mn (And.intro @ew_panic (And.intro @ew_callF (And.intro @ew_callV (@ew_callI))))))))))))))))))))))))))))))))))))))))))))
section
variable {P : Program} {rd : Option Nat} {q st : List Nat} {ps : Nat → Nat → Bool} {i : Nat} {os l : List AOper} {d : Option Nat} {a : List Nat} {env : AEnv} {σ : AHeap} {past : List (Nat × AHeap)} {pend : List (Nat × AOp × AEnv × AVal)} {K : AEnv → AHeap → Prop} {X : Nat → AVal → AHeap → Prop} {Q : AExit → AEnv → AHeap → Prop}
theorem A_drK : wpA P (.dr l) rd env σ Q = drK P l {} rd env σ Q {} := id rfl
theorem dr_go (q st : List Nat) (h : drOk q st l = true) (hw : dK P q st (psOf q l) {} 0 l env σ [(0, σ)] [] (fun env' σ' => Q .normal env' σ') (fun i v σ' => panOk q l i = true ∧ Q (.panic v) (env.junk (dstsOf l)) σ')) : drK P l {} rd env σ Q {} := .inl ⟨q, st, h, hw⟩
theorem dg_go (q st : List Nat) (h : drOk q st (ghS l) = true) (hw : dK P q st (psOf q (ghS l)) {} 0 (ghL σ.next l) env (ghH σ l) [(0, ghH σ l)] [] (fun env' σ' => Q .normal env' σ') (fun i v σ' => panOk q (ghS l) i = true ∧ Q (.panic v) (env.junk (dstsOf l)) σ')) : drK P l {} rd env σ Q {} := .inr ⟨q, st, h, hw⟩
theorem ghL_nil {n : Nat} : ghL n [] = [] := id rfl
theorem ghH_nil : ghH σ [] = σ := id rfl
theorem same_load {g : Bool} {n : Nat} {x : Opnd} {v : AVal} : Same P (.load g n x) env σ v = (loadA σ g n (env.ev x) = some v) := by
  simp only [Same, OpW, o_load]
  cases loadA σ g n (env.ev x) <;> simp
theorem same_look {kt : KT} {z : AVal} {x y : Opnd} {ok : Bool} {v : AVal} : Same P (.look kt z x y ok) env σ v = (lookV σ kt z (env.ev x) (env.ev y) ok = some v) := by
  simp only [Same, OpW, p_look]
  cases lookV σ kt z (env.ev x) (env.ev y) ok <;> simp
def sameC (P : Program) (fv : AVal) (zs : List AVal) (σ : AHeap) (v : AVal) : Prop := RunV P fv zs σ (fun o s => o = .ret v ∧ s = σ)
theorem same_callF {f : FuncId} {xs : List Opnd} {v : AVal} : Same P (.callF f xs) env σ v = sameC P (.func (.func f) [] []) (xs.map env.ev) σ v := by
  simp only [Same, OpW, sameC]
  congr 1
  funext o s
  cases o <;> simp [outK]
theorem same_callV {f : Opnd} {xs : List Opnd} {v : AVal} : Same P (.callV f xs) env σ v = sameC P (env.ev f) (xs.map env.ev) σ v := by
  simp only [Same, OpW, sameC]
  congr 1
  funext o s
  cases o <;> simp [outK]
theorem DD_nil : dK P q st ps {} i [] env σ past pend K X = K env σ := id rfl
theorem DD_guardK {op : AOp} {t : Nat} {b : Bool} : dK P q st ps {} i (⟨d, op, some (t, b), a⟩ :: os) env σ past pend K X =
    guardK (env.t t) b (dK P q st ps {} i (⟨d, op, none, a⟩ :: os) env σ past pend K X)
      ((bif effW (q.contains i) op then allP pend (fun p => ps p.1 (i + 1) = true → Same P p.2.1 p.2.2.1 σ p.2.2.2) else True) ∧ dK P q st ps {} (i + 1) os (env.put d (.tup [])) σ (bif effW (q.contains i) op then (i + 1, σ) :: past else past) pend K X) {} {} := by
  have h1 : (effOf (q.contains i) op = .wr → ∀ p ∈ pend, ps p.1 (i + 1) = true → Same P p.2.1 p.2.2.1 σ p.2.2.2) = (bif effW (q.contains i) op then allP pend (fun p => ps p.1 (i + 1) = true → Same P p.2.1 p.2.2.1 σ p.2.2.2) else True) := by
    simp only [effW, allP_eq]
    cases effOf (q.contains i) op <;> simp
  have h2 : (if effOf (q.contains i) op = .wr then (i + 1, σ) :: past else past) = (bif effW (q.contains i) op then (i + 1, σ) :: past else past) := by
    simp only [effW]
    cases effOf (q.contains i) op <;> simp
  simp only [dK, wpDr, gOk, guardK, h1, h2]
  cases env.t t with
  | bool v => cases v <;> cases b <;> rfl
  | tup vs => cases vs <;> rfl
  | _ => rfl
theorem DD_rd {op : AOp} (h : plainOp op = true) (he : effOf (q.contains i) op = .rd) {o : Option AVal} (ho : opA op env σ = o.map (·, σ)) : dK P q st ps {} i (⟨d, op, none, a⟩ :: os) env σ past pend K X =
    k1 o σ (fun v _ => bif st.contains i then allP past (fun p => ps i p.1 = true → Same P op env p.2 v) ∧ dK P q st ps {} (i + 1) os (env.put d v) σ past ((i, op, env, v) :: pend) K X
      else dK P q st ps {} (i + 1) os (env.put d v) σ past pend K X) {} := by
  simp only [dK, wpDr, gOk, OpW_plain h, he, ho, isSt]
  cases o with
  | none => rfl
  | some v =>
    simp only [m2, k1, Option.map_some, allP_eq]
    cases st.contains i <;> simp
theorem DD_wr {op : AOp} (h : plainOp op = true) (he : effOf (q.contains i) op = .wr) {o : Option (AVal × AHeap)} (ho : opA op env σ = o) : dK P q st ps {} i (⟨d, op, none, a⟩ :: os) env σ past pend K X =
    k2 o (fun v σ' => allP pend (fun p => ps p.1 (i + 1) = true → Same P p.2.1 p.2.2.1 σ' p.2.2.2) ∧ dK P q st ps {} (i + 1) os (env.put d v) σ' ((i + 1, σ') :: past) pend K X) {} := by
  simp only [dK, D_wr h he, ho]
  cases o with
  | none => rfl
  | some v => simp only [m2, k2, allP_eq]
theorem DD_no {op : AOp} (h : plainOp op = true) (he : effOf (q.contains i) op = .no) {o : Option AVal} (ho : opA op env σ = o.map (·, σ)) : dK P q st ps {} i (⟨d, op, none, a⟩ :: os) env σ past pend K X =
    k1 o σ (fun v σ' => dK P q st ps {} (i + 1) os (env.put d v) σ' past pend K X) {} := by
  simp only [dK, D_no h he, ho, m2_k1]
theorem DD_callF {f : FuncId} {xs : List Opnd} : dK P q st ps {} i (⟨d, .callF f xs, none, a⟩ :: os) env σ past pend K X =
    callK P (.func (.func f) [] []) (xs.map env.ev) σ (fun v σ' => bif q.contains i then σ' = σ ∧ (bif st.contains i then allP past (fun p => ps i p.1 = true → Same P (.callF f xs) env p.2 v) ∧ dK P q st ps {} (i + 1) os (env.put d v) σ past ((i, .callF f xs, env, v) :: pend) K X
      else dK P q st ps {} (i + 1) os (env.put d v) σ past pend K X)
      else allP pend (fun p => ps p.1 (i + 1) = true → Same P p.2.1 p.2.2.1 σ' p.2.2.2) ∧ dK P q st ps {} (i + 1) os (env.put d v) σ' ((i + 1, σ') :: past) pend K X) (fun v σ' => X i v σ') {} {} := by
  simp only [dK, wpDr, gOk, OpW, callK]
  congr 1
  funext o s
  cases o with
  | panic v => rfl
  | ret v =>
    simp only [outK, effOf, isSt, allP_eq]
    by_cases hq : q.contains i = true
    · simp only [hq, if_true, cond_true]
      cases hs : st.contains i <;> simp
      all_goals
        intro h; subst h; simp
    · have hq' : q.contains i = false := by simpa using hq
      simp only [hq', cond_false, Bool.false_eq_true, if_false]
      simp
theorem DD_callV {f : Opnd} {xs : List Opnd} : dK P q st ps {} i (⟨d, .callV f xs, none, a⟩ :: os) env σ past pend K X =
    callK P (env.ev f) (xs.map env.ev) σ (fun v σ' => bif q.contains i then σ' = σ ∧ (bif st.contains i then allP past (fun p => ps i p.1 = true → Same P (.callV f xs) env p.2 v) ∧ dK P q st ps {} (i + 1) os (env.put d v) σ past ((i, .callV f xs, env, v) :: pend) K X
      else dK P q st ps {} (i + 1) os (env.put d v) σ past pend K X)
      else allP pend (fun p => ps p.1 (i + 1) = true → Same P p.2.1 p.2.2.1 σ' p.2.2.2) ∧ dK P q st ps {} (i + 1) os (env.put d v) σ' ((i + 1, σ') :: past) pend K X) (fun v σ' => X i v σ') {} {} := by
  simp only [dK, wpDr, gOk, OpW, callK]
  congr 1
  funext o s
  cases o with
  | panic v => rfl
  | ret v =>
    simp only [outK, effOf, isSt, allP_eq]
    by_cases hq : q.contains i = true
    · simp only [hq, if_true, cond_true]
      cases hs : st.contains i <;> simp
      all_goals
        intro h; subst h; simp
    · have hq' : q.contains i = false := by simpa using hq
      simp only [hq', cond_false, Bool.false_eq_true, if_false]
      simp
theorem D_mv' {x : Opnd} : dK P q st ps {} i (⟨d, .mv x, none, a⟩ :: os) env σ past pend K X = k1 (some (env.ev x)) σ (fun v σ' => dK P q st ps {} (i + 1) os (env.put d v) σ' past pend K X) {} :=
  DD_no pl_mv rfl (by rw [o_mv]; rfl)
theorem D_pick' {c x y : Opnd} : dK P q st ps {} i (⟨d, .pick c x y, none, a⟩ :: os) env σ past pend K X = k1 (pickV (env.ev c) (env.ev x) (env.ev y)) σ (fun v σ' => dK P q st ps {} (i + 1) os (env.put d v) σ' past pend K X) {} :=
  DD_no pl_pick rfl (by rw [p_pick])
theorem D_build' {z : List AVal} {parts : List (Nat × Nat × Opnd)} : dK P q st ps {} i (⟨d, .build z parts, none, a⟩ :: os) env σ past pend K X = k1 ((fillA z (parts.map fun p => (p.1, p.2.1, env.ev p.2.2))).map .agg) σ (fun v σ' => dK P q st ps {} (i + 1) os (env.put d v) σ' past pend K X) {} :=
  DD_no pl_build rfl (by rw [o_build])
theorem D_nilck' {x : Opnd} : dK P q st ps {} i (⟨d, .nilck x, none, a⟩ :: os) env σ past pend K X = k1 (nilV (env.ev x)) σ (fun v σ' => dK P q st ps {} (i + 1) os (env.put d v) σ' past pend K X) {} :=
  DD_no pl_nilck rfl (by rw [p_nilck])
theorem D_bin' {op : BinOp} {e : EqT} {x y : Opnd} : dK P q st ps {} i (⟨d, .bin op e x y, none, a⟩ :: os) env σ past pend K X = k1 (binA op e (env.ev x) (env.ev y)) σ (fun v σ' => dK P q st ps {} (i + 1) os (env.put d v) σ' past pend K X) {} :=
  DD_no pl_bin rfl (by rw [o_bin])
theorem D_un' {op : UnOp} {x : Opnd} : dK P q st ps {} i (⟨d, .un op x, none, a⟩ :: os) env σ past pend K X = k1 (unA op (env.ev x)) σ (fun v σ' => dK P q st ps {} (i + 1) os (env.put d v) σ' past pend K X) {} :=
  DD_no pl_un rfl (by rw [o_un])
theorem D_conv' {c : Cv} {x : Opnd} : dK P q st ps {} i (⟨d, .conv c x, none, a⟩ :: os) env σ past pend K X = k1 (convV c (env.ev x)) σ (fun v σ' => dK P q st ps {} (i + 1) os (env.put d v) σ' past pend K X) {} :=
  DD_no pl_conv rfl (by rw [p_conv])
theorem D_mkI' {t : TypeId} {x : Opnd} : dK P q st ps {} i (⟨d, .mkI t x, none, a⟩ :: os) env σ past pend K X = k1 (some (.iface t (env.ev x))) σ (fun v σ' => dK P q st ps {} (i + 1) os (env.put d v) σ' past pend K X) {} :=
  DD_no pl_mkI rfl (by rw [o_mkI]; rfl)
theorem D_mkF' {fn : Fn} {xs ys : List Opnd} : dK P q st ps {} i (⟨d, .mkF fn xs ys, none, a⟩ :: os) env σ past pend K X = k1 (some (.func fn (xs.map env.ev) (ys.map env.ev))) σ (fun v σ' => dK P q st ps {} (i + 1) os (env.put d v) σ' past pend K X) {} :=
  DD_no pl_mkF rfl (by rw [o_mkF]; rfl)
theorem D_slS' {m : Nat} {x : Opnd} {lo hi mx : Option Opnd} : dK P q st ps {} i (⟨d, .slS m x lo hi mx, none, a⟩ :: os) env σ past pend K X = k1 (sliceA m (env.ev x) (lo.map env.ev) (hi.map env.ev) (mx.map env.ev)) σ (fun v σ' => dK P q st ps {} (i + 1) os (env.put d v) σ' past pend K X) {} :=
  DD_no pl_slS rfl (by rw [o_slS])
theorem D_slA' {n m : Nat} {x : Opnd} : dK P q st ps {} i (⟨d, .slA n m x none none, none, a⟩ :: os) env σ past pend K X = k1 (slAA n m (env.ev x)) σ (fun v σ' => dK P q st ps {} (i + 1) os (env.put d v) σ' past pend K X) {} :=
  DD_no pl_slA rfl (by rw [p_slA])
theorem D_fa' {off : Nat} {x : Opnd} : dK P q st ps {} i (⟨d, .fa off x, none, a⟩ :: os) env σ past pend K X = k1 (addrOf off (env.ev x)) σ (fun v σ' => dK P q st ps {} (i + 1) os (env.put d v) σ' past pend K X) {} :=
  DD_no pl_fa rfl (by rw [o_fa])
theorem D_fld' {g : Bool} {n off : Nat} {x : Opnd} : dK P q st ps {} i (⟨d, .fld g n off x, none, a⟩ :: os) env σ past pend K X = k1 (fldV g n off (env.ev x)) σ (fun v σ' => dK P q st ps {} (i + 1) os (env.put d v) σ' past pend K X) {} :=
  DD_no pl_fld rfl (by rw [p_fld])
theorem D_ixA' {l m : Nat} {x j : Opnd} : dK P q st ps {} i (⟨d, .ixA l m x j, none, a⟩ :: os) env σ past pend K X = k1 (ixAV l m (env.ev x) (env.ev j)) σ (fun v σ' => dK P q st ps {} (i + 1) os (env.put d v) σ' past pend K X) {} :=
  DD_no pl_ixA rfl (by rw [p_ixA])
theorem D_ixS' {m : Nat} {x j : Opnd} : dK P q st ps {} i (⟨d, .ixS m x j, none, a⟩ :: os) env σ past pend K X = k1 (ixSV m (env.ev x) (env.ev j)) σ (fun v σ' => dK P q st ps {} (i + 1) os (env.put d v) σ' past pend K X) {} :=
  DD_no pl_ixS rfl (by rw [p_ixS])
theorem D_ixStr' {x j : Opnd} : dK P q st ps {} i (⟨d, .ixStr x j, none, a⟩ :: os) env σ past pend K X = k1 (ixStrV (env.ev x) (env.ev j)) σ (fun v σ' => dK P q st ps {} (i + 1) os (env.put d v) σ' past pend K X) {} :=
  DD_no pl_ixStr rfl (by rw [p_ixStr])
theorem D_ext' {x : Opnd} {j : Nat} : dK P q st ps {} i (⟨d, .ext x j, none, a⟩ :: os) env σ past pend K X = k1 (extV (env.ev x) j) σ (fun v σ' => dK P q st ps {} (i + 1) os (env.put d v) σ' past pend K X) {} :=
  DD_no pl_ext rfl (by rw [p_ext])
theorem D_lenStr' {x : Opnd} : dK P q st ps {} i (⟨d, .lenStr x, none, a⟩ :: os) env σ past pend K X = k1 (lenStrV (env.ev x)) σ (fun v σ' => dK P q st ps {} (i + 1) os (env.put d v) σ' past pend K X) {} :=
  DD_no pl_lenStr rfl (by rw [p_lenStr])
theorem D_lenS' {x : Opnd} : dK P q st ps {} i (⟨d, .lenS x, none, a⟩ :: os) env σ past pend K X = k1 ((lenOfS (env.ev x)).map fun n : Nat => AVal.int .i64 (n : Int)) σ (fun v σ' => dK P q st ps {} (i + 1) os (env.put d v) σ' past pend K X) {} :=
  DD_no pl_lenS rfl (by rw [o_lenS])
theorem D_lenA' {n : Nat} : dK P q st ps {} i (⟨d, .lenA n, none, a⟩ :: os) env σ past pend K X = k1 (some (.int .i64 n)) σ (fun v σ' => dK P q st ps {} (i + 1) os (env.put d v) σ' past pend K X) {} :=
  DD_no pl_lenA rfl (by rw [p_lenA]; rfl)
theorem D_mx' {x y : Opnd} : dK P q st ps {} i (⟨d, .mx [x, y], none, a⟩ :: os) env σ past pend K X = k1 (maxI (env.ev x) (env.ev y)) σ (fun v σ' => dK P q st ps {} (i + 1) os (env.put d v) σ' past pend K X) {} :=
  DD_no pl_mx rfl (by rw [p_mx2])
theorem D_mn' {x y : Opnd} : dK P q st ps {} i (⟨d, .mn [x, y], none, a⟩ :: os) env σ past pend K X = k1 (minI (env.ev x) (env.ev y)) σ (fun v σ' => dK P q st ps {} (i + 1) os (env.put d v) σ' past pend K X) {} :=
  DD_no pl_mn rfl (by rw [p_mn2])
theorem D_load' {g : Bool} {n : Nat} {x : Opnd} : dK P q st ps {} i (⟨d, .load g n x, none, a⟩ :: os) env σ past pend K X = k1 (loadA σ g n (env.ev x)) σ (fun v _ => bif st.contains i then allP past (fun p => ps i p.1 = true → Same P (.load g n x) env p.2 v) ∧ dK P q st ps {} (i + 1) os (env.put d v) σ past ((i, .load g n x, env, v) :: pend) K X
      else dK P q st ps {} (i + 1) os (env.put d v) σ past pend K X) {} :=
  DD_rd pl_load rfl (by rw [o_load])
theorem D_look' {kt : KT} {z : AVal} {x y : Opnd} {ok : Bool} : dK P q st ps {} i (⟨d, .look kt z x y ok, none, a⟩ :: os) env σ past pend K X = k1 (lookV σ kt z (env.ev x) (env.ev y) ok) σ (fun v _ => bif st.contains i then allP past (fun p => ps i p.1 = true → Same P (.look kt z x y ok) env p.2 v) ∧ dK P q st ps {} (i + 1) os (env.put d v) σ past ((i, .look kt z x y ok, env, v) :: pend) K X
      else dK P q st ps {} (i + 1) os (env.put d v) σ past pend K X) {} :=
  DD_rd pl_look rfl (by rw [p_look])
theorem D_lenM' {x : Opnd} : dK P q st ps {} i (⟨d, .lenM x, none, a⟩ :: os) env σ past pend K X = k1 ((mapLen σ (env.ev x)).map fun n : Nat => AVal.int .i64 (n : Int)) σ (fun v _ => bif st.contains i then allP past (fun p => ps i p.1 = true → Same P (.lenM x) env p.2 v) ∧ dK P q st ps {} (i + 1) os (env.put d v) σ past ((i, .lenM x, env, v) :: pend) K X
      else dK P q st ps {} (i + 1) os (env.put d v) σ past pend K X) {} :=
  DD_rd pl_lenM rfl (by rw [p_lenM])
theorem D_b2s' {x : Opnd} : dK P q st ps {} i (⟨d, .b2s x, none, a⟩ :: os) env σ past pend K X = k1 ((b2sA σ (env.ev x)).map AVal.str) σ (fun v _ => bif st.contains i then allP past (fun p => ps i p.1 = true → Same P (.b2s x) env p.2 v) ∧ dK P q st ps {} (i + 1) os (env.put d v) σ past ((i, .b2s x, env, v) :: pend) K X
      else dK P q st ps {} (i + 1) os (env.put d v) σ past pend K X) {} :=
  DD_rd pl_b2s rfl (by rw [p_b2s])
theorem D_alloc' {z : List AVal} : dK P q st ps {} i (⟨d, .alloc z, none, a⟩ :: os) env σ past pend K X = k2 (some (.ptr σ.next 0 0, σ.alloc (.cells z.length [z]))) (fun v σ' => allP pend (fun p => ps p.1 (i + 1) = true → Same P p.2.1 p.2.2.1 σ' p.2.2.2) ∧ dK P q st ps {} (i + 1) os (env.put d v) σ' ((i + 1, σ') :: past) pend K X) {} :=
  DD_wr pl_alloc rfl (by rw [o_alloc])
theorem D_box' {x : Opnd} : dK P q st ps {} i (⟨d, .box x, none, a⟩ :: os) env σ past pend K X = k2 (boxV (env.ev x) σ) (fun v σ' => allP pend (fun p => ps p.1 (i + 1) = true → Same P p.2.1 p.2.2.1 σ' p.2.2.2) ∧ dK P q st ps {} (i + 1) os (env.put d v) σ' ((i + 1, σ') :: past) pend K X) {} :=
  DD_wr pl_box rfl (by rw [p_box])
theorem D_store' {n : Nat} {x y : Opnd} : dK P q st ps {} i (⟨d, .store n x y, none, a⟩ :: os) env σ past pend K X = k2 ((storeA σ n (env.ev x) (env.ev y)).map (AVal.tup [], ·)) (fun v σ' => allP pend (fun p => ps p.1 (i + 1) = true → Same P p.2.1 p.2.2.1 σ' p.2.2.2) ∧ dK P q st ps {} (i + 1) os (env.put d v) σ' ((i + 1, σ') :: past) pend K X) {} :=
  DD_wr pl_store rfl (by rw [o_store])
theorem D_mkM' {kt : KT} : dK P q st ps {} i (⟨d, .mkM kt, none, a⟩ :: os) env σ past pend K X = k2 (some (.map σ.next, σ.alloc (.map kt (fun _ => none) 0))) (fun v σ' => allP pend (fun p => ps p.1 (i + 1) = true → Same P p.2.1 p.2.2.1 σ' p.2.2.2) ∧ dK P q st ps {} (i + 1) os (env.put d v) σ' ((i + 1, σ') :: past) pend K X) {} :=
  DD_wr pl_mkM rfl (by rw [o_mkM])
theorem D_mkS' {z : List AVal} {b : Nat} {l c : Opnd} : dK P q st ps {} i (⟨d, .mkS z b l c, none, a⟩ :: os) env σ past pend K X = k2 (mkSV z b (env.ev l) (env.ev c) σ) (fun v σ' => allP pend (fun p => ps p.1 (i + 1) = true → Same P p.2.1 p.2.2.1 σ' p.2.2.2) ∧ dK P q st ps {} (i + 1) os (env.put d v) σ' ((i + 1, σ') :: past) pend K X) {} :=
  DD_wr pl_mkS rfl (by rw [p_mkS])
theorem D_upd' {kt : KT} {m y x : Opnd} : dK P q st ps {} i (⟨d, .upd kt m y x, none, a⟩ :: os) env σ past pend K X = k2 (updV σ kt (env.ev m) (env.ev y) (env.ev x)) (fun v σ' => allP pend (fun p => ps p.1 (i + 1) = true → Same P p.2.1 p.2.2.1 σ' p.2.2.2) ∧ dK P q st ps {} (i + 1) os (env.put d v) σ' ((i + 1, σ') :: past) pend K X) {} :=
  DD_wr pl_upd rfl (by rw [p_upd])
theorem D_app' {m b : Nat} {s x : Opnd} : dK P q st ps {} i (⟨d, .app m b s x, none, a⟩ :: os) env σ past pend K X = k2 (appA σ m b (env.ev s) (env.ev x)) (fun v σ' => allP pend (fun p => ps p.1 (i + 1) = true → Same P p.2.1 p.2.2.1 σ' p.2.2.2) ∧ dK P q st ps {} (i + 1) os (env.put d v) σ' ((i + 1, σ') :: past) pend K X) {} :=
  DD_wr pl_app rfl (by rw [o_app])
theorem D_cpy' {m : Nat} {s x : Opnd} : dK P q st ps {} i (⟨d, .cpy m s x, none, a⟩ :: os) env σ past pend K X = k2 (cpyA σ m (env.ev s) (env.ev x)) (fun v σ' => allP pend (fun p => ps p.1 (i + 1) = true → Same P p.2.1 p.2.2.1 σ' p.2.2.2) ∧ dK P q st ps {} (i + 1) os (env.put d v) σ' ((i + 1, σ') :: past) pend K X) {} :=
  DD_wr pl_cpy rfl (by rw [o_cpy])
theorem D_buildS' {m : Nat} {z : List AVal} {len : Nat} {parts : List (Nat × Opnd)} : dK P q st ps {} i (⟨d, .buildS m z len parts, none, a⟩ :: os) env σ past pend K X = k2 ((fillRows m (List.replicate len z) (parts.map fun p => (p.1, env.ev p.2))).map (fun rows => (AVal.ms m σ.next 0 len true, σ.alloc (.cells m rows)))) (fun v σ' => allP pend (fun p => ps p.1 (i + 1) = true → Same P p.2.1 p.2.2.1 σ' p.2.2.2) ∧ dK P q st ps {} (i + 1) os (env.put d v) σ' ((i + 1, σ') :: past) pend K X) {} :=
  DD_wr pl_buildS rfl (by rw [p_buildS])
theorem imp_true {A : Prop} : (A → True) = True := by simp
end
theorem DRW : type_of% (And.intro @A_drK (And.intro @DD_nil (And.intro @D_b2s' (And.intro @DD_guardK (And.intro @DD_callF (And.intro @DD_callV (And.intro @D_mv' (And.intro @D_pick' (And.intro @D_build' (And.intro @D_nilck' (And.intro @D_bin' (And.intro @D_un' (And.intro @D_conv' (And.intro @D_mkI' (And.intro @D_mkF' (And.intro @D_slS' (And.intro @D_slA' (And.intro @D_fa' (And.intro @D_fld' (And.intro @D_ixA' (And.intro @D_ixS' (And.intro @D_ixStr' (And.intro @D_ext' (And.intro @D_lenStr' (And.intro @D_lenS' (And.intro @D_lenA' (And.intro @D_mx' (And.intro @D_mn' (And.intro @D_load' (And.intro @D_look' (And.intro @D_lenM' (And.intro @D_alloc' (And.intro @D_box' (And.intro @D_store' (And.intro @D_mkM' (And.intro @D_mkS' (And.intro @D_upd' (And.intro @D_app' (And.intro @D_cpy' (@D_buildS')))))))))))))))))))))))))))))))))))))))) :=
  And.intro @A_drK (And.intro @DD_nil (And.intro @D_b2s' (And.intro @DD_guardK (And.intro @DD_callF (And.intro @DD_callV (And.intro @D_mv' (And.intro @D_pick' (And.intro @D_build' (And.intro @D_nilck' (And.intro @D_bin' (And.intro @D_un' (And.intro @D_conv' (And.intro @D_mkI' (And.intro @D_mkF' (And.intro @D_slS' (And.intro @D_slA' (And.intro @D_fa' (And.intro @D_fld' (And.intro @D_ixA' (And.intro @D_ixS' (And.intro @D_ixStr' (And.intro @D_ext' (And.intro @D_lenStr' (And.intro @D_lenS' (And.intro @D_lenA' (And.intro @D_mx' (And.intro @D_mn' (And.intro @D_load' (And.intro @D_look' (And.intro @D_lenM' (And.intro @D_alloc' (And.intro @D_box' (And.intro @D_store' (And.intro @D_mkM' (And.intro @D_mkS' (And.intro @D_upd' (And.intro @D_app' (And.intro @D_cpy' (@D_buildS')))))))))))))))))))))))))))))))))))))))
theorem DRV : type_of% (And.intro EFW (And.intro @same_load (And.intro @same_look (And.intro @same_callF (And.intro @same_callV (And.intro @allP_nil (And.intro @allP_cons (@imp_true)))))))) :=
  And.intro EFW (And.intro @same_load (And.intro @same_look (And.intro @same_callF (And.intro @same_callV (And.intro @allP_nil (And.intro @allP_cons (@imp_true)))))))
end Go.Tc
namespace Go.Tc
set_option linter.unusedSimpArgs false
def elP (m : Nat) (v : AVal) (n : Int) (off : Nat) : AVal := ((ixSA m v n).bind (addrOf off)).getD .junk
structure TV {α : Type} [Inhabited α] (σ : AHeap) (m : Nat) (f : α → List AVal) (v : AVal) (l : List α) : Prop where
  sh : v = .nilS ∨ (∃ N i len ex, v = .ms m N i len ex) ∨ ∃ rows i len ex, v = .rs m rows i len ex
  len : lenOfS v = some l.length
  el : ∀ n : Int, 0 ≤ n → n < l.length → ∃ p, ixSA m v n = some p ∧ ((∃ N i k, p = .ptr N i k) ∨ ∃ m r i k, p = .rptr m r i k) ∧ ∀ off g k, ∃ q, addrOf off p = some q ∧ loadA σ g k q = partA g k off (f (l.getD n.toNat default))
theorem addr_addr {p q : AVal} {a b : Nat} (h : addrOf a p = some q) : addrOf b q = addrOf (a + b) p := by
  cases p <;> simp only [addrOf] at h <;> cases h
  · simp only [addrOf]; congr 2; omega
  · simp only [addrOf]; congr 2; omega
def slV (m : Nat) (v : AVal) (a b : Int) : AVal := (sliceA m v (some (.int .i64 a)) (some (.int .i64 b)) none).getD .junk
section
variable {α : Type} [Inhabited α] {σ : AHeap} {m : Nat} {f : α → List AVal} {v : AVal} {l : List α}
theorem TV.one (h : TV σ m f v l) : v.one = true := by
  rcases h.sh with rfl | ⟨_, _, _, _, rfl⟩ | ⟨_, _, _, _, rfl⟩ <;> rfl
theorem bound_in {k : IntKind} {x : Int} {d n : Nat} (h0 : 0 ≤ x) (h1 : x ≤ n) : bound (some (.int k x)) d n = some x.toNat := by simp only [bound]; rw [if_pos ⟨h0, h1⟩]
theorem sl_all {k k' : IntKind} {a b : Int} {n : Nat} (hv : v = .nilS ∧ n = 0 ∨ (∃ N i ex, v = .ms m N i n ex) ∨ ∃ rows i ex, v = .rs m rows i n ex) (h0 : 0 ≤ a) (h1 : a ≤ b) (h2 : b ≤ n) :
    (∃ u, sliceA m v (some (.int k a)) (some (.int k' b)) none = some u ∧ u = slV m v a b) ∧ (b = n → ∃ u, sliceA m v (some (.int k a)) none none = some u ∧ u = slV m v a b) ∧ (a = 0 → ∃ u, sliceA m v none (some (.int k b)) none = some u ∧ u = slV m v a b) := by
  have e1 : ∀ (q : IntKind) (d : Nat), bound (some (.int q a)) d b.toNat = some a.toNat := fun q d => bound_in h0 (by omega)
  have e2 : ∀ (q : IntKind) (d : Nat), bound (some (.int q b)) d n = some b.toNat := fun q d => bound_in (by omega) h2
  have e3 : ∀ (d e : Nat), bound none d e = some d := fun _ _ => rfl
  rcases hv with ⟨rfl, rfl⟩ | ⟨_, _, _, rfl⟩ | ⟨_, _, _, rfl⟩
  · have : a = 0 := by omega
    have : b = 0 := by omega
    subst a; subst b
    exact ⟨⟨_, rfl, rfl⟩, fun _ => ⟨_, rfl, rfl⟩, fun _ => ⟨_, rfl, rfl⟩⟩
  all_goals
    refine ⟨?_, fun hb => ?_, fun ha => ?_⟩
    · simp only [slV, sliceA, if_true, e1, e2, Option.bind_some, Option.map_some, Option.getD_some]; exact ⟨_, rfl, rfl⟩
    · have : n = b.toNat := by omega
      subst this
      simp only [slV, sliceA, if_true, e1, e2, e3, Option.bind_some, Option.map_some, Option.getD_some]; exact ⟨_, rfl, rfl⟩
    · subst ha
      have e4 : ∀ (q : IntKind) (d e : Nat), bound (some (.int q 0)) d e = some 0 := fun q d e => bound_in (Int.le_refl 0) (by omega)
      simp only [slV, sliceA, if_true, e2, e3, e4, Option.bind_some, Option.map_some, Option.getD_some]; exact ⟨_, rfl, rfl⟩
theorem TV.shn (h : TV σ m f v l) : v = .nilS ∧ l.length = 0 ∨ (∃ N i ex, v = .ms m N i l.length ex) ∨ ∃ rows i ex, v = .rs m rows i l.length ex := by
  have hl := h.len
  rcases h.sh with rfl | ⟨N, i, len, ex, rfl⟩ | ⟨rows, i, len, ex, rfl⟩ <;> simp only [lenOfS, Option.some.injEq] at hl
  · exact .inl ⟨rfl, hl.symm⟩
  · exact .inr (.inl ⟨N, i, ex, by rw [hl]⟩)
  · exact .inr (.inr ⟨rows, i, ex, by rw [hl]⟩)
theorem TV.sl (h : TV σ m f v l) {k k' : IntKind} {a b : Int} (h0 : 0 ≤ a) (h1 : a ≤ b) (h2 : b ≤ l.length) : sliceA m v (some (.int k a)) (some (.int k' b)) none = some (slV m v a b) := by
  obtain ⟨⟨u, hu, rfl⟩, _, _⟩ := sl_all (k := k) (k' := k') h.shn h0 h1 h2
  exact hu
theorem TV.sl_lo (h : TV σ m f v l) {k : IntKind} {a : Int} (h0 : 0 ≤ a) (h1 : a ≤ l.length) : sliceA m v (some (.int k a)) none none = some (slV m v a l.length) := by
  obtain ⟨_, hx, _⟩ := sl_all (k := k) (k' := k) h.shn h0 h1 (Int.le_refl _)
  obtain ⟨u, hu, rfl⟩ := hx rfl
  exact hu
theorem TV.sl_hi (h : TV σ m f v l) {k : IntKind} {b : Int} (h0 : 0 ≤ b) (h1 : b ≤ l.length) : sliceA m v none (some (.int k b)) none = some (slV m v 0 b) := by
  obtain ⟨_, _, hx⟩ := sl_all (k := k) (k' := k) h.shn (Int.le_refl 0) h0 h1
  obtain ⟨u, hu, rfl⟩ := hx rfl
  exact hu
theorem TV.ix (h : TV σ m f v l) {n : Int} (h0 : 0 ≤ n) (h1 : n < l.length) : ixSA m v n = some (elP m v n 0) := by
  obtain ⟨p, hp, hs, _⟩ := h.el n h0 h1
  rcases hs with ⟨N, i, k, rfl⟩ | ⟨m', r, i, k, rfl⟩ <;> simp [elP, hp, addrOf]
theorem TV.ad (h : TV σ m f v l) {n : Int} {off o2 : Nat} (h0 : 0 ≤ n) (h1 : n < l.length) : addrOf o2 (elP m v n off) = some (elP m v n (off + o2)) := by
  obtain ⟨p, hp, hs, _⟩ := h.el n h0 h1
  rcases hs with ⟨N, i, k, rfl⟩ | ⟨m', r, i, k, rfl⟩ <;> simp [elP, hp, addrOf, Nat.add_assoc]
theorem TV.ld (h : TV σ m f v l) {n : Int} {off k : Nat} {g : Bool} (h0 : 0 ≤ n) (h1 : n < l.length) : loadA σ g k (elP m v n off) = partA g k off (f (l.getD n.toNat default)) := by
  obtain ⟨p, hp, _, hl⟩ := h.el n h0 h1
  obtain ⟨q, hq, hl⟩ := hl off g k
  rw [← hl]; simp [elP, hp, hq]
theorem TV.nil : TV σ m f .nilS ([] : List α) := ⟨.inl rfl, rfl, fun n h0 h1 => by simp at h1; omega⟩
theorem TV.ms {N i len : Nat} {ex : Bool} {l0 : List α} (hN : σ.objs N = some (.cells m (l0.map f))) (h : i + len ≤ l0.length) (hl : l = (l0.drop i).take len) : TV σ m f (.ms m N i len ex) l := by
  subst hl
  have hlen : ((l0.drop i).take len).length = len := by simp; omega
  refine ⟨.inr (.inl ⟨_, _, _, _, rfl⟩), by rw [hlen]; rfl, fun n h0 h1 => ?_⟩
  rw [hlen] at h1
  refine ⟨.ptr N (i + n.toNat) 0, ix_ms h0 h1, .inl ⟨_, _, _, rfl⟩, fun off g k => ⟨_, rfl, ?_⟩⟩
  rw [load_ptr, hN, loadO_map (by omega), Nat.zero_add]
  have : ((l0.drop i).take len).getD n.toNat default = l0.getD (i + n.toNat) default := by
    simp only [List.getD_eq_getElem?_getD]
    rw [List.getElem?_take, if_pos (by omega), List.getElem?_drop]
  rw [this]
theorem TV.rs {i len : Nat} {ex : Bool} {l0 : List α} (h : i + len ≤ l0.length) (hl : l = (l0.drop i).take len) : TV σ m f (.rs m (l0.map f) i len ex) l := by
  subst hl
  have hlen : ((l0.drop i).take len).length = len := by simp; omega
  refine ⟨.inr (.inr ⟨_, _, _, _, rfl⟩), by rw [hlen]; rfl, fun n h0 h1 => ?_⟩
  rw [hlen] at h1
  refine ⟨.rptr m (l0.map f) (i + n.toNat) 0, ix_rs h0 h1, .inr ⟨_, _, _, _, rfl⟩, fun off g k => ⟨_, rfl, ?_⟩⟩
  have hlt : i + n.toNat < l0.length := by omega
  have : ((l0.drop i).take len).getD n.toNat default = l0.getD (i + n.toNat) default := by
    simp only [List.getD_eq_getElem?_getD]
    rw [List.getElem?_take, if_pos (by omega), List.getElem?_drop]
  simp only [loadA, Go.Tc.rowAt, List.getElem?_map, List.getElem?_eq_getElem hlt, Option.map_some, Nat.zero_add, this, List.getD_eq_getElem?_getD, Option.getD_some]
def RV (m : Nat) (f : α → List AVal) (v : AVal) (l : List α) : Prop := ∀ σ, TV σ m f v l
theorem RV.S (h : RV m f v l) : v.one = true ∧ lenOfS v = some l.length ∧ (∀ n : Int, 0 ≤ n → n < l.length → ixSA m v n = some (elP m v n 0)) ∧
    (∀ (n : Int) (a b : Nat), 0 ≤ n → n < l.length → addrOf b (elP m v n a) = some (elP m v n (a + b))) ∧
    (∀ (k : IntKind) (a : Int), 0 ≤ a → a ≤ l.length → sliceA m v (some (.int k a)) none none = some (slV m v a l.length)) ∧ (∀ (k : IntKind) (b : Int), 0 ≤ b → b ≤ l.length → sliceA m v none (some (.int k b)) none = some (slV m v 0 b)) ∧
    (∀ (k k' : IntKind) (a b : Int), 0 ≤ a → a ≤ b → b ≤ l.length → sliceA m v (some (.int k a)) (some (.int k' b)) none = some (slV m v a b)) ∧
    (∀ (σ : AHeap) (n : Int) (off k : Nat) (g : Bool), 0 ≤ n → n < l.length → loadA σ g k (elP m v n off) = partA g k off (f (l.getD n.toNat default))) :=
  ⟨(h ⟨fun _ => none, 0⟩).one, (h ⟨fun _ => none, 0⟩).len, fun _ h0 h1 => (h ⟨fun _ => none, 0⟩).ix h0 h1, fun _ _ _ h0 h1 => (h ⟨fun _ => none, 0⟩).ad h0 h1, fun _ _ h0 h1 => (h ⟨fun _ => none, 0⟩).sl_lo h0 h1, fun _ _ h0 h1 => (h ⟨fun _ => none, 0⟩).sl_hi h0 h1, fun _ _ _ _ h0 h1 h2 => (h ⟨fun _ => none, 0⟩).sl h0 h1 h2, fun σ _ _ _ _ h0 h1 => (h σ).ld h0 h1⟩
theorem TV.S (h : TV σ m f v l) : v.one = true ∧ lenOfS v = some l.length ∧ (∀ n : Int, 0 ≤ n → n < l.length → ixSA m v n = some (elP m v n 0)) ∧
    (∀ (n : Int) (a b : Nat), 0 ≤ n → n < l.length → addrOf b (elP m v n a) = some (elP m v n (a + b))) ∧
    (∀ (k : IntKind) (a : Int), 0 ≤ a → a ≤ l.length → sliceA m v (some (.int k a)) none none = some (slV m v a l.length)) ∧ (∀ (k : IntKind) (b : Int), 0 ≤ b → b ≤ l.length → sliceA m v none (some (.int k b)) none = some (slV m v 0 b)) ∧
    (∀ (k k' : IntKind) (a b : Int), 0 ≤ a → a ≤ b → b ≤ l.length → sliceA m v (some (.int k a)) (some (.int k' b)) none = some (slV m v a b)) ∧
    (∀ (n : Int) (off k : Nat) (g : Bool), 0 ≤ n → n < l.length → loadA σ g k (elP m v n off) = partA g k off (f (l.getD n.toNat default))) :=
  ⟨h.one, h.len, fun _ h0 h1 => h.ix h0 h1, fun _ _ _ h0 h1 => h.ad h0 h1, fun _ _ h0 h1 => h.sl_lo h0 h1, fun _ _ h0 h1 => h.sl_hi h0 h1, fun _ _ _ _ h0 h1 h2 => h.sl h0 h1 h2, fun _ _ _ _ h0 h1 => h.ld h0 h1⟩
theorem RV.nil : RV m f .nilS ([] : List α) := fun _ => .nil
theorem RV.rs {i len : Nat} {ex : Bool} {l0 : List α} (h : i + len ≤ l0.length) (hl : l = (l0.drop i).take len) : RV m f (.rs m (l0.map f) i len ex) l := fun _ => .rs h hl
theorem TV.of_ms {N i len : Nat} {ex : Bool} (h : TV σ m f (.ms m N i len ex) l) {j len' : Nat} {ex' : Bool} (hj : j + len' ≤ len) : TV σ m f (.ms m N (i + j) len' ex') ((l.drop j).take len') := by
  have hl := h.len
  simp only [lenOfS, Option.some.injEq] at hl
  refine ⟨.inr (.inl ⟨_, _, _, _, rfl⟩), by simp [lenOfS]; omega, fun n h0 h1 => ?_⟩
  have hn : n < len' := by simp at h1; omega
  obtain ⟨p, hp, _, hp2⟩ := h.el (n + j) (by omega) (by omega)
  rw [ix_ms (by omega) (by omega)] at hp
  cases hp
  refine ⟨_, ix_ms h0 hn, .inl ⟨_, _, _, rfl⟩, fun off g k => ?_⟩
  obtain ⟨q, hq, h3⟩ := hp2 off g k
  refine ⟨q, by rw [← hq]; congr 2; omega, h3.trans ?_⟩
  congr 2
  simp only [List.getD_eq_getElem?_getD]
  rw [List.getElem?_take, if_pos (by omega), List.getElem?_drop]
  congr 2; omega
theorem TV.of_rs {rows : List (List AVal)} {i len : Nat} {ex : Bool} (h : TV σ m f (.rs m rows i len ex) l) {j len' : Nat} {ex' : Bool} (hj : j + len' ≤ len) : TV σ m f (.rs m rows (i + j) len' ex') ((l.drop j).take len') := by
  have hl := h.len
  simp only [lenOfS, Option.some.injEq] at hl
  refine ⟨.inr (.inr ⟨_, _, _, _, rfl⟩), by simp [lenOfS]; omega, fun n h0 h1 => ?_⟩
  have hn : n < len' := by simp at h1; omega
  obtain ⟨p, hp, _, hp2⟩ := h.el (n + j) (by omega) (by omega)
  rw [ix_rs (by omega) (by omega)] at hp
  cases hp
  refine ⟨_, ix_rs h0 hn, .inr ⟨_, _, _, _, rfl⟩, fun off g k => ?_⟩
  obtain ⟨q, hq, h3⟩ := hp2 off g k
  refine ⟨q, by rw [← hq]; congr 2; omega, h3.trans ?_⟩
  congr 2
  simp only [List.getD_eq_getElem?_getD]
  rw [List.getElem?_take, if_pos (by omega), List.getElem?_drop]
  congr 2; omega
theorem TV.sub (h : TV σ m f v l) {a b : Int} (h0 : 0 ≤ a) (h1 : a ≤ b) (h2 : b ≤ l.length) : TV σ m f (slV m v a b) ((l.drop a.toNat).take (b - a).toNat) := by
  have hs := h.sl (k := .i64) (k' := .i64) h0 h1 h2
  rcases h.sh with rfl | ⟨_, _, _, _, rfl⟩ | ⟨_, _, _, _, rfl⟩
  · have hl := h.len
    simp only [lenOfS, Option.some.injEq] at hl
    have : l = [] := List.length_eq_zero_iff.1 hl.symm
    subst this
    have ha : a = 0 := by simp at h2; omega
    have hb : b = 0 := by simp at h2; omega
    subst ha; subst hb
    exact .nil
  all_goals
    have hl := h.len
    simp only [lenOfS, Option.some.injEq] at hl
    subst hl
    have : b.toNat - a.toNat = (b - a).toNat := by omega
    simp only [slV, sliceA, if_true, bound_in (show 0 ≤ b by omega) h2, bound_in h0 (show a ≤ (b.toNat : Nat) by omega), Option.bind_some, Option.map_some, Option.getD_some, this]
    first | exact h.of_ms (by omega) | exact h.of_rs (by omega)
theorem RV.sub (h : RV m f v l) {a b : Int} (h0 : 0 ≤ a) (h1 : a ≤ b) (h2 : b ≤ l.length) : RV m f (slV m v a b) ((l.drop a.toNat).take (b - a).toNat) := fun σ => (h σ).sub h0 h1 h2
theorem TV.keep {s : AHeap} (h : TV σ m f v l) (hs : ∀ n : Int, 0 ≤ n → n < l.length → ∀ p, ixSA m v n = some p → ∀ off q, addrOf off p = some q → ∀ g k, loadA s g k q = loadA σ g k q) : TV s m f v l := by
  refine ⟨h.sh, h.len, fun n h0 h1 => ?_⟩
  obtain ⟨p, hp, hsh, hl⟩ := h.el n h0 h1
  refine ⟨p, hp, hsh, fun off g k => ?_⟩
  obtain ⟨q, hq, hl⟩ := hl off g k
  exact ⟨q, hq, (hs n h0 h1 p hp off q hq g k).trans hl⟩
end
def rI (x : Int) : List AVal := [.int .i64 x]
theorem rI_eq {x : Int} : rI x = [.int .i64 x] := id rfl
end Go.Tc
namespace Go.Tc
set_option linter.unusedSimpArgs false
def outCode : ACode :=
 .seq (.ops [
   ⟨(some 6), .mv (.c (.bool false)), none, []⟩])
 (.seq (.ops [
   ⟨(some 7), .mv (.t 0), none, []⟩,
   ⟨(some 8), .mv (.t 1), none, []⟩,
   ⟨(some 9), .bin .lss .int (.t 7) (.t 8), none, []⟩,
   ⟨(some 10), .mv (.t 9), none, []⟩,
   ⟨(some 11), .mv (.t 0), (some (10, false)), []⟩,
   ⟨(some 12), .mv (.t 2), (some (10, false)), []⟩,
   ⟨(some 13), .bin .gtr .int (.t 11) (.t 12), (some (10, false)), []⟩,
   ⟨(some 14), .pick (.t 10) (.c (.bool true)) (.t 13), none, []⟩,
   ⟨(some 6), .mv (.t 14), none, []⟩])
 (.ret))
theorem out_spec {P : Program} (hP : P.follows .mixedOrders = true) {f : FuncId} (hk : compFunc P f = some (15, outCode, [.t 6])) (σ : AHeap) (a lo hi : Int) {Q : AOut → AHeap → Prop} (h : Q (.ret (.bool (decide (a < lo ∨ hi < a)))) σ) :
    RunV P (.func (.func f) [] []) [.int .i64 a, .int .i64 lo, .int .i64 hi] σ Q := by
  refine RunV.func hP hk (by simp) ?_
  simp (disch := omega) only [outCode, ↓CTL, VAL, Nat.reduceBEq]
  refine G_false (fun h1 => ?_) (fun h1 => ?_)
  · simp (disch := omega) only [↓CTL, VAL, Nat.reduceBEq]
    simpa [h1] using h
  · simp (disch := omega) only [↓CTL, VAL, Nat.reduceBEq]
    simpa [h1] using h
def idxFunc (g : Bool) (m : Nat) : ACode :=
 .seq (.ops [
   ⟨(some 4), .mv (.c (.int .i64 0)), none, []⟩])
 (.seq (.seq (.ops [
   ⟨(some 6), .mv (.t 0), none, []⟩,
   ⟨(some 7), .lenS (.t 6), none, []⟩,
   ⟨(some 8), .mv (.c (.int .i64 0)), none, []⟩])
 (.block 0 (.loop (.seq (.ops [
    ⟨(some 9), .bin .lss .int (.t 8) (.t 7), none, []⟩])
  (.seq (.cond (.t 9)
   (.skip)
   (.exit 0))
  (.seq (.block 1 (.seq (.ops [
    ⟨(some 10), .mv (.t 8), none, []⟩,
    ⟨(some 5), .mv (.t 10), none, []⟩])
  (.seq (.ops [
    ⟨(some 11), .mv (.t 1), none, []⟩,
    ⟨(some 12), .mv (.t 0), none, []⟩,
    ⟨(some 13), .mv (.t 5), none, []⟩,
    ⟨(some 14), .ixS m (.t 12) (.t 13), none, []⟩,
    ⟨(some 15), .load g m (.t 14), none, []⟩,
    ⟨(some 16), .callV (.t 11) [(.t 15)], none, []⟩])
  (.cond (.t 16)
   (.seq (.ops [
     ⟨(some 17), .mv (.t 5), none, []⟩,
     ⟨(some 4), .mv (.t 17), none, []⟩])
   (.ret))
   (.skip)))))
  (.ops [
    ⟨(some 18), .bin .add .int (.t 8) (.c (.int .i64 1)), none, []⟩,
    ⟨(some 8), .mv (.t 18), none, []⟩])))))))
 (.seq (.ops [
   ⟨(some 4), .mv (.c (.int .i64 (-1))), none, []⟩])
 (.ret)))
theorem RunV.bool {P : Program} {fv : AVal} {zs : List AVal} {σ : AHeap} (h : RunV P fv zs σ (fun o s => ∃ b, o = .ret (.bool b) ∧ s = σ)) : ∃ b, RunV P fv zs σ (fun o s => o = .ret (.bool b) ∧ s = σ) :=
  let ⟨o, s, ⟨b, h1, h2⟩, h3⟩ := h; ⟨b, o, s, ⟨h1, h2⟩, h3⟩
theorem indexFunc_spec {P : Program} (hP : P.follows .mixedOrders = true) {f : FuncId} {g : Bool} {m : Nat} (hk : compFunc P f = some (19, idxFunc g m, [.t 4])) {σ : AHeap} {v fv : AVal} {α : Type} [Inhabited α] {l : List α} {r : α → List AVal}
    (hv : TV σ m r v l) (hl : l.length ≤ 4611686018427387904) (el : α → AVal) (he : ∀ x, partA g m 0 (r x) = some (el x)) (p : α → Bool) (hf : ∀ x ∈ l, RunV P fv [el x] σ (fun o s => o = .ret (.bool (p x)) ∧ s = σ))
    {Q : AOut → AHeap → Prop} (hQ : ∀ n : Int, -1 ≤ n → n < l.length → (0 ≤ n → p (l.getD n.toNat default) = true) → (n < 0 → ∀ x ∈ l, p x = false) → Q (.ret (.int .i64 n)) σ) :
    RunV P (.func (.func f) [] []) [v, fv] σ Q := by
  refine RunV.func hP hk (by simp) ?_
  simp (disch := omega) only [idxFunc, ↓CTL, VAL, Nat.reduceBEq, Nat.reduceAdd, hv.S]
  refine A_loopV (α := Nat) [5, 8, 9, 10, 11, 12, 13, 14, 15, 16, 17, 4, 18] (fun i => [(8, .int .i64 i)]) (fun i s => s = σ ∧ i ≤ l.length ∧ ∀ j, j < i → p (l.getD j default) = false) (fun i => l.length - i) rfl (fun _ => rfl) ⟨0, ?_, rfl, Nat.zero_le _, fun j hj => absurd hj (Nat.not_lt_zero _)⟩ ?_
  · simp only [↓CTL, VAL, Nat.reduceBEq]; rfl
  · rintro i f _ ⟨rfl, hi, hpi⟩
    simp (disch := omega) only [↓CTL, VAL, Nat.reduceBEq, Nat.reduceAdd, hv.S]
    refine B_if (fun h1 => ?_) (fun h1 => ?_)
    · simp (disch := omega) only [↓CTL, VAL, Nat.reduceBEq, Nat.reduceAdd, hv.S, he, Int.toNat_natCast]
      have hmem : l.getD i default ∈ l := by
        rw [List.getD_eq_getElem?_getD, List.getElem?_eq_getElem (by omega)]; exact List.getElem_mem _
      refine (hf _ hmem).mono fun o s h => ?_
      obtain ⟨rfl, rfl⟩ := h
      simp (disch := omega) only [↓CTL, VAL, Nat.reduceBEq, Nat.reduceAdd]
      refine B_ifb (fun h2 => ?_) (fun h2 => ?_)
      · simp (disch := omega) only [↓CTL, VAL, Nat.reduceBEq, Nat.reduceAdd]
        exact hQ _ (by omega) (by omega) (fun _ => by simpa using h2) (fun h => by omega)
      · simp (disch := omega) only [↓CTL, VAL, Nat.reduceBEq, Nat.reduceAdd]
        refine ⟨i + 1, rfl, ⟨by omega, fun j hj => ?_⟩, by omega⟩
        rcases Nat.lt_or_eq_of_le (Nat.le_of_lt_succ hj) with h | rfl
        · exact hpi j h
        · exact h2
    · simp (disch := omega) only [↓CTL, VAL, Nat.reduceBEq, Nat.reduceAdd]
      refine hQ (-1) (by omega) (by omega) (fun h => by omega) (fun _ x hx => ?_)
      obtain ⟨j, hj, rfl⟩ := List.mem_iff_getElem.1 hx
      have := hpi j (by omega)
      rwa [List.getD_eq_getElem?_getD, List.getElem?_eq_getElem hj] at this
theorem indexFunc_any {P : Program} (hP : P.follows .mixedOrders = true) {f : FuncId} {g : Bool} {m : Nat} (hk : compFunc P f = some (19, idxFunc g m, [.t 4])) {σ : AHeap} {v fv : AVal} {α : Type} [Inhabited α] {l : List α} {r : α → List AVal}
    (hv : TV σ m r v l) (hl : l.length ≤ 4611686018427387904) (el : α → AVal) (he : ∀ x, partA g m 0 (r x) = some (el x)) (hf : ∀ x ∈ l, RunV P fv [el x] σ (fun o s => ∃ b, o = .ret (.bool b) ∧ s = σ))
    {Q : AOut → AHeap → Prop} (hQ : ∀ n : Int, -1 ≤ n → n < l.length → (n < 0 → -1 = n) → Q (.ret (.int .i64 n)) σ) : RunV P (.func (.func f) [] []) [v, fv] σ Q := by
  have : ∀ x, ∃ b, x ∈ l → RunV P fv [el x] σ (fun o s => o = .ret (.bool b) ∧ s = σ) := fun x => by
    by_cases h : x ∈ l
    · obtain ⟨b, hb⟩ := (hf x h).bool
      exact ⟨b, fun _ => hb⟩
    · exact ⟨true, fun h' => absurd h' h⟩
  exact indexFunc_spec hP hk hv hl el he (fun x => Classical.choose (this x)) (fun x hx => Classical.choose_spec (this x) hx) fun n h1 h2 _ _ => hQ n h1 h2 (by omega)
theorem indexFunc_inv {P : Program} (hP : P.follows .mixedOrders = true) {f : FuncId} {g : Bool} {m : Nat} (hk : compFunc P f = some (19, idxFunc g m, [.t 4])) {σ : AHeap} {v fv : AVal} {α : Type} [Inhabited α] {l : List α} {r : α → List AVal}
    (J : AHeap → Prop) (hv : ∀ s, J s → TV s m r v l) (h0 : J σ) (hl : l.length ≤ 4611686018427387904) (el : α → AVal) (he : ∀ x, partA g m 0 (r x) = some (el x)) (hf : ∀ s, ∀ x ∈ l, J s → RunV P fv [el x] s (fun o s' => (∃ b, o = .ret (.bool b)) ∧ J s'))
    {Q : AOut → AHeap → Prop} (hQ : ∀ (n : Int) s, -1 ≤ n → n < l.length → J s → Q (.ret (.int .i64 n)) s) :
    RunV P (.func (.func f) [] []) [v, fv] σ Q := by
  refine RunV.func hP hk (by simp) ?_
  simp (disch := omega) only [idxFunc, ↓CTL, VAL, Nat.reduceBEq, Nat.reduceAdd, (hv σ h0).S]
  refine A_loopV (α := Nat) [5, 8, 9, 10, 11, 12, 13, 14, 15, 16, 17, 4, 18] (fun i => [(8, .int .i64 i)]) (fun i s => i ≤ l.length ∧ J s) (fun i => l.length - i) rfl (fun _ => rfl) ⟨0, ?_, Nat.zero_le _, h0⟩ ?_
  · simp only [↓CTL, VAL, Nat.reduceBEq]; rfl
  · rintro i f s ⟨hi, hJ⟩
    have hvs := (hv s hJ).S
    simp (disch := omega) only [↓CTL, VAL, Nat.reduceBEq, Nat.reduceAdd, hvs]
    refine B_if (fun h1 => ?_) (fun h1 => ?_)
    · simp (disch := omega) only [↓CTL, VAL, Nat.reduceBEq, Nat.reduceAdd, hvs, he, Int.toNat_natCast]
      have hmem : l.getD i default ∈ l := by
        rw [List.getD_eq_getElem?_getD, List.getElem?_eq_getElem (by omega)]; exact List.getElem_mem _
      refine (hf s _ hmem hJ).mono fun o s' h => ?_
      obtain ⟨⟨b, rfl⟩, hJ'⟩ := h
      simp (disch := omega) only [↓CTL, VAL, Nat.reduceBEq, Nat.reduceAdd]
      refine B_ifb (fun h2 => ?_) (fun h2 => ?_)
      · simp (disch := omega) only [↓CTL, VAL, Nat.reduceBEq, Nat.reduceAdd]
        exact hQ _ _ (by omega) (by omega) hJ'
      · simp (disch := omega) only [↓CTL, VAL, Nat.reduceBEq, Nat.reduceAdd]
        exact ⟨i + 1, rfl, ⟨by omega, hJ'⟩, by omega⟩
    · simp (disch := omega) only [↓CTL, VAL, Nat.reduceBEq, Nat.reduceAdd]
      exact hQ (-1) _ (by omega) (by omega) hJ
def contFunc (i : FuncId) : ACode :=
 .seq (.ops [
   ⟨(some 4), .mv (.c (.bool false)), none, []⟩])
 (.seq (.ops [
   ⟨(some 5), .mv (.t 0), none, []⟩,
   ⟨(some 6), .mv (.t 1), none, []⟩,
   ⟨(some 7), .callF i [(.t 5), (.t 6)], none, []⟩,
   ⟨(some 8), .bin .geq .int (.t 7) (.c (.int .i64 0)), none, []⟩,
   ⟨(some 4), .mv (.t 8), none, []⟩])
 (.ret))
theorem containsFunc_spec {P : Program} (hP : P.follows .mixedOrders = true) {f i : FuncId} (hk : compFunc P f = some (9, contFunc i, [.t 4])) {g : Bool} {m : Nat} (hi : compFunc P i = some (19, idxFunc g m, [.t 4])) {σ : AHeap} {v fv : AVal} {α : Type} [Inhabited α] {l : List α} {r : α → List AVal}
    (hv : TV σ m r v l) (hl : l.length ≤ 4611686018427387904) (el : α → AVal) (he : ∀ x, partA g m 0 (r x) = some (el x)) (p : α → Bool) (hf : ∀ x ∈ l, RunV P fv [el x] σ (fun o s => o = .ret (.bool (p x)) ∧ s = σ))
    {Q : AOut → AHeap → Prop} (hQ : Q (.ret (.bool (l.any p))) σ) : RunV P (.func (.func f) [] []) [v, fv] σ Q := by
  refine RunV.func hP hk (by simp) ?_
  simp (disch := omega) only [contFunc, ↓CTL, VAL, Nat.reduceBEq, Nat.reduceAdd]
  refine indexFunc_spec hP hi hv hl el he p hf fun n h1 h2 h3 h4 => ?_
  simp (disch := omega) only [↓CTL, VAL, Nat.reduceBEq, Nat.reduceAdd]
  have : decide (0 ≤ n) = l.any p := by
    by_cases h : 0 ≤ n
    · rw [decide_eq_true h]
      symm
      rw [List.any_eq_true]
      refine ⟨_, ?_, h3 h⟩
      rw [List.getD_eq_getElem?_getD, List.getElem?_eq_getElem (by omega)]; exact List.getElem_mem _
    · rw [decide_eq_false h]
      symm
      rw [List.any_eq_false]
      intro x hx
      rw [h4 (by omega) x hx]; exact Bool.false_ne_true
  rw [this]
  exact hQ
theorem containsFunc_any {P : Program} (hP : P.follows .mixedOrders = true) {f i : FuncId} (hk : compFunc P f = some (9, contFunc i, [.t 4])) {g : Bool} {m : Nat} (hi : compFunc P i = some (19, idxFunc g m, [.t 4])) {σ : AHeap} {v fv : AVal} {α : Type} [Inhabited α] {l : List α} {r : α → List AVal}
    (hv : TV σ m r v l) (hl : l.length ≤ 4611686018427387904) (el : α → AVal) (he : ∀ x, partA g m 0 (r x) = some (el x)) (hf : ∀ x ∈ l, RunV P fv [el x] σ (fun o s => ∃ b, o = .ret (.bool b) ∧ s = σ))
    {Q : AOut → AHeap → Prop} (hQ : ∀ b, Q (.ret (.bool b)) σ) : RunV P (.func (.func f) [] []) [v, fv] σ Q := by
  have : ∀ x, ∃ b, x ∈ l → RunV P fv [el x] σ (fun o s => o = .ret (.bool b) ∧ s = σ) := fun x => by
    by_cases h : x ∈ l
    · obtain ⟨b, hb⟩ := (hf x h).bool
      exact ⟨b, fun _ => hb⟩
    · exact ⟨true, fun h' => absurd h' h⟩
  exact containsFunc_spec hP hk hi hv hl el he (fun x => Classical.choose (this x)) (fun x hx => Classical.choose_spec (this x) hx) (hQ _)
theorem containsFunc_inv {P : Program} (hP : P.follows .mixedOrders = true) {f i : FuncId} (hk : compFunc P f = some (9, contFunc i, [.t 4])) {g : Bool} {m : Nat} (hi : compFunc P i = some (19, idxFunc g m, [.t 4])) {σ : AHeap} {v fv : AVal} {α : Type} [Inhabited α] {l : List α} {r : α → List AVal}
    (J : AHeap → Prop) (hv : ∀ s, J s → TV s m r v l) (h0 : J σ) (hl : l.length ≤ 4611686018427387904) (el : α → AVal) (he : ∀ x, partA g m 0 (r x) = some (el x)) (hf : ∀ s, ∀ x ∈ l, J s → RunV P fv [el x] s (fun o s' => (∃ b, o = .ret (.bool b)) ∧ J s'))
    {Q : AOut → AHeap → Prop} (hQ : ∀ b s, J s → Q (.ret (.bool b)) s) : RunV P (.func (.func f) [] []) [v, fv] σ Q := by
  refine RunV.func hP hk (by simp) ?_
  simp (disch := omega) only [contFunc, ↓CTL, VAL, Nat.reduceBEq, Nat.reduceAdd]
  refine indexFunc_inv hP hi J hv h0 hl el he hf fun n s h1 h2 h3 => ?_
  simp (disch := omega) only [↓CTL, VAL, Nat.reduceBEq, Nat.reduceAdd]
  exact hQ _ _ h3
def cloneCode (m : Nat) (z : List AVal) (bytes : Nat) : ACode :=
 .seq (.ops [
   ⟨(some 2), .mv (.c .nilS), none, []⟩])
 (.seq (.seq (.ops [
   ⟨(some 3), .mv (.t 0), none, []⟩,
   ⟨(some 4), .bin .eql .slice (.t 3) (.c .nilS), none, []⟩])
 (.cond (.t 4)
  (.seq (.ops [
    ⟨(some 2), .mv (.c .nilS), none, []⟩])
  (.ret))
  (.skip)))
 (.seq (.ops [
   ⟨(some 5), .buildS m z 0 [], none, []⟩,
   ⟨(some 6), .mv (.t 0), none, []⟩,
   ⟨(some 7), .app m bytes (.t 5) (.t 6), none, []⟩,
   ⟨(some 2), .mv (.t 7), none, []⟩])
 (.ret)))
end Go.Tc
namespace Go.Tc
set_option linter.unusedSimpArgs false
def OwnS {α : Type} (s : AHeap) (b m : Nat) (f : α → List AVal) (v : AVal) (l : List α) : Prop :=
  (v = .nilS ∧ l = []) ∨ ∃ N ex, v = .ms m N 0 l.length ex ∧ b ≤ N ∧ N < s.next ∧ s.objs N = some (.cells m (l.map f))
def Off (v : AVal) (M : Nat) : Prop := ∀ m i len ex, v ≠ .ms m M i len ex
section
variable {α : Type} {s s' : AHeap} {b m : Nat} {f : α → List AVal} {v : AVal} {l : List α}
theorem OwnS.nil : OwnS s b m f .nilS ([] : List α) := .inl ⟨rfl, rfl⟩
theorem OwnS.keep (h : OwnS s b m f v l) (hn : s.next ≤ s'.next) (hk : ∀ M, b ≤ M → M < s.next → ¬ Off v M → s'.objs M = s.objs M) : OwnS s' b m f v l := by
  rcases h with h | ⟨N, ex, rfl, h1, h2, h3⟩
  · exact .inl h
  · refine .inr ⟨N, ex, rfl, h1, Nat.lt_of_lt_of_le h2 hn, ?_⟩
    rw [hk N h1 h2 fun h => h _ _ _ _ rfl]; exact h3
theorem OwnS.weak (h : OwnS s b m f v l) {c : Nat} (hc : c ≤ b) : OwnS s c m f v l := by
  rcases h with h | ⟨N, ex, h0, h1, h2, h3⟩
  · exact .inl h
  · exact .inr ⟨N, ex, h0, Nat.le_trans hc h1, h2, h3⟩
theorem OwnS.ext (h : OwnS s b m f v l) (hE : Ext s s') : OwnS s' b m f v l := h.keep hE.1 fun M _ hM _ => hE.2 M hM
theorem OwnS.alloc (h : OwnS s b m f v l) (o : AObj) : OwnS (s.alloc o) b m f v l := h.ext ((Ext.refl _).alloc _)
theorem OwnS.set (h : OwnS s b m f v l) {M : Nat} (hM : Off v M) (o : AObj) : OwnS (s.set M o) b m f v l := by
  refine h.keep (Nat.le_refl _) fun K _ _ hK => ?_
  rw [objs_else]
  rintro rfl
  exact hK hM
theorem OwnS.kill (h : OwnS s b m f v l) {M : Nat} (hM : Off v M) : OwnS (s.kill M) b m f v l := by
  refine h.keep (Nat.le_refl _) fun K _ _ hK => ?_
  rw [AHeap.objs_kill, if_neg]
  rintro rfl
  exact hK hM
theorem OwnS.tv [Inhabited α] (h : OwnS s b m f v l) : TV s m f v l := by
  rcases h with ⟨rfl, rfl⟩ | ⟨N, ex, rfl, h1, h2, h3⟩
  · exact .nil
  · exact .ms h3 (by omega) (by simp)
theorem OwnS.one (h : OwnS s b m f v l) : v.one = true := by
  rcases h with ⟨rfl, rfl⟩ | ⟨N, ex, rfl, h1, h2, h3⟩ <;> rfl
theorem OwnS.len (h : OwnS s b m f v l) : lenOfS v = some l.length := by
  rcases h with ⟨rfl, rfl⟩ | ⟨N, ex, rfl, h1, h2, h3⟩ <;> rfl
theorem OwnS.off_new (h : OwnS s b m f v l) {M : Nat} (hM : s.next ≤ M) : Off v M := by
  rcases h with ⟨rfl, rfl⟩ | ⟨N, ex, rfl, h1, h2, h3⟩
  · intro _ _ _ _ h; cases h
  · intro _ _ _ _ h; cases h; omega
theorem OwnS.off_old (h : OwnS s b m f v l) {M : Nat} (hM : M < b) : Off v M := by
  rcases h with ⟨rfl, rfl⟩ | ⟨N, ex, rfl, h1, h2, h3⟩
  · intro _ _ _ _ h; cases h
  · intro _ _ _ _ h; cases h; omega
theorem OwnS.elems (h : OwnS s b m f v l) : elems s m v = some (l.map f) := by
  rcases h with ⟨rfl, rfl⟩ | ⟨N, ex, rfl, h1, h2, h3⟩
  · rfl
  · simp only [Go.Tc.elems, if_true]
    by_cases h0 : l.length = 0
    · rw [if_pos h0, List.length_eq_zero_iff.1 h0]; rfl
    · rw [if_neg h0, h3]
      simp only [List.length_map, Nat.zero_add, Nat.le_refl, if_true, List.drop_zero]
      rw [List.take_of_length_le (by simp)]
theorem OwnS.app (h : OwnS s b m f v l) {bytes : Nat} {w : AVal} {xs : List α} (hw : Go.Tc.elems s m w = some (xs.map f)) (hb : b ≤ s.next) (hs : sumLen l.length xs.length bytes = true) :
    ∃ v' s', appA s m bytes v w = some (v', s') ∧ OwnS s' b m f v' (l ++ xs) ∧ s.next ≤ s'.next ∧ (∀ M, M < s.next → Off v M → s'.objs M = s.objs M) ∧ (∀ M, M < s.next → Off v M → Off v' M) := by
  have hel := h.elems
  by_cases hx : xs.length = 0
  · have : xs = [] := List.length_eq_zero_iff.1 hx
    subst this
    refine ⟨v, s, ?_, by simpa using h, Nat.le_refl _, fun _ _ _ => rfl, fun _ _ h => h⟩
    rcases h with ⟨rfl, rfl⟩ | ⟨N, ex, rfl, h1, h2, h3⟩ <;> simp [appA, hw]
  · have hxm : (xs.map f).length ≠ 0 := by simpa using hx
    rcases h with ⟨rfl, rfl⟩ | ⟨N, ex, rfl, h1, h2, h3⟩
    · have hs' : sumLen 0 (xs.map f).length bytes = true := by simpa using hs
      refine ⟨.ms m s.next 0 (xs.map f).length false, s.alloc (.cells m (xs.map f)), by simp only [appA, hw, if_neg hxm, hs', if_true], .inr ⟨s.next, false, by simp, hb, by simp, by rw [objs_new rfl]; simp⟩, by simp,
        fun M hM _ => objs_old (by omega), fun M hM _ _ _ _ _ h => by cases h; omega⟩
    · have hs' : sumLen l.length (xs.map f).length bytes = true := by simpa using hs
      cases ex with
      | true =>
        refine ⟨.ms m s.next 0 (l.length + (xs.map f).length) false, s.alloc (.cells m (l.map f ++ xs.map f)), by simp only [appA, hw, if_neg hxm, h3, hel, hs', and_self, if_true], .inr ⟨s.next, false, by simp, hb, by simp, by rw [objs_new rfl]; simp⟩, by simp,
          fun M hM _ => objs_old (by omega), fun M hM _ _ _ _ _ h => by cases h; omega⟩
      | false =>
        refine ⟨.ms m s.next 0 (l.length + (xs.map f).length) false, (s.kill N).alloc (.cells m (l.map f ++ xs.map f)), by simp only [appA, hw, if_neg hxm, h3, hel, hs', and_self, if_true]; rfl, .inr ⟨s.next, false, by simp, hb, by simp, by rw [objs_new (σ := s.kill N) (N := s.next) rfl]; simp⟩, by simp,
          fun M hM hO => ?_, fun M hM _ _ _ _ _ h => by cases h; omega⟩
        rw [objs_old (by simpa using Nat.ne_of_lt hM), AHeap.objs_kill, if_neg]
        rintro rfl
        exact hO _ _ _ _ rfl
theorem sumLen_ok {a c bytes : Nat} (h : (a + c) * bytes ≤ 70368744177664) (h2 : a + c ≤ 4611686018427387904) : sumLen a c bytes = true := by simp [sumLen, h, h2]
theorem elems_one {N : Nat} {row : List AVal} {ex : Bool} (h : s.objs N = some (.cells m [row])) : Go.Tc.elems s m (.ms m N 0 1 ex) = some [row] := by
  simp [Go.Tc.elems, h]
end
theorem fillRows_nil {m : Nat} {rows : List (List AVal)} : fillRows m rows [] = some rows := id rfl
theorem fillRows_agg {m i : Nat} {rows : List (List AVal)} {vs : List AVal} {rest : List (Nat × AVal)} :
    fillRows m rows ((i, .agg vs) :: rest) = bif vs.length == m && Nat.ble (i + 1) rows.length && vs.all AVal.one then fillRows m (rows.set i vs) rest else none := by
  exact ite_bif (p := (AVal.agg vs).cells.length = m ∧ i + 1 ≤ rows.length ∧ (AVal.agg vs).cells.all AVal.one = true) (by simp [AVal.cells, Nat.ble_eq, and_assoc])
def fillRows' (m i : Nat) (rows : List (List AVal)) (v : AVal) (rest : List (Nat × AVal)) : Option (List (List AVal)) := fillRows m rows ((i, v) :: rest)
theorem fillRows_c {m i : Nat} {rows : List (List AVal)} {v : AVal} {rest : List (Nat × AVal)} :
    fillRows m rows ((i, v) :: rest) = bif v.one && m == 1 && Nat.ble (i + 1) rows.length then fillRows m (rows.set i [v]) rest else fillRows' m i rows v rest := by
  cases h : v.one && m == 1 && Nat.ble (i + 1) rows.length with
  | false => rfl
  | true =>
    simp only [Bool.and_eq_true, beq_iff_eq, Nat.ble_eq] at h
    obtain ⟨⟨h1, rfl⟩, h2⟩ := h
    simp only [fillRows, cells_one h1, List.length_cons, List.length_nil, List.all_cons, List.all_nil, h1, Bool.and_true, Nat.zero_add, show i < rows.length from h2, and_self, if_true, cond_true]
theorem fillRows'_agg {m i : Nat} {rows : List (List AVal)} {vs : List AVal} {rest : List (Nat × AVal)} :
    fillRows' m i rows (.agg vs) rest = bif vs.length == m && Nat.ble (i + 1) rows.length && vs.all AVal.one then fillRows m (rows.set i vs) rest else none := fillRows_agg
theorem rep_zero {z : List AVal} : List.replicate 0 z = [] := id rfl
theorem rep_succ {z : List AVal} {n : Nat} : List.replicate (n + 1) z = z :: List.replicate n z := id rfl
theorem FILL : type_of% (And.intro @fillRows_nil (And.intro @fillRows_c (And.intro @fillRows'_agg (And.intro @rep_zero @rep_succ)))) := And.intro @fillRows_nil (And.intro @fillRows_c (And.intro @fillRows'_agg (And.intro @rep_zero @rep_succ)))
end Go.Tc
namespace Go.Tc
theorem TV.ext {α : Type} [Inhabited α] {σ s : AHeap} {m : Nat} {f : α → List AVal} {v : AVal} {l : List α} (h : TV σ m f v l) (hE : Ext σ s) (hO : ∀ M, σ.next ≤ M → Off v M) : TV s m f v l := by
  refine h.keep fun n h0 h1 p hp off q hq g k => ?_
  rcases h.sh with rfl | ⟨N, i, len, ex, rfl⟩ | ⟨rows, i, len, ex, rfl⟩
  · cases hp
  · have hl := h.len
    simp only [lenOfS, Option.some.injEq] at hl
    rw [ix_ms h0 (by omega)] at hp
    cases hp
    cases hq
    rw [load_ptr, load_ptr, hE.2 N (Nat.lt_of_not_le fun h => hO N h _ _ _ _ rfl)]
  · have hl := h.len
    simp only [lenOfS, Option.some.injEq] at hl
    rw [ix_rs h0 (by omega)] at hp
    cases hp
    cases hq
    rfl
end Go.Tc
namespace Go.Tc
set_option linter.unusedSimpArgs false
def Iter (P : Program) (gv : AVal) (B : AHeap → Prop) (R : Nat → List AVal → Prop) (C : Nat → Prop) : Prop :=
  ∀ (yv : AVal) (J : Nat → AHeap → Prop) (E : AHeap → Prop) (σ0 : AHeap), yv.one = true → (∀ k s s', J k s → Ext s s' → J k s') → (∀ k s, J k s → B s) → J 0 σ0 →
    (∀ k s args, J k s → R k args → RunV P yv args s (fun o s' => (o = .ret (.bool true) ∧ J (k + 1) s') ∨ (o = .ret (.bool false) ∧ E s'))) →
    RunV P gv [yv] σ0 (fun o s => (∃ v, o = .ret v) ∧ ((∃ m, C m ∧ J m s) ∨ E s))
def envPs (env : AEnv) (ps : List Nat) (args : List AVal) : AEnv := { n := env.n, t := setPs env.t ps args, ds := [] }
def env00 (env : AEnv) : AEnv := { env with ds := [] }
theorem envPs_nil {env : AEnv} {vs : List AVal} : envPs env [] vs = env00 env := by cases vs <;> rfl
theorem envPs_cons {env : AEnv} {p : Nat} {ps : List Nat} {v : AVal} {vs : List AVal} : envPs env (p :: ps) (v :: vs) = envPs (env.set p v) ps vs := id rfl
theorem env00_get {env : AEnv} {i : Nat} : (env00 env).t i = env.t i := id rfl
theorem env00_ds {env : AEnv} : (env00 env).ds = [] := id rfl
theorem ENV : type_of% (And.intro @envPs_nil (And.intro @envPs_cons (And.intro @env00_get @env00_ds))) := And.intro @envPs_nil (And.intro @envPs_cons (And.intro @env00_get @env00_ds))
structure HoldB (a b : ACode) : Type where
def rangeK (P : Program) (f : Opnd) (ps : List Nat) (a b : ACode) (_ : HoldB a b) (rd : Option Nat) (env : AEnv) (σ : AHeap) (Q : AExit → AEnv → AHeap → Prop) (_ : HoldQ Q) : Prop := wpA P (.rangeF f ps a b) rd env σ Q
theorem A_rangeK {P : Program} {f : Opnd} {ps : List Nat} {a b : ACode} {rd : Option Nat} {env : AEnv} {σ : AHeap} {Q : AExit → AEnv → AHeap → Prop} : wpA P (.rangeF f ps a b) rd env σ Q = rangeK P f ps a b {} rd env σ Q {} := id rfl
def roundK (L : Nat) (lo : ALoop) (I : AHeap → Prop) (Z : AExit → AHeap → Prop) : AExit → AEnv → AHeap → Prop
  | .normal, _, s => s.objs L = some (.loop lo) ∧ ∀ lo', I (s.set L (.loop lo'))
  | .panic _, _, _ => False
  | e, _, s => s.objs L = some (.loop lo) ∧ ∀ lo', Z e (s.set L (.loop lo'))
theorem rk_normal {L : Nat} {lo : ALoop} {I : AHeap → Prop} {Z : AExit → AHeap → Prop} {env : AEnv} {s : AHeap} : roundK L lo I Z .normal env s = (s.objs L = some (.loop lo) ∧ ∀ lo', I (s.set L (.loop lo'))) := id rfl
theorem rk_ret {L : Nat} {lo : ALoop} {I : AHeap → Prop} {Z : AExit → AHeap → Prop} {env : AEnv} {s : AHeap} : roundK L lo I Z .ret env s = (s.objs L = some (.loop lo) ∧ ∀ lo', Z .ret (s.set L (.loop lo'))) := id rfl
theorem rk_exit {L : Nat} {lo : ALoop} {I : AHeap → Prop} {Z : AExit → AHeap → Prop} {env : AEnv} {s : AHeap} {i : Nat} : roundK L lo I Z (.exit i) env s = (s.objs L = some (.loop lo) ∧ ∀ lo', Z (.exit i) (s.set L (.loop lo'))) := id rfl
def assignK (L : Nat) (lo : ALoop) (K : AEnv → AHeap → Prop) : AExit → AEnv → AHeap → Prop
  | .normal, env, s => s.objs L = some (.loop lo) ∧ K env s
  | _, _, _ => False
theorem ak_normal {L : Nat} {lo : ALoop} {K : AEnv → AHeap → Prop} {env : AEnv} {s : AHeap} : assignK L lo K .normal env s = (s.objs L = some (.loop lo) ∧ K env s) := id rfl
theorem RK : type_of% (And.intro @A_rangeK (And.intro @rk_normal (And.intro @rk_ret (And.intro @rk_exit @ak_normal)))) := And.intro @A_rangeK (And.intro @rk_normal (And.intro @rk_ret (And.intro @rk_exit @ak_normal)))
theorem A_rangeI {P : Program} {f : Opnd} {ps : List Nat} {a b : ACode} {rd : Option Nat} {env : AEnv} {σ : AHeap} {Q : AExit → AEnv → AHeap → Prop} {g : FuncId} {first caps : List AVal} {B : AHeap → Prop} {R : Nat → List AVal → Prop} {C : Nat → Prop}
    (hf : env.ev f = .func (.func g) first caps) (hit : Iter P (.func (.func g) first caps) B R C) (I : Nat → AHeap → Prop) (Z : AExit → AHeap → Prop) (hen : enters P g = true) (hrd : ∀ L, rd = some L → ∃ lo, σ.objs L = some (.loop lo))
    (h1 : ∀ k s s', I k s → Ext s s' → I k s') (h2 : ∀ k s lo, I k s → I k (s.set σ.next (.loop lo))) (h3 : ∀ k s, I k s → B s) (h4 : ∀ k s, I k s → σ.next < s.next) (h0 : ∀ lo, I 0 (σ.alloc (.loop lo)))
    (hr : ∀ k s lo args, I k s → s.objs σ.next = some (.loop lo) → R k args → args.length = ps.length ∧
      wpA P a (some σ.next) (envPs env ps args) s (assignK σ.next lo fun env1 s1 => ∀ lo', wpA P b (some σ.next) env1 (s1.set σ.next (.loop lo')) (roundK σ.next lo' (I (k + 1)) Z)))
    (hn : ∀ m s, C m → I m s → Q .normal env (s.kill σ.next)) (hz : ∀ e s, Z e s → Q e env (s.kill σ.next)) : rangeK P f ps a b {} rd env σ Q {} := by
  refine ⟨g, first, caps, hf, hen, hrd, fun assign body ha hb => ?_⟩
  let lo0 : ALoop := { size := env.n, env := env.t, params := ps.toArray, assign, body, state := .ready, pending := none }
  have := hit (.yield σ.next) (fun k s => I k s ∧ s.objs σ.next = some (.loop lo0))
    (fun s => ∃ lo, s.objs σ.next = some (.loop lo) ∧ lo.state = .done ∧ pendA lo.pending (fun e => Z e s)) (σ.alloc (.loop lo0)) rfl
    (fun k s s' h hE => ⟨h1 k s s' h.1 hE, (hE.2 _ (h4 k s h.1)).trans h.2⟩) (fun k s h => h3 k s h.1) ⟨h0 _, objs_new rfl⟩ ?_
  · refine this.mono fun o s ⟨⟨v, hv⟩, h⟩ => ?_
    subst hv
    rcases h with ⟨m, hm, hI, hL⟩ | ⟨lo, hL, hst, hp⟩
    · exact ⟨lo0, hL, by simp [lo0], show Q .normal env _ from hn m s hm hI⟩
    · refine ⟨lo, hL, by rw [hst]; simp, pendA_mono (fun e he => hz e s he) hp⟩
  · rintro k s args ⟨hI, hL⟩ hR
    obtain ⟨hlen, hw⟩ := hr k s lo0 args hI hL hR
    refine RunV.yield hL (by simpa [lo0] using hlen) ?_
    have hA := ha (some σ.next) (envPs env ps args) s _ rfl hw
    refine RunC.mono hA fun e env1 s1 hn1 hq => ?_
    cases e with
    | normal =>
      obtain ⟨hq1, hq2⟩ := hq
      refine ⟨rfl, lo0, hq1, rfl, ?_⟩
      have hB := hb (some σ.next) env1 (s1.set σ.next (.loop { lo0 with state := .busy })) _ (by rw [hn1]) (hq2 _)
      refine RunC.mono hB fun e2 env2 s2 _ hq3 => ?_
      cases e2 with
      | normal => exact ⟨_, hq3.1, .inl ⟨rfl, hq3.2 _, by rw [AHeap.objs_set, if_pos rfl]⟩⟩
      | panic v => exact hq3.elim
      | ret => exact ⟨_, hq3.1, .inr ⟨rfl, { lo0 with state := .done, pending := some .ret }, by rw [AHeap.objs_set, if_pos rfl], rfl, show Z .ret _ from hq3.2 _⟩⟩
      | exit i => exact ⟨_, hq3.1, .inr ⟨rfl, { lo0 with state := .done, pending := some (.exit i) }, by rw [AHeap.objs_set, if_pos rfl], rfl, show Z (.exit i) _ from hq3.2 _⟩⟩
      | goto i => exact ⟨_, hq3.1, .inr ⟨rfl, { lo0 with state := .done, pending := some (.goto i) }, by rw [AHeap.objs_set, if_pos rfl], rfl, show Z (.goto i) _ from hq3.2 _⟩⟩
    | panic v => exact hq.elim
    | ret => exact hq.elim
    | exit i => exact hq.elim
    | goto i => exact hq.elim
end Go.Tc
namespace Go.Tc
set_option linter.unusedSimpArgs false
def mapF {β : Type} (enc : β → AVal) (g : AKey → Option β) : AKey → Option AVal := fun k => (g k).map enc
def mputT {β : Type} (g : AKey → Option β) (k : AKey) (v : β) : AKey → Option β := fun x => if x = k then some v else g x
theorem mput_mapF {β : Type} {enc : β → AVal} {g : AKey → Option β} {k : AKey} {x : β} : mput (mapF enc g) k (enc x) = mapF enc (mputT g k x) := by
  funext j
  simp only [mput, mapF, mputT]
  split <;> rfl
theorem mapF_isSome {β : Type} {enc : β → AVal} {g : AKey → Option β} {k : AKey} : (mapF enc g k).isSome = (g k).isSome := by simp [mapF]
theorem mapF_getD {β : Type} {enc : β → AVal} {g : AKey → Option β} {k : AKey} {d : β} : (mapF enc g k).getD (enc d) = enc ((g k).getD d) := by
  simp only [mapF]; cases g k <;> rfl
def eI (x : Int) : AVal := .int .i64 x
theorem eI_eq {x : Int} : eI x = .int .i64 x := id rfl
def eB (x : Bool) : AVal := .bool x
theorem eB_eq {x : Bool} : eB x = .bool x := id rfl
theorem getD_int {g : AKey → Option Int} {k : AKey} {d : Int} : (mapF eI g k).getD (.int .i64 d) = .int .i64 ((g k).getD d) := mapF_getD (enc := eI)
theorem getD_bool {g : AKey → Option Bool} {k : AKey} {d : Bool} : (mapF eB g k).getD (.bool d) = .bool ((g k).getD d) := mapF_getD (enc := eB)
theorem mput_int {g : AKey → Option Int} {k : AKey} {x : Int} : mput (mapF eI g) k (.int .i64 x) = mapF eI (mputT g k x) := mput_mapF (enc := eI)
theorem mput_bool {g : AKey → Option Bool} {k : AKey} {x : Bool} : mput (mapF eB g) k (.bool x) = mapF eB (mputT g k x) := mput_mapF (enc := eB)
theorem mapF_none {β : Type} {enc : β → AVal} : (fun _ => none : AKey → Option AVal) = mapF enc (fun _ => none) := id rfl
def lookO (o : Option AObj) (K : KT) (z : AVal) (k : Option AKey) (ok : Bool) : Option AVal := match o, k with
  | some (.map K' f _), some k => if K' = K then some (if ok then .tup [(f k).getD z, .bool (f k).isSome] else (f k).getD z) else none
  | _, _ => none
def updO (o : Option AObj) (K : KT) (k : Option AKey) (x : AVal) : Option AObj := match o, k with
  | some (.map K' f n), some k => if K' = K then some (.map K (mput f k x) (if (f k).isSome then n else n + 1)) else none
  | _, _ => none
section
variable {σ : AHeap} {K : KT} {N n : Nat} {z i x v : AVal} {ok : Bool} {f : AKey → Option AVal} {k : AKey}
theorem look_map : lookV σ K z (.map N) i ok = lookO (σ.objs N) K z (toKey K i) ok := by
  simp only [lookV, lookO, mapAt]
  cases σ.objs N with
  | none => rfl
  | some o =>
    cases o with
    | map K' f n =>
      simp only
      by_cases h : K' = K
      · rw [if_pos h]; cases toKey K i <;> simp [h]
      · rw [if_neg h]; cases toKey K i <;> simp [h]
    | _ => rfl
theorem upd_map : updV σ K (.map N) i x = (updO (σ.objs N) K (toKey K i) x).map fun o => (AVal.tup [], σ.set N o) := by
  simp only [updV, updO]
  cases toKey K i with
  | none => cases σ.objs N with
    | none => rfl
    | some o => cases o <;> rfl
  | some k =>
    simp only
    cases σ.objs N with
    | none => rfl
    | some o =>
      cases o with
      | map K' f n => simp only; split <;> rfl
      | _ => rfl
theorem lookO_in : lookO (some (.map K f n)) K z (some k) false = some ((f k).getD z) := by simp [lookO]
theorem lookO_ok : lookO (some (.map K f n)) K z (some k) true = some (.tup [(f k).getD z, .bool (f k).isSome]) := by simp [lookO]
theorem updO_in : updO (some (.map K f n)) K (some k) x = some (.map K (mput f k x) (if (f k).isSome then n else n + 1)) := by simp [updO]
theorem toKey_int {q : IntKind} {y : Int} : toKey (.one (.int q)) (.int q y) = some (.one (.int y)) := by simp [toKey, toAK]
theorem toKey_str {s : ByteArray} : toKey (.one .str) (.str s) = some (.one (.str s)) := by simp [toKey, toAK]
theorem toKey_int2 {q q' : IntKind} {y y' : Int} : toKey (.tup [.int q, .int q']) (.agg [.int q y, .int q' y']) = some (.tup [.int y, .int y']) := by simp [toKey, toAKs, toAK]
theorem w_omap_comp {α β : Type} {g : α → β} {a : α} : (some a).map g = some (g a) := id rfl
theorem nilM_eq {N : Nat} : binA .eql .map (.map N) .nilM = some (.bool false) := id rfl
end
theorem MAP : type_of% (And.intro @look_map (And.intro @upd_map (And.intro @lookO_in (And.intro @lookO_ok (And.intro @updO_in (And.intro @toKey_int (And.intro @toKey_str (And.intro @toKey_int2 (And.intro @getD_int (And.intro @getD_bool (And.intro @mput_int (@mput_bool)))))))))))) :=
  And.intro @look_map (And.intro @upd_map (And.intro @lookO_in (And.intro @lookO_ok (And.intro @updO_in (And.intro @toKey_int (And.intro @toKey_str (And.intro @toKey_int2 (And.intro @getD_int (And.intro @getD_bool (And.intro @mput_int (@mput_bool)))))))))))
theorem mputT_same {β : Type} {g : AKey → Option β} {k : AKey} {v : β} : mputT g k v k = some v := if_pos rfl
theorem mputT_ne {β : Type} {g : AKey → Option β} {k j : AKey} {v : β} (h : j ≠ k) : mputT g k v j = g j := if_neg h
theorem store_rI {l : List Int} {i : Nat} {x : Int} (h : i < l.length) : storeO (some (.cells 1 (l.map rI))) 1 i 0 (.int .i64 x) = some (.cells 1 ((l.set i x).map rI)) := storeO_map x h rfl rfl (fun _ => rfl) rfl
theorem rep_rI {n : Nat} : List.replicate n [AVal.int .i64 0] = (List.replicate n (0 : Int)).map rI := by rw [List.map_replicate]; rfl
theorem zero_add_nat {n : Nat} : 0 + n = n := Nat.zero_add n
theorem loadO_mapset {α : Type} [Inhabited α] {agg : Bool} {m n i j k : Nat} {f : α → List AVal} {l : List α} {x : α} (h : i < l.length) : loadO (some (.cells m ((l.set j x).map f))) agg n i k = partA agg n k (f ((l.set j x).getD i default)) := loadO_map (by rw [List.length_set]; exact h)
theorem store_rIset {l : List Int} {i j : Nat} {x y : Int} (h : i < l.length) : storeO (some (.cells 1 ((l.set j y).map rI))) 1 i 0 (.int .i64 x) = some (.cells 1 (((l.set j y).set i x).map rI)) := store_rI (by rw [List.length_set]; exact h)
theorem ROW : type_of% (And.intro @loadO_mapset (And.intro @store_rIset (And.intro @loadO_map (And.intro @store_rI (And.intro @rep_rI @zero_add_nat))))) := And.intro @loadO_mapset (And.intro @store_rIset (And.intro @loadO_map (And.intro @store_rI (And.intro @rep_rI @zero_add_nat))))
end Go.Tc
namespace Go.Tc
set_option linter.unusedSimpArgs false
section
variable {α : Type} {s σ : AHeap} {b m : Nat} {f : α → List AVal} {v w : AVal} {l xs : List α}
theorem rows_of [Inhabited α] {rows : List (List AVal)} {i : Nat} (h0 : l.length ≠ 0)
    (hr : ∀ n, n < l.length → ∀ off g k, (match (rows[i + n]?).map (·, off) with | some (r, q) => partA g k q r | none => none) = partA g k off (f (l.getD n default))) : i + l.length ≤ rows.length ∧ (rows.drop i).take l.length = l.map f := by
  have hin : ∀ n, n < l.length → rows[i + n]? = some (f (l.getD n default)) := by
    intro n hn
    have h1 := hr n hn 0 true 0
    cases hrow : rows[i + n]? with
    | none => rw [hrow] at h1; simp [partA] at h1
    | some r =>
      congr 1
      apply List.ext_getElem?
      intro off
      have := hr n hn off false 1
      rw [hrow] at this
      simpa [partA] using this
  have hlen : i + l.length ≤ rows.length := by
    have := (List.getElem?_eq_some_iff.1 (hin (l.length - 1) (by omega))).1
    omega
  refine ⟨hlen, List.ext_getElem? fun n => ?_⟩
  by_cases hn : n < l.length
  · rw [List.getElem?_take, if_pos hn, List.getElem?_drop, hin n hn, List.getElem?_map, List.getElem?_eq_getElem hn, List.getD_eq_getElem?_getD, List.getElem?_eq_getElem hn]; rfl
  · rw [List.getElem?_eq_none (by simp; omega), List.getElem?_eq_none (by simp; omega)]
theorem TV.elems [Inhabited α] (h : TV σ m f v l) : Go.Tc.elems σ m v = some (l.map f) := by
  rcases h.shn with ⟨rfl, h0⟩ | ⟨N, i, ex, rfl⟩ | ⟨rows, i, ex, rfl⟩
  · rw [List.length_eq_zero_iff.1 h0]; rfl
  · by_cases h0 : l.length = 0
    · simp [Go.Tc.elems, h0, List.length_eq_zero_iff.1 h0]
    · have key : ∃ m' rows, σ.objs N = some (.cells m' rows) := by
        obtain ⟨p, hp, _, hl⟩ := h.el 0 (Int.le_refl _) (by omega)
        rw [ix_ms (Int.le_refl _) (by omega)] at hp
        cases hp
        obtain ⟨q, hq, hld⟩ := hl 0 true 0
        cases hq
        rw [load_ptr] at hld
        cases hN : σ.objs N with
        | none => rw [hN] at hld; simp [loadO, partA] at hld
        | some o =>
          cases o with
          | cells m' rows => exact ⟨_, _, rfl⟩
          | _ => rw [hN] at hld; simp [loadO, partA] at hld
      obtain ⟨m', rows, hN⟩ := key
      have := rows_of (rows := rows) (i := i) (l := l) (f := f) h0 (fun n hn off g k => by
        obtain ⟨p, hp, _, hl⟩ := h.el n (by omega) (by omega)
        rw [ix_ms (by omega) (by omega)] at hp
        cases hp
        obtain ⟨q, hq, hld⟩ := hl off g k
        cases hq
        simp only [loadA, Go.Tc.rowAt, hN, Int.toNat_natCast, Nat.zero_add] at hld
        exact hld)
      simp [Go.Tc.elems, h0, hN, this.1, this.2]
  · by_cases h0 : l.length = 0
    · simp [Go.Tc.elems, h0, List.length_eq_zero_iff.1 h0]
    · have := rows_of (rows := rows) (i := i) (l := l) (f := f) h0 (fun n hn off g k => by
        obtain ⟨p, hp, _, hl⟩ := h.el n (by omega) (by omega)
        rw [ix_rs (by omega) (by omega)] at hp
        cases hp
        obtain ⟨q, hq, hld⟩ := hl off g k
        cases hq
        simp only [loadA, Go.Tc.rowAt, Int.toNat_natCast, Nat.zero_add] at hld
        exact hld)
      simp [Go.Tc.elems, h0, this.1, this.2]
theorem OwnS.cpy (h : OwnS s b m f v l) {a : Int} (h0 : 0 ≤ a) (h1 : a ≤ l.length) (hw : Go.Tc.elems s m w = some (xs.map f)) :
    ∃ (n : Int) (s' : AHeap) (l' : List α), cpyA s m (slV m v a l.length) w = some (.int .i64 n, s') ∧ OwnS s' b m f v l' ∧ l'.length = l.length ∧ s'.next = s.next ∧ (∀ M, Off v M → s'.objs M = s.objs M) := by
  rcases h with ⟨rfl, rfl⟩ | ⟨N, ex, rfl, h2, h3, h4⟩
  · have : a = 0 := by simp at h1; omega
    subst this
    exact ⟨0, s, [], by simp [cpyA, hw, slV, sliceA, bound], .inl ⟨rfl, rfl⟩, rfl, rfl, fun _ _ => rfl⟩
  · have hsl : slV m (.ms m N 0 l.length ex) a l.length = .ms m N (0 + a.toNat) ((l.length : Int).toNat - a.toNat) (ex && (l.length : Int).toNat == l.length) := by
      simp only [slV, sliceA, if_true, bound_in (show (0 : Int) ≤ (l.length : Nat) by omega) (Int.le_refl _), bound_in h0 (show a ≤ ((l.length : Int).toNat : Nat) by omega), Option.bind_some, Option.map_some, Option.getD_some]
    rw [hsl]
    simp only [cpyA, hw, Int.toNat_natCast, Nat.zero_add]
    by_cases hz : Nat.min (xs.map f).length (l.length - a.toNat) = 0
    · rw [if_pos hz]
      exact ⟨0, s, l, rfl, .inr ⟨N, ex, rfl, h2, h3, h4⟩, rfl, rfl, fun _ _ => rfl⟩
    · rw [if_neg hz, h4]
      simp only [List.length_map]
      rw [if_pos ⟨trivial, by omega⟩]
      have hmin : Nat.min xs.length (l.length - a.toNat) ≤ l.length - a.toNat := Nat.min_le_right _ _
      have hmin2 : Nat.min xs.length (l.length - a.toNat) ≤ xs.length := Nat.min_le_left _ _
      generalize Nat.min xs.length (l.length - a.toNat) = k at hmin hmin2 ⊢
      have hlen : (l.take a.toNat ++ xs.take k ++ l.drop (a.toNat + k)).length = l.length := by simp; omega
      refine ⟨k, _, l.take a.toNat ++ xs.take k ++ l.drop (a.toNat + k), rfl, .inr ⟨N, ex, by rw [hlen], h2, h3, ?_⟩, hlen, rfl, fun M hM => ?_⟩
      · rw [objs_here]; simp
      · rw [objs_else]
        rintro rfl
        exact hM _ _ _ _ rfl
end
theorem clone_spec {P : Program} (hP : P.follows .mixedOrders = true) {f : FuncId} {m bytes : Nat} {z : List AVal} (hk : compFunc P f = some (8, cloneCode m z bytes, [.t 2])) {σ : AHeap} {α : Type} [Inhabited α] {r : α → List AVal} {v : AVal} {l : List α}
    (hv : TV σ m r v l) (ho : ∀ M, σ.next ≤ M → Off v M) (hb : sumLen 0 l.length bytes = true) {Q : AOut → AHeap → Prop} (hQ : ∀ u s, Ext σ s → OwnS s σ.next m r u l → Q (.ret u) s) :
    RunV P (.func (.func f) [] []) [v] σ Q := by
  refine RunV.func hP hk (by simp) ?_
  have hq : v = .nilS ∨ binA .eql .slice v .nilS = some (.bool false) := by
    rcases hv.sh with h | ⟨N, i, len, ex, rfl⟩ | ⟨rows, i, len, ex, rfl⟩
    · exact .inl h
    · exact .inr rfl
    · exact .inr rfl
  rcases hq with rfl | hq
  · simp (disch := omega) only [cloneCode, ↓CTL, ↓DRW, VAL, DRV, FILL, Nat.reduceBEq, Nat.reduceAdd]
    have : l = [] := by have := hv.len; simp only [lenOfS, Option.some.injEq] at this; exact List.length_eq_zero_iff.1 this.symm
    subst this
    exact hQ _ _ (.refl _) .nil
  · simp (disch := omega) only [cloneCode, ↓CTL, ↓DRW, VAL, DRV, FILL, Nat.reduceBEq, Nat.reduceAdd, hq]
    have hE : Ext σ (σ.alloc (.cells m [])) := (Ext.refl _).alloc _
    have hO : OwnS (σ.alloc (.cells m [])) σ.next m r (.ms m σ.next 0 0 true) ([] : List α) := .inr ⟨σ.next, true, rfl, Nat.le_refl _, by simp, objs_new rfl⟩
    obtain ⟨v', s', hap, h1, h2, h3, h4⟩ := hO.app (bytes := bytes) (hv.ext hE ho).elems (by simp) hb
    simp (disch := omega) only [↓CTL, ↓DRW, VAL, DRV, FILL, Nat.reduceBEq, Nat.reduceAdd, hap]
    simp only [AHeap.next_alloc] at h2 h3
    refine hQ _ _ ⟨by omega, fun M hM => ?_⟩ (by simpa using h1)
    rw [h3 M (by omega) (hO.off_old hM), objs_old (by omega)]
theorem frz_rows {σ : AHeap} {n N m i len : Nat} {ex : Bool} {rows : List (List AVal)} (hN : n ≤ N) (ho : σ.objs N = some (.cells m rows)) (hs : ∀ row ∈ rows, ∀ v ∈ row, scal v = true ∧ v.one = true) : Frz σ n (.ms m N i len ex) (.rs m rows i len ex) := by
  refine .ms hN ho (fun _ => rfl) (fun j q v v' h1 h2 => ?_) (fun j q v' h => ?_)
  · rw [h1] at h2; cases h2
    simp only [cellAt, Option.bind_eq_some_iff] at h1
    obtain ⟨row, hr, hv⟩ := h1
    exact scal_frz v (hs row (List.mem_of_getElem? hr) v (List.mem_of_getElem? hv)).1
  · simp only [cellAt, Option.bind_eq_some_iff] at h
    obtain ⟨row, hr, hv⟩ := h
    exact (hs row (List.mem_of_getElem? hr) v' (List.mem_of_getElem? hv)).2
theorem RunV.freezeOwn {P : Program} {fv : AVal} {zs : List AVal} {σ : AHeap} {α : Type} [Inhabited α] {m : Nat} {f : α → List AVal} {R : List α → Prop} {Q : AOut → AHeap → Prop} (hf : ∀ x, ∀ v ∈ f x, scal v = true ∧ v.one = true)
    (h : RunV P fv zs σ (fun o s => ∃ v l, o = .ret v ∧ Ext σ s ∧ OwnS s σ.next m f v l ∧ R l)) (hQ : ∀ v l, RV m f v l → R l → Q (.ret v) σ) : RunV P fv zs σ Q := by
  refine RunV.pure (h.mono fun o s ⟨v, l, ho, hE, hO, hR⟩ => ?_)
  subst ho
  rcases hO with ⟨rfl, rfl⟩ | ⟨N, ex, rfl, h1, h2, h3⟩
  · exact ⟨.nilS, .nilS, rfl, .nilS, fun N o hN hx => (hE.2 N hN).trans hx, hQ _ _ RV.nil hR⟩
  · refine ⟨_, .rs m (l.map f) 0 l.length ex, rfl, frz_rows h1 h3 ?_, fun N o hN hx => (hE.2 N hN).trans hx, hQ _ l (RV.rs (by omega) (by simp)) hR⟩
    intro row hr
    obtain ⟨x, _, rfl⟩ := List.mem_map.1 hr
    exact hf x
def backCode1 (m : Nat) (g : Bool) : ACode :=
 .seq (.ops [
   ⟨(some 4), .load false 1 (.t 1), none, []⟩,
   ⟨(some 5), .lenS (.t 4), none, []⟩,
   ⟨(some 6), .bin .sub .int (.t 5) (.c (.int .i64 1)), none, []⟩,
   ⟨(some 3), .mv (.t 6), none, []⟩])
 (.block 0 (.loop (.seq (.seq (.ops [
    ⟨(some 7), .mv (.t 3), none, []⟩,
    ⟨(some 8), .bin .geq .int (.t 7) (.c (.int .i64 0)), none, []⟩])
  (.cond (.t 8)
   (.skip)
   (.exit 0)))
  (.seq (.block 1 (.seq (.ops [
    ⟨(some 11), .mv (.t 0), none, []⟩,
    ⟨(some 12), .mv (.t 3), none, []⟩,
    ⟨(some 13), .load false 1 (.t 1), none, []⟩,
    ⟨(some 14), .mv (.t 3), none, []⟩,
    ⟨(some 15), .ixS m (.t 13) (.t 14), none, []⟩,
    ⟨(some 16), .load g m (.t 15), none, []⟩,
    ⟨(some 17), .callV (.t 11) [(.t 12), (.t 16)], none, []⟩,
    ⟨(some 18), .un .not (.t 17), none, []⟩])
  (.cond (.t 18)
   (.ret)
   (.skip))))
  (.ops [
    ⟨(some 9), .mv (.t 3), none, []⟩,
    ⟨(some 10), .bin .sub .int (.t 9) (.c (.int .i64 1)), none, []⟩,
    ⟨(some 3), .mv (.t 10), none, []⟩])))))
theorem back_iter {P : Program} (hP : P.follows .mixedOrders = true) {f : FuncId} {m : Nat} {g : Bool} (hk : compFunc P f = some (19, backCode1 m g, [])) {A : Nat} {v : AVal} {α : Type} [Inhabited α] {r : α → List AVal} {l : List α} (hl : l.length ≤ 4611686018427387904) (el : α → AVal) (he : ∀ x, partA g m 0 (r x) = some (el x)) :
    Iter P (.func (.func f) [] [.ptr A 0 0]) (fun s => s.objs A = some (.cells 1 [[v]]) ∧ TV s m r v l) (fun k args => k < l.length ∧ args = [.int .i64 ((l.length : Int) - 1 - k), el (l.getD (l.length - 1 - k) default)]) (fun n => n = l.length) := by
  intro yv J E σ0 hy hE hB h0 hr
  refine RunV.func hP hk (by simp) ?_
  obtain ⟨hA0, hv0⟩ := hB 0 σ0 h0
  simp (disch := omega) only [backCode1, ↓CTL, ↓DRW, VAL, DRV, Nat.reduceBEq, Nat.reduceAdd, hA0, hv0.S]
  refine A_loopV (α := Nat) [7, 8, 11, 12, 13, 14, 15, 16, 17, 18, 9, 10, 3] (fun i => [(3, .int .i64 ((l.length : Int) - 1 - i))]) (fun i s => i ≤ l.length ∧ J i s) (fun i => l.length - i) rfl (fun _ => rfl) ⟨0, ?_, Nat.zero_le _, h0⟩ ?_
  · simp (disch := omega) only [↓CTL, VAL, Nat.reduceBEq]; simp
  · rintro i f' s ⟨hi, hJ⟩
    obtain ⟨hA, hv⟩ := hB i s hJ
    simp (disch := omega) only [↓CTL, ↓DRW, VAL, DRV, Nat.reduceBEq, Nat.reduceAdd]
    refine B_if (fun hlt => ?_) (fun hge => ?_)
    · have e1 : ((l.length : Int) - 1 - i).toNat = l.length - 1 - i := by omega
      simp (disch := omega) only [↓CTL, ↓DRW, VAL, DRV, Nat.reduceBEq, Nat.reduceAdd, hA, hv.S, he, e1]
      refine (hr i _ _ hJ ⟨by omega, rfl⟩).mono fun o s' h => ?_
      rcases h with ⟨rfl, hJ'⟩ | ⟨rfl, hE'⟩
      · simp (disch := omega) only [↓CTL, ↓DRW, VAL, DRV, Nat.reduceBEq, Nat.reduceAdd, Bool.not_true]
        refine ⟨i + 1, ?_, ⟨by omega, hJ'⟩, by omega⟩
        congr 1; omega
      · simp (disch := omega) only [↓CTL, ↓DRW, VAL, DRV, Nat.reduceBEq, Nat.reduceAdd, Bool.not_false]
        exact ⟨⟨_, rfl⟩, .inr hE'⟩
    · simp (disch := omega) only [↓CTL, ↓DRW, VAL, DRV, Nat.reduceBEq, Nat.reduceAdd]
      have : i = l.length := by omega
      exact ⟨⟨_, rfl⟩, .inl ⟨_, rfl, this ▸ hJ⟩⟩
end Go.Tc
namespace Go.Tc
set_option linter.unusedSimpArgs false
def isPtrD : TypeDesc → Bool
  | .pointer _ => true
  | _ => false
def methOf (P : Program) (t : TypeId) (name : String) : Option FuncId :=
  match P.info? t, P.underlying t with
  | some i, some d => match i.methods.find? (fun m => m.name == name) with
    | some m => if m.path.isEmpty then (match m.func with
      | some (f, p) => if p == isPtrD d && enters P f then some f else none
      | none => none) else none
    | none => none
  | _, _ => none
theorem run_method {P : Program} {t : TypeId} {name : String} {f : FuncId} (h : methOf P t name = some f) (n : Nat) (v : Value) (w : World) : (Go.method (n + 1) t v name).run P w = .ok (f, v) w ∧ enters P f = true := by
  unfold methOf at h
  split at h
  · rename_i i d hi hd
    split at h
    · rename_i m hm
      split at h
      · rename_i hp
        split at h
        · rename_i f' p hf
          split at h
          · rename_i hc
            cases h
            simp only [Bool.and_eq_true, beq_iff_eq] at hc
            obtain ⟨rfl, hen⟩ := hc
            have hp' : m.path.toList = [] := by simpa using hp
            refine ⟨?_, hen⟩
            simp only [Go.method, Sem.run_bind, run_info hi, Result.andThen, hm, hp', Go.follow, Sem.run_pure, hf, hp, if_true]
            cases d <;> simp [Go.receiverAt, Sem.run_bind, run_und hd, Result.andThen, isPtrD, Go.Place.get]
          · cases h
        · cases h
      · cases h
    · cases h
  · cases h
theorem RunI.meth {P : Program} {t : TypeId} {name : String} {f : FuncId} (h : methOf P t name = some f) {v : AVal} {args : List AVal} {σ : AHeap} {Q : AOut → AHeap → Prop} (hr : RunV P (.func (.func f) [] []) (v :: args) σ Q) : RunI P (.iface t v) name args σ Q := by
  obtain ⟨out, σ', hQ, hc⟩ := hr
  refine ⟨out, σ', hQ, fun ι ro w ru us R hru hus => ?_⟩
  cases hru with
  | @iface _ _ u hu =>
  have hcall := hc ι ro w (.func (.func f) #[] #[]) (#[u] ++ us) R (.func (by simp) rfl rfl (by simp) (by simp)) ⟨by simp [hus.1]; omega, fun i a b ha hb => by
    cases i with
    | zero =>
      rw [Array.getElem?_append_left (by simp)] at hb
      simp at ha hb; subst ha; subst hb; exact hu
    | succ i =>
      simp at ha
      refine hus.2 i a b ha ?_
      rw [Array.getElem?_append_right (by simp)] at hb
      simpa using hb⟩
  have hm := fun n => run_method h n u w
  have hen := (hm 0).2
  simp only [Deferred.ofValue, pure_bind, invoke, enters_run hen] at hcall
  have : (invoke (.fn (.method name) #[]) (#[.iface t u] ++ us)).run P w = .ok (.enter f (#[u] ++ us)) w := by
    simp only [invoke]
    have h0 : (#[Value.iface t u] ++ us)[0]? = some (.iface t u) := (Array.getElem?_append_left (show 0 < (#[Value.iface t u]).size from Nat.zero_lt_one)).trans rfl
    simp only [h0, callMethod, Sem.run_bind, run_program, Result.andThen]
    rw [show P.types.size + Made.depth = (P.types.size + (Made.depth - 1)) + 1 by have : 0 < Made.depth := by decide
                                                                                  omega]
    rw [(hm _).1]
    have hex : (#[Value.iface t u] ++ us).extract 1 (#[Value.iface t u] ++ us).size = us := by
      apply Array.ext_getElem?
      intro i
      rw [Array.getElem?_extract]
      by_cases hi : i < us.size
      · rw [if_pos (by simp; omega), Array.getElem?_append_right (show (#[Value.iface t u]).size ≤ 1 + i from Nat.le_add_right 1 i)]
        show us[1 + i - 1]? = us[i]?
        rw [Nat.add_sub_cancel_left]
      · rw [if_neg (by simp; omega), Array.getElem?_eq_none (Nat.le_of_not_lt hi)]
    rw [hex]
    simp only [enters_run hen]
  rw [this]
  simpa using hcall
def callIK (P : Program) (rv : AVal) (name : String) (zs : List AVal) (σ : AHeap) (K X : AVal → AHeap → Prop) (_ : HoldK K) (_ : HoldK X) : Prop := RunI P rv name zs σ (outK K X)
section
variable {P : Program} {rd : Option Nat} {q st : List Nat} {ps : Nat → Nat → Bool} {i : Nat} {os l : List AOper} {d : Option Nat} {a : List Nat} {env : AEnv} {σ : AHeap} {past : List (Nat × AHeap)} {pend : List (Nat × AOp × AEnv × AVal)} {K : AEnv → AHeap → Prop} {X : Nat → AVal → AHeap → Prop} {Q : AExit → AEnv → AHeap → Prop}
theorem L_callIK {x : Opnd} {m : String} {xs : List Opnd} : Go.Tc.wpOps P rd (⟨d, .callI x m xs, none, a⟩ :: os) env σ Q =
    callIK P (env.ev x) m (xs.map env.ev) σ (fun v σ' => Go.Tc.wpOps P rd os (env.put d v) σ' Q) (fun v σ' => Q (.panic v) env σ') {} {} := id rfl
theorem DD_callI {x : Opnd} {m : String} {xs : List Opnd} : dK P q st ps {} i (⟨d, .callI x m xs, none, a⟩ :: os) env σ past pend K X =
    callIK P (env.ev x) m (xs.map env.ev) σ (fun v σ' => bif q.contains i then σ' = σ ∧ (bif st.contains i then allP past (fun p => ps i p.1 = true → Same P (.callI x m xs) env p.2 v) ∧ dK P q st ps {} (i + 1) os (env.put d v) σ past ((i, .callI x m xs, env, v) :: pend) K X
      else dK P q st ps {} (i + 1) os (env.put d v) σ past pend K X)
      else allP pend (fun p => ps p.1 (i + 1) = true → Same P p.2.1 p.2.2.1 σ' p.2.2.2) ∧ dK P q st ps {} (i + 1) os (env.put d v) σ' ((i + 1, σ') :: past) pend K X) (fun v σ' => X i v σ') {} {} := by
  simp only [dK, wpDr, gOk, OpW, callIK, allP_eq]
  congr 1
  funext o s
  cases o with
  | panic v => rfl
  | ret v =>
    simp only [outK, effOf, isSt, allP_eq]
    by_cases hq : q.contains i = true
    · simp only [hq, if_true, cond_true]
      cases hs : st.contains i <;> simp
      all_goals
        intro h; subst h; simp
    · have hq' : q.contains i = false := by simpa using hq
      simp only [hq', cond_false, Bool.false_eq_true, if_false]
      simp
end
theorem IFC : type_of% (And.intro @L_callIK @DD_callI) := And.intro @L_callIK @DD_callI
theorem storeO_fld {α : Type} [Inhabited α] {m n i k : Nat} {f : α → List AVal} {l : List α} {v : AVal} (x : α) (h : i < l.length) (hv : v.cells.length = n) (hk : ∀ y, k + n ≤ (f y).length) (h1 : v.cells.all AVal.one = true) (hs : splice (f (l.getD i default)) k v.cells = f x) :
    storeO (some (.cells m (l.map f))) n i k v = some (.cells m ((l.set i x).map f)) := by
  have hg : l.getD i default = l[i] := by rw [List.getD_eq_getElem?_getD, List.getElem?_eq_getElem h]; rfl
  simp only [storeO, List.getElem?_map, List.getElem?_eq_getElem h, Option.map_some, Option.bind_some]
  rw [if_pos ⟨hv, hk _, h1⟩, ← hg, hs, ← List.map_set]
end Go.Tc
namespace Go.Tc
set_option linter.unusedSimpArgs false
def rS (s : ByteArray) : List AVal := [.str s]
theorem rS_eq {s : ByteArray} : rS s = [.str s] := id rfl
structure Hp (s : AHeap) (H b : Nat) (nv sv : AVal) (ns : List Int) (ss : List ByteArray) : Prop where
  obj : s.objs H = some (.cells 2 [[nv, sv]])
  hb : H < b
  bn : b ≤ s.next
  n : OwnS s b 1 rI nv ns
  s : OwnS s b 1 rS sv ss
  dis : ∀ M, ¬ Off nv M → Off sv M
def Step (H : Nat) (s : AHeap) (nv sv : AVal) (s' : AHeap) (nv' sv' : AVal) : Prop :=
  s.next ≤ s'.next ∧ ∀ M, M < s.next → M ≠ H → Off nv M → Off sv M → s'.objs M = s.objs M ∧ Off nv' M ∧ Off sv' M
theorem Step.refl {H : Nat} {s : AHeap} {nv sv : AVal} : Step H s nv sv s nv sv := ⟨Nat.le_refl _, fun _ _ _ h1 h2 => ⟨rfl, h1, h2⟩⟩
theorem Step.trans {H : Nat} {s s1 s2 : AHeap} {nv sv nv1 sv1 nv2 sv2 : AVal} (h : Step H s nv sv s1 nv1 sv1) (k : Step H s1 nv1 sv1 s2 nv2 sv2) : Step H s nv sv s2 nv2 sv2 :=
  ⟨Nat.le_trans h.1 k.1, fun M h1 h2 h3 h4 => by
    obtain ⟨a1, a2, a3⟩ := h.2 M h1 h2 h3 h4
    obtain ⟨b1, b2, b3⟩ := k.2 M (Nat.lt_of_lt_of_le h1 h.1) h2 a2 a3
    exact ⟨b1.trans a1, b2, b3⟩⟩
theorem Step.alloc {H : Nat} {s : AHeap} {nv sv : AVal} {o : AObj} : Step H s nv sv (s.alloc o) nv sv :=
  ⟨by simp, fun M h1 _ h3 h4 => ⟨objs_old (Nat.ne_of_lt h1), h3, h4⟩⟩
theorem Hp.alloc {s : AHeap} {H b : Nat} {nv sv : AVal} {ns : List Int} {ss : List ByteArray} (h : Hp s H b nv sv ns ss) (o : AObj) : Hp (s.alloc o) H b nv sv ns ss :=
  ⟨by rw [objs_old (Nat.ne_of_lt (Nat.lt_of_lt_of_le h.hb h.bn))]; exact h.obj, h.hb, Nat.le_succ_of_le h.bn, h.n.alloc o, h.s.alloc o, h.dis⟩
def Stays (W : Nat → AHeap → AVal → AVal → Prop) : Prop := ∀ H s nv sv s' nv' sv', W H s nv sv → Step H s nv sv s' nv' sv' → W H s' nv' sv'
def WTrue : Nat → AHeap → AVal → AVal → Prop := fun _ _ _ _ => True
theorem WTrue.stays : Stays WTrue := fun _ _ _ _ _ _ _ _ _ => trivial
def PutSpec (P : Program) (W : Nat → AHeap → AVal → AVal → Prop) (put : AVal) (x : AVal) (A : List Int) (B : List ByteArray) : Prop :=
  ∀ s H b nv sv ns ss, W H s nv sv → Hp s H b nv sv ns ss → ns.length + A.length ≤ 1099511627776 → ss.length + B.length ≤ 1099511627776 →
    RunV P put [.ptr H 0 0, x] s (fun o s' => (∃ v, o = .ret v) ∧ ∃ nv' sv', Hp s' H b nv' sv' (ns ++ A) (ss ++ B) ∧ Step H s nv sv s' nv' sv')
theorem Hp.num {s : AHeap} {H b : Nat} {nv sv : AVal} {ns : List Int} {ss : List ByteArray} (h : Hp s H b nv sv ns ss) (x : Int) (hl : ns.length + 1 ≤ 1099511627776) :
    ∃ nv' s', appA (s.alloc (.cells 1 [[.int .i64 x]])) 1 8 nv (.ms 1 s.next 0 1 true) = some (nv', s') ∧ nv'.one = true ∧ s'.objs H = some (.cells 2 [[nv, sv]]) ∧ Hp (s'.set H (.cells 2 [[nv', sv]])) H b nv' sv (ns ++ [x]) ss ∧ Step H s nv sv (s'.set H (.cells 2 [[nv', sv]])) nv' sv := by
  have hb := h.hb
  have hn := h.bn
  obtain ⟨nv', s', h1, h2, h3, h4, h5⟩ := OwnS.app (bytes := 8) (w := .ms 1 s.next 0 1 true) (xs := [x]) (h.n.alloc (.cells 1 [[.int .i64 x]])) (elems_one (objs_new rfl)) (by simp only [AHeap.next_alloc]; omega) (sumLen_ok (by simp only [List.length_singleton]; omega) (by simp only [List.length_singleton]; omega))
  simp only [AHeap.next_alloc] at h3 h4 h5
  have hH : s'.objs H = some (.cells 2 [[nv, sv]]) := by
    rw [h4 H (by omega) (h.n.off_old hb), objs_old (by omega)]; exact h.obj
  have hs : OwnS s' b 1 rS sv ss := h.s.keep (by omega) fun M hM1 hM2 hM3 => by
    rw [h4 M (by omega) (Classical.byContradiction fun hc => hM3 (h.dis M hc)), objs_old (by omega)]
  refine ⟨nv', s', h1, h2.one, hH, ⟨objs_here, hb, by simp only [AHeap.next_set]; omega, h2.set (h5 H (by omega) (h.n.off_old hb)) _, hs.set (h.s.off_old hb) _, fun M hM => ?_⟩, by simp only [AHeap.next_set]; omega, fun M g1 g2 g3 g4 => ⟨?_, h5 M (by omega) g3, g4⟩⟩
  · by_cases hc : Off nv M
    · by_cases hlt : M < s.next + 1
      · exact absurd (h5 M hlt hc) hM
      · exact h.s.off_new (by omega)
    · exact h.dis M hc
  · rw [objs_else g2, h4 M (by omega) g3, objs_old (by omega)]
theorem Hp.txt {s : AHeap} {H b : Nat} {nv sv : AVal} {ns : List Int} {ss : List ByteArray} (h : Hp s H b nv sv ns ss) (x : ByteArray) {bytes : Nat} (hby : bytes ≤ 16) (hl : ss.length + 1 ≤ 1099511627776) :
    ∃ sv' s', appA (s.alloc (.cells 1 [[.str x]])) 1 bytes sv (.ms 1 s.next 0 1 true) = some (sv', s') ∧ sv'.one = true ∧ s'.objs H = some (.cells 2 [[nv, sv]]) ∧ Hp (s'.set H (.cells 2 [[nv, sv']])) H b nv sv' ns (ss ++ [x]) ∧ Step H s nv sv (s'.set H (.cells 2 [[nv, sv']])) nv sv' := by
  have hb := h.hb
  have hn := h.bn
  have hmul : (ss.length + 1) * bytes ≤ 1099511627776 * 16 := Nat.mul_le_mul hl hby
  obtain ⟨sv', s', h1, h2, h3, h4, h5⟩ := OwnS.app (bytes := bytes) (w := .ms 1 s.next 0 1 true) (xs := [x]) (h.s.alloc (.cells 1 [[.str x]])) (elems_one (objs_new rfl)) (by simp only [AHeap.next_alloc]; omega) (sumLen_ok (by simp only [List.length_singleton]; omega) (by simp only [List.length_singleton]; omega))
  simp only [AHeap.next_alloc] at h3 h4 h5
  have hdis : ∀ M, ¬ Off sv M → Off nv M := fun M hM => Classical.byContradiction fun hc => hM (h.dis M hc)
  have hH : s'.objs H = some (.cells 2 [[nv, sv]]) := by
    rw [h4 H (by omega) (h.s.off_old hb), objs_old (by omega)]; exact h.obj
  have hs : OwnS s' b 1 rI nv ns := h.n.keep (by omega) fun M hM1 hM2 hM3 => by
    rw [h4 M (by omega) (h.dis M hM3), objs_old (by omega)]
  refine ⟨sv', s', h1, h2.one, hH, ⟨objs_here, hb, by simp only [AHeap.next_set]; omega, hs.set (h.n.off_old hb) _, h2.set (h5 H (by omega) (h.s.off_old hb)) _, fun M hM => ?_⟩, by simp only [AHeap.next_set]; omega, fun M g1 g2 g3 g4 => ⟨?_, g3, h5 M (by omega) g4⟩⟩
  · have hlt : M < s.next := Nat.lt_of_not_le fun hc => hM (h.n.off_new hc)
    exact h5 M (by omega) (h.dis M hM)
  · rw [objs_else g2, h4 M (by omega) g4, objs_old (by omega)]
def putOps (bx hx t : Nat) (x : Nat × Bool × Nat × FuncId) : List AOper :=
  [⟨some t, .mv (.t hx), none, []⟩, ⟨some (t + 1), .fa x.1 (.t bx), none, []⟩, ⟨some (t + 2), .load x.2.1 x.2.2.1 (.t (t + 1)), none, []⟩, ⟨some (t + 3), .callF x.2.2.2 [(.t t), (.t (t + 2))], none, []⟩]
def putBody (bx hx : Nat) : Nat → List (Nat × Bool × Nat × FuncId) → ACode
  | _, [] => .skip
  | t, [x] => .ops (putOps bx hx t x)
  | t, x :: y :: r => .seq (.ops (putOps bx hx t x)) (putBody bx hx (t + 4) (y :: r))
inductive PutsAll (P : Program) (W : Nat → AHeap → AVal → AVal → Prop) (row : List AVal) : List (Nat × Bool × Nat × FuncId) → List Int → List ByteArray → Prop
  | nil : PutsAll P W row [] [] []
  | cons {off n : Nat} {g : Bool} {f : FuncId} {v : AVal} {A A' : List Int} {B B' : List ByteArray} {r : List (Nat × Bool × Nat × FuncId)} (h : partA g n off row = some v) (hp : PutSpec P W (.func (.func f) [] []) v A B) (hr : PutsAll P W row r A' B') :
      PutsAll P W row ((off, g, n, f) :: r) (A ++ A') (B ++ B')
theorem putBody_spec {P : Program} {W : Nat → AHeap → AVal → AVal → Prop} (hW : Stays W) {row : List AVal} {bx hx m H b Bn : Nat} : ∀ (r : List (Nat × Bool × Nat × FuncId)) (A : List Int) (B : List ByteArray), PutsAll P W row r A B → r ≠ [] →
    ∀ (t : Nat) (env : AEnv) (s : AHeap) (nv sv : AVal) (ns : List Int) (ss : List ByteArray) (Q : AExit → AEnv → AHeap → Prop), hx < t → bx < t → env.t hx = .ptr H 0 0 → env.t bx = .ptr Bn 0 0 → Bn < s.next → Bn ≠ H → Off nv Bn → Off sv Bn → s.objs Bn = some (.cells m [row]) →
    W H s nv sv → Hp s H b nv sv ns ss → ns.length + A.length ≤ 1099511627776 → ss.length + B.length ≤ 1099511627776 →
    (∀ env' s' nv' sv', env'.ds = env.ds → Hp s' H b nv' sv' (ns ++ A) (ss ++ B) → Step H s nv sv s' nv' sv' → Q .normal env' s') → wpA P (putBody bx hx t r) none env s Q := by
  intro r
  induction r with
  | nil => intro A B _ h; exact absurd rfl h
  | cons x r ih =>
    rintro A B hall _ t env s nv sv ns ss Q h1 h2 h3 h4 h5 h6 h7 h8 h9 hw hp hl1 hl2 hQ
    cases hall with
    | @cons off n g f v A1 A2 B1 B2 _ hv hs hr =>
    simp only [List.length_append] at hl1 hl2
    have one : ∀ Q' : AExit → AEnv → AHeap → Prop, (∀ env' s' nv' sv', env'.ds = env.ds → env'.t hx = .ptr H 0 0 → env'.t bx = .ptr Bn 0 0 → Hp s' H b nv' sv' (ns ++ A1) (ss ++ B1) → Step H s nv sv s' nv' sv' → Q' .normal env' s') → Go.Tc.wpOps P none (putOps bx hx t (off, g, n, f)) env s Q' := by
      intro Q' hQ'
      have e1 : ∀ v', (env.put (some t) v').t bx = env.t bx := fun v' => by
        rw [put_some, set_get, beq_eq_false_iff_ne.2 (by omega)]; rfl
      have e2 : ∀ v' v'', ((env.put (some t) v').put (some (t + 1)) v'').t (t + 1) = v'' := fun v' v'' => by
        rw [put_some, put_some, set_get, beq_iff_eq.2 rfl]; rfl
      simp only [putOps]
      rw [L_mv, ev_t, h3, k1_some, L_fa, ev_t, e1, h4, addr_ptr, k1_some, L_load, ev_t, e2, Nat.zero_add, load_ptr, h9, loadO_row, hv, k1_some, L_callFK]
      have e3 : (List.map (AEnv.ev (((env.put (some t) (.ptr H 0 0)).put (some (t + 1)) (.ptr Bn 0 off)).put (some (t + 2)) v)) [.t t, .t (t + 2)]) = [.ptr H 0 0, v] := by
        simp only [List.map_cons, List.map_nil, ev_t, put_some, set_get]
        simp [show (t == t + 1) = false from beq_eq_false_iff_ne.2 (by omega), show (t == t + 2) = false from beq_eq_false_iff_ne.2 (by omega)]
      rw [e3]
      refine (hs s H b nv sv ns ss hw hp (by omega) (by omega)).mono fun o s' ⟨⟨v', ho⟩, nv', sv', hp', hst⟩ => ?_
      subst ho
      show Go.Tc.wpOps P none [] _ s' Q'
      rw [L_nil]
      refine hQ' _ s' nv' sv' rfl ?_ ?_ hp' hst
      · simp only [put_some, set_get]
        simp [beq_eq_false_iff_ne.2 (show hx ≠ t + 3 by omega), beq_eq_false_iff_ne.2 (show hx ≠ t + 2 by omega), beq_eq_false_iff_ne.2 (show hx ≠ t + 1 by omega), beq_eq_false_iff_ne.2 (show hx ≠ t by omega), h3]
      · simp only [put_some, set_get]
        simp [beq_eq_false_iff_ne.2 (show bx ≠ t + 3 by omega), beq_eq_false_iff_ne.2 (show bx ≠ t + 2 by omega), beq_eq_false_iff_ne.2 (show bx ≠ t + 1 by omega), beq_eq_false_iff_ne.2 (show bx ≠ t by omega), h4]
    cases r with
    | nil =>
      cases hr
      show Go.Tc.wpOps P none (putOps bx hx t (off, g, n, f)) env s Q
      refine one Q fun env' s' nv' sv' hd _ _ hp' hst => hQ env' s' nv' sv' hd ?_ hst
      simpa using hp'
    | cons y r =>
      show wpA P (.seq (.ops (putOps bx hx t (off, g, n, f))) (putBody bx hx (t + 4) (y :: r))) none env s Q
      rw [A_seq, A_ops]
      refine one _ fun env' s' nv' sv' hd g1 g2 hp' hst => ?_
      rw [th_normal]
      obtain ⟨b1, b2, b3⟩ := hst.2 Bn h5 h6 h7 h8
      refine ih A2 B2 hr (by simp) (t + 4) env' s' nv' sv' (ns ++ A1) (ss ++ B1) Q (by omega) (by omega) g1 g2 (Nat.lt_of_lt_of_le h5 hst.1) h6 b2 b3 (b1.trans h9) (hW _ _ _ _ _ _ _ hw hst) hp' (by simp only [List.length_append]; omega) (by simp only [List.length_append]; omega)
        fun env2 s2 nv2 sv2 hd2 hp2 hst2 => hQ env2 s2 nv2 sv2 (hd2.trans hd) ?_ (hst.trans hst2)
      simpa [List.append_assoc] using hp2
theorem putStruct_spec {P : Program} (hP : P.follows .mixedOrders = true) {W : Nat → AHeap → AVal → AVal → Prop} (hW : Stays W) {f : FuncId} {n : Nat} {r : List (Nat × Bool × Nat × FuncId)} (hk : compFunc P f = some (n, .seq (.ops [⟨some 3, .box (.t 1), none, []⟩]) (putBody 3 0 4 r), [])) (hn : 2 ≤ n)
    {row : List AVal} (h1 : row.all AVal.one = true) {A : List Int} {B : List ByteArray} (hr : PutsAll P W row r A B) (hne : r ≠ []) : PutSpec P W (.func (.func f) [] []) (.agg row) A B := by
  intro s H b nv sv ns ss hw hp hl1 hl2
  refine RunV.func hP hk (by simpa using hn) ?_
  have hlt := Nat.lt_of_lt_of_le hp.hb hp.bn
  simp (disch := omega) only [↓CTL, VAL, Nat.reduceBEq, h1]
  refine putBody_spec hW (m := row.length) (Bn := s.next) (H := H) (b := b) r A B hr hne 4 _ _ nv sv ns ss _ (by omega) (by omega) ?_ ?_ (by simp) (by omega) (hp.n.off_new (Nat.le_refl _)) (hp.s.off_new (Nat.le_refl _)) (objs_new rfl) (hW _ _ _ _ _ _ _ hw .alloc) (hp.alloc _) hl1 hl2 fun env' s' nv' sv' hd hp' hst => ?_
  · simp only [VAL, Nat.reduceBEq]
  · simp only [VAL, Nat.reduceBEq]
  · rw [retA_normal]
    refine ⟨hd, ?_⟩
    simp only [resAs]
    exact ⟨⟨_, rfl⟩, nv', sv', hp', Step.alloc.trans hst⟩
end Go.Tc
namespace Go.Tc
set_option linter.unusedSimpArgs false
def putIntCode : ACode := .ops [⟨some 4, .mv (.t 0), none, []⟩, ⟨some 5, .mv (.t 0), none, []⟩, ⟨some 6, .nilck (.t 5), none, []⟩, ⟨some 7, .fa 0 (.t 6), none, []⟩, ⟨some 8, .load false 1 (.t 7), none, []⟩, ⟨some 9, .mv (.t 1), none, []⟩,
  ⟨some 10, .buildS 1 [.int .i64 0] 1 [(0, .t 9)], none, []⟩, ⟨some 11, .app 1 8 (.t 8) (.t 10), none, []⟩, ⟨some 12, .nilck (.t 4), none, []⟩, ⟨some 13, .fa 0 (.t 12), none, []⟩, ⟨none, .store 1 (.t 13) (.t 11), none, []⟩]
def putByteCode : ACode := .ops [⟨some 4, .mv (.t 0), none, []⟩, ⟨some 5, .mv (.t 0), none, []⟩, ⟨some 6, .nilck (.t 5), none, []⟩, ⟨some 7, .fa 0 (.t 6), none, []⟩, ⟨some 8, .load false 1 (.t 7), none, []⟩, ⟨some 9, .mv (.t 1), none, []⟩, ⟨some 10, .conv (.int .i64) (.t 9), none, []⟩,
  ⟨some 11, .buildS 1 [.int .i64 0] 1 [(0, .t 10)], none, []⟩, ⟨some 12, .app 1 8 (.t 8) (.t 11), none, []⟩, ⟨some 13, .nilck (.t 4), none, []⟩, ⟨some 14, .fa 0 (.t 13), none, []⟩, ⟨none, .store 1 (.t 14) (.t 12), none, []⟩]
def putsCode (m : Nat) (g : Bool) : ACode :=
 .seq (.ops [⟨some 7, .mv (.t 0), none, []⟩, ⟨some 8, .mv (.t 0), none, []⟩, ⟨some 9, .nilck (.t 8), none, []⟩, ⟨some 10, .fa 0 (.t 9), none, []⟩, ⟨some 11, .load false 1 (.t 10), none, []⟩, ⟨some 12, .mv (.t 1), none, []⟩, ⟨some 13, .lenS (.t 12), none, []⟩,
   ⟨some 14, .buildS 1 [.int .i64 0] 1 [(0, .t 13)], none, []⟩, ⟨some 15, .app 1 8 (.t 11) (.t 14), none, []⟩, ⟨some 16, .nilck (.t 7), none, []⟩, ⟨some 17, .fa 0 (.t 16), none, []⟩, ⟨none, .store 1 (.t 17) (.t 15), none, []⟩])
 (.seq (.ops [⟨some 6, .mv (.c (.int .i64 0)), none, []⟩])
 (.block 0 (.loop (.seq (.seq (.ops [⟨some 18, .mv (.t 6), none, []⟩, ⟨some 19, .mv (.t 1), none, []⟩, ⟨some 20, .lenS (.t 19), none, []⟩, ⟨some 21, .bin .lss .int (.t 18) (.t 20), none, []⟩]) (.cond (.t 21) .skip (.exit 0)))
  (.seq (.block 1 (.ops [⟨some 24, .mv (.t 2), none, []⟩, ⟨some 25, .mv (.t 0), none, []⟩, ⟨some 26, .mv (.t 1), none, []⟩, ⟨some 27, .mv (.t 6), none, []⟩, ⟨some 28, .ixS m (.t 26) (.t 27), none, []⟩, ⟨some 29, .load g m (.t 28), none, []⟩, ⟨some 30, .callV (.t 24) [.t 25, .t 29], none, []⟩]))
  (.ops [⟨some 22, .mv (.t 6), none, []⟩, ⟨some 23, .bin .add .int (.t 22) (.c (.int .i64 1)), none, []⟩, ⟨some 6, .mv (.t 23), none, []⟩]))))))
def putLCode (p e : FuncId) : ACode := .ops [⟨some 4, .mv (.t 0), none, []⟩, ⟨some 5, .mv (.t 1), none, []⟩, ⟨some 6, .callF p [.t 4, .t 5, .f e], none, []⟩]
section
variable {P : Program} {W : Nat → AHeap → AVal → AVal → Prop}
theorem putInt_spec (hP : P.follows .mixedOrders = true) {f : FuncId} (hk : compFunc P f = some (14, putIntCode, [])) (x : Int) : PutSpec P W (.func (.func f) [] []) (.int .i64 x) [x] [] := by
  intro s H b nv sv ns ss _ hp hl1 hl2
  have hH := hp.obj
  have hb := hp.hb
  have hbn := hp.bn
  refine RunV.func hP hk (by simp) ?_
  obtain ⟨nv', s', h1, h2, h3, h4, h5⟩ := hp.num x (by simpa using hl1)
  simp (disch := omega) only [putIntCode, ↓CTL, VAL, FILL, Nat.reduceBEq, Nat.reduceAdd, hH, h1, h2, h3]
  exact ⟨⟨_, rfl⟩, nv', sv, by simpa using h4, h5⟩
theorem putByte_spec (hP : P.follows .mixedOrders = true) {f : FuncId} (hk : compFunc P f = some (15, putByteCode, [])) (k : IntKind) (x : Int) : PutSpec P W (.func (.func f) [] []) (.int k x) [IntKind.i64.wrap x] [] := by
  intro s H b nv sv ns ss _ hp hl1 hl2
  have hH := hp.obj
  have hb := hp.hb
  have hbn := hp.bn
  refine RunV.func hP hk (by simp) ?_
  obtain ⟨nv', s', h1, h2, h3, h4, h5⟩ := hp.num (IntKind.i64.wrap x) (by simpa using hl1)
  generalize hw : IntKind.i64.wrap x = y at h1 h4 ⊢
  simp (disch := omega) only [putByteCode, ↓CTL, VAL, FILL, Nat.reduceBEq, Nat.reduceAdd, hH, hw, h1, h2, h3]
  exact ⟨⟨_, rfl⟩, nv', sv, by simpa using h4, h5⟩
theorem puts_spec (hP : P.follows .mixedOrders = true) (hW : Stays W) {f : FuncId} {m : Nat} {g : Bool} (hk : compFunc P f = some (31, putsCode m g, [])) {α : Type} [Inhabited α] {r : α → List AVal} {v put : AVal} {l : List α} (hv : ∀ H s nv sv, W H s nv sv → TV s m r v l) (hl : l.length ≤ 1099511627776)
    (el : α → AVal) (he : ∀ x, partA g m 0 (r x) = some (el x)) (A : α → List Int) (B : α → List ByteArray) (hp : ∀ x ∈ l, PutSpec P W put (el x) (A x) (B x)) :
    ∀ s H b nv sv ns ss, W H s nv sv → Hp s H b nv sv ns ss → ns.length + (((l.length : Int)) :: l.flatMap A).length ≤ 1099511627776 → ss.length + (l.flatMap B).length ≤ 1099511627776 →
    RunV P (.func (.func f) [] []) [.ptr H 0 0, v, put] s (fun o s' => (∃ v, o = .ret v) ∧ ∃ nv' sv', Hp s' H b nv' sv' (ns ++ ((l.length : Int)) :: l.flatMap A) (ss ++ l.flatMap B) ∧ Step H s nv sv s' nv' sv') := by
  intro s H b nv sv ns ss hw hh hl1 hl2
  have hH := hh.obj
  have hb := hh.hb
  have hbn := hh.bn
  simp only [List.length_cons] at hl1
  refine RunV.func hP hk (by simp) ?_
  obtain ⟨nv1, s1, h1, h2, h3, h4, h5⟩ := hh.num (l.length : Int) (by omega)
  simp (disch := omega) only [putsCode, ↓CTL, VAL, FILL, Nat.reduceBEq, Nat.reduceAdd, hH, (hv _ _ _ _ hw).len, h1, h2, h3]
  refine A_loopV (α := Nat × AVal × AVal) [18, 19, 20, 21, 24, 25, 26, 27, 28, 29, 30, 22, 23, 6] (fun x => [(6, .int .i64 x.1)]) (fun x t => x.1 ≤ l.length ∧ Hp t H b x.2.1 x.2.2 (ns ++ (l.length : Int) :: (l.take x.1).flatMap A) (ss ++ (l.take x.1).flatMap B) ∧ Step H s nv sv t x.2.1 x.2.2) (fun x => l.length - x.1) rfl (fun _ => rfl) ⟨(0, nv1, sv), ?_, Nat.zero_le _, by simpa using h4, h5⟩ ?_
  · simp only [↓CTL, VAL, Nat.reduceBEq]; rfl
  · rintro ⟨i, nv2, sv2⟩ f' t ⟨hi, hh2, hst⟩
    dsimp only at hi hh2 hst ⊢
    have hw2 := hW _ _ _ _ _ _ _ hw hst
    have hvt := (hv _ _ _ _ hw2).S
    simp (disch := omega) only [↓CTL, VAL, Nat.reduceBEq, Nat.reduceAdd, hvt]
    refine B_if (fun hlt => ?_) (fun hge => ?_)
    · simp (disch := omega) only [↓CTL, VAL, Nat.reduceBEq, Nat.reduceAdd, hvt, he, Int.toNat_natCast]
      have hmem : l.getD i default ∈ l := by rw [List.getD_eq_getElem?_getD, List.getElem?_eq_getElem (by omega)]; exact List.getElem_mem _
      have hts : l.take (i + 1) = l.take i ++ [l.getD i default] := by
        rw [List.take_add_one, List.getElem?_eq_getElem (by omega), List.getD_eq_getElem?_getD, List.getElem?_eq_getElem (by omega)]; rfl
      have hfA : (l.take (i + 1)).flatMap A = (l.take i).flatMap A ++ A (l.getD i default) := by rw [hts]; simp
      have hfB : (l.take (i + 1)).flatMap B = (l.take i).flatMap B ++ B (l.getD i default) := by rw [hts]; simp
      have lA : ((l.take (i + 1)).flatMap A).length ≤ (l.flatMap A).length := by
        conv => rhs; rw [← List.take_append_drop (i + 1) l, List.flatMap_append]
        simp
      have lB : ((l.take (i + 1)).flatMap B).length ≤ (l.flatMap B).length := by
        conv => rhs; rw [← List.take_append_drop (i + 1) l, List.flatMap_append]
        simp
      rw [hfA, List.length_append] at lA
      rw [hfB, List.length_append] at lB
      refine (hp _ hmem t H b nv2 sv2 _ _ hw2 hh2 (by simp only [List.length_append, List.length_cons]; omega) (by simp only [List.length_append]; omega)).mono fun o s' ⟨⟨v', ho⟩, nv3, sv3, hh3, hst3⟩ => ?_
      subst ho
      simp (disch := omega) only [↓CTL, VAL, Nat.reduceBEq, Nat.reduceAdd]
      refine ⟨(i + 1, nv3, sv3), rfl, ⟨by dsimp only; omega, ?_, hst.trans hst3⟩, by dsimp only; omega⟩
      dsimp only
      rw [hfA, hfB]
      simpa [List.append_assoc] using hh3
    · simp (disch := omega) only [↓CTL, VAL, Nat.reduceBEq, Nat.reduceAdd]
      have : i = l.length := by omega
      subst this
      rw [List.take_length] at hh2
      exact ⟨⟨_, rfl⟩, nv2, sv2, hh2, hst⟩
theorem putL_spec (hP : P.follows .mixedOrders = true) (hW : Stays W) {f p e : FuncId} {m : Nat} {g : Bool} (hf : compFunc P f = some (7, putLCode p e, [])) (hk : compFunc P p = some (31, putsCode m g, [])) {α : Type} [Inhabited α] {r : α → List AVal} {v : AVal} {l : List α} (hv : ∀ H s nv sv, W H s nv sv → TV s m r v l) (hl : l.length ≤ 1099511627776)
    (el : α → AVal) (he : ∀ x, partA g m 0 (r x) = some (el x)) (A : α → List Int) (B : α → List ByteArray) (hp : ∀ x ∈ l, PutSpec P W (.func (.func e) [] []) (el x) (A x) (B x)) :
    PutSpec P W (.func (.func f) [] []) v ((l.length : Int) :: l.flatMap A) (l.flatMap B) := by
  intro s H b nv sv ns ss hw hh hl1 hl2
  refine RunV.func hP hf (by simp) ?_
  simp (disch := omega) only [putLCode, ↓CTL, VAL, Nat.reduceBEq, Nat.reduceAdd]
  refine (puts_spec hP hW hk hv hl el he A B hp s H b nv sv ns ss hw hh hl1 hl2).mono fun o s' ⟨⟨v', ho⟩, nv3, sv3, hh3, hst3⟩ => ?_
  subst ho
  simp (disch := omega) only [↓CTL, VAL, Nat.reduceBEq, Nat.reduceAdd]
  exact ⟨⟨_, rfl⟩, nv3, sv3, hh3, hst3⟩
end
def WipeAt (P : Program) (f : AVal) (m k : Nat) : Prop :=
  ∀ s N i rows, N < s.next → s.objs N = some (.cells m rows) → i < rows.length → (∀ row ∈ rows, row.length = m) → RunV P f [.ptr N i k] s (fun o s' => (∃ v, o = .ret v) ∧ s.next ≤ s'.next ∧ (∃ rows', s'.objs N = some (.cells m rows') ∧ rows'.length = rows.length ∧ ∀ row ∈ rows', row.length = m) ∧ ∀ M, M < s.next → M ≠ N → s'.objs M = s.objs M)
def wipe1Code (x : AVal) : ACode := .ops [⟨some 2, .mv (.t 0), none, []⟩, ⟨some 3, .nilck (.t 2), none, []⟩, ⟨none, .store 1 (.t 3) (.c x), none, []⟩]
def wipeOps (t : Nat) (x : Nat × FuncId) : List AOper := [⟨some t, .mv (.t 0), none, []⟩, ⟨some (t + 1), .nilck (.t t), none, []⟩, ⟨some (t + 2), .fa x.1 (.t (t + 1)), none, []⟩, ⟨some (t + 3), .callF x.2 [.t (t + 2)], none, []⟩]
def wipeBody : Nat → List (Nat × FuncId) → ACode
  | _, [] => .skip
  | t, [x] => .ops (wipeOps t x)
  | t, x :: y :: r => .seq (.ops (wipeOps t x)) (wipeBody (t + 4) (y :: r))
def wipesCode (m : Nat) : ACode :=
 .seq (.ops [⟨some 4, .mv (.c (.int .i64 0)), none, []⟩])
 (.block 0 (.loop (.seq (.seq (.ops [⟨some 5, .mv (.t 4), none, []⟩, ⟨some 6, .mv (.t 0), none, []⟩, ⟨some 7, .lenS (.t 6), none, []⟩, ⟨some 8, .bin .lss .int (.t 5) (.t 7), none, []⟩]) (.cond (.t 8) .skip (.exit 0)))
  (.seq (.block 1 (.ops [⟨some 11, .mv (.t 1), none, []⟩, ⟨some 12, .mv (.t 0), none, []⟩, ⟨some 13, .mv (.t 4), none, []⟩, ⟨some 14, .ixS m (.t 12) (.t 13), none, []⟩, ⟨some 15, .callV (.t 11) [.t 14], none, []⟩]))
  (.ops [⟨some 9, .mv (.t 4), none, []⟩, ⟨some 10, .bin .add .int (.t 9) (.c (.int .i64 1)), none, []⟩, ⟨some 4, .mv (.t 10), none, []⟩])))))
def wipeLCode (p e : FuncId) : ACode := .ops [⟨some 2, .mv (.t 0), none, []⟩, ⟨some 3, .nilck (.t 2), none, []⟩, ⟨some 4, .load false 1 (.t 3), none, []⟩, ⟨some 5, .callF p [.t 4, .f e], none, []⟩]
section
variable {P : Program}
theorem wipe1_spec (hP : P.follows .mixedOrders = true) {f : FuncId} {x : AVal} (hk : compFunc P f = some (4, wipe1Code x, [])) (h1 : x.one = true) {m k : Nat} (hkm : k < m) : WipeAt P (.func (.func f) [] []) m k := by
  intro s N i rows _ hN hi hrows
  refine RunV.func hP hk (by simp) ?_
  have hst : storeO (some (.cells m rows)) 1 i k x = some (.cells m (rows.set i (splice rows[i] k x.cells))) := by
    have hr := hrows _ (List.getElem_mem hi)
    simp only [storeO, List.getElem?_eq_getElem hi, Option.bind_some, cells_one h1, List.length_singleton, List.all_cons, List.all_nil, h1, Bool.and_true]
    rw [if_pos ⟨trivial, by omega, trivial⟩]
  have hlen : (splice rows[i] k x.cells).length = m := by
    rw [cells_one h1, splice_length _ _ _ (by have := hrows _ (List.getElem_mem hi); simp; omega)]
    exact hrows _ (List.getElem_mem hi)
  generalize splice rows[i] k x.cells = row' at hst hlen
  simp (disch := omega) only [wipe1Code, ↓CTL, VAL, Nat.reduceBEq, Nat.reduceAdd, hN, hst]
  refine ⟨⟨_, rfl⟩, Nat.le_refl _, ⟨_, rfl, by rw [List.length_set], fun row hr => ?_⟩, fun M _ hM => objsA_ne hM⟩
  rcases List.mem_or_eq_of_mem_set hr with h | h
  · exact hrows row h
  · exact h ▸ hlen
theorem wipeBody_spec {m k N i : Nat} : ∀ (r : List (Nat × FuncId)), r ≠ [] → (∀ x ∈ r, WipeAt P (.func (.func x.2) [] []) m (k + x.1)) → ∀ (t : Nat) (env : AEnv) (s : AHeap) (rows : List (List AVal)) (Q : AExit → AEnv → AHeap → Prop), 0 < t → env.t 0 = .ptr N i k → N < s.next → s.objs N = some (.cells m rows) → i < rows.length → (∀ row ∈ rows, row.length = m) →
    (∀ env' s' rows', env'.ds = env.ds → s.next ≤ s'.next → s'.objs N = some (.cells m rows') → rows'.length = rows.length → (∀ row ∈ rows', row.length = m) → (∀ M, M < s.next → M ≠ N → s'.objs M = s.objs M) → Q .normal env' s') → wpA P (wipeBody t r) none env s Q := by
  intro r
  induction r with
  | nil => intro h; exact absurd rfl h
  | cons x r ih =>
    intro _ hall t env s rows Q ht h0 hlt hN hi hrows hQ
    have one : ∀ Q' : AExit → AEnv → AHeap → Prop, (∀ env' s' rows', env'.ds = env.ds → env'.t 0 = .ptr N i k → s.next ≤ s'.next → s'.objs N = some (.cells m rows') → rows'.length = rows.length → (∀ row ∈ rows', row.length = m) → (∀ M, M < s.next → M ≠ N → s'.objs M = s.objs M) → Q' .normal env' s') →
        Go.Tc.wpOps P none (wipeOps t x) env s Q' := by
      intro Q' hQ'
      simp only [wipeOps]
      rw [L_mv, ev_t, h0, k1_some, L_nilck, ev_t, put_some, set_get, beq_iff_eq.2 rfl, w_cond_true, nilV_ptr, k1_some, L_fa, ev_t, put_some, set_get, beq_iff_eq.2 rfl, w_cond_true, addr_ptr, k1_some, L_callFK]
      have e3 : (List.map (AEnv.ev ((((env.set t (.ptr N i k)).set (t + 1) (.ptr N i k)).put (some (t + 2)) (.ptr N i (k + x.1))))) [.t (t + 2)]) = [.ptr N i (k + x.1)] := by
        simp only [List.map_cons, List.map_nil, ev_t, put_some, set_get, beq_iff_eq.2 rfl, w_cond_true]
      rw [e3]
      refine (hall x (by simp) s N i rows hlt hN hi hrows).mono fun o s' ⟨⟨v', ho⟩, g1, ⟨rows', g2, g3, g4⟩, g5⟩ => ?_
      subst ho
      show Go.Tc.wpOps P none [] _ s' Q'
      rw [L_nil]
      refine hQ' _ s' rows' rfl ?_ g1 g2 g3 g4 g5
      simp only [put_some, set_get]
      simp [show ((0 : Nat) == t + 3) = false from beq_eq_false_iff_ne.2 (by omega), show ((0 : Nat) == t + 2) = false from beq_eq_false_iff_ne.2 (by omega), show ((0 : Nat) == t + 1) = false from beq_eq_false_iff_ne.2 (by omega), show ((0 : Nat) == t) = false from beq_eq_false_iff_ne.2 (by omega), h0]
    cases r with
    | nil => exact one Q fun env' s' rows' hd _ g1 g2 g3 g4 g5 => hQ env' s' rows' hd g1 g2 g3 g4 g5
    | cons y r =>
      show wpA P (.seq (.ops (wipeOps t x)) (wipeBody (t + 4) (y :: r))) none env s Q
      rw [A_seq, A_ops]
      refine one _ fun env' s' rows' hd h0' g1 g2 g3 g4 g5 => ?_
      rw [th_normal]
      exact ih (by simp) (fun z hz => hall z (by simp [hz])) (t + 4) env' s' rows' Q (by omega) h0' (Nat.lt_of_lt_of_le hlt g1) g2 (by omega) g4 fun env2 s2 rows2 hd2 k1 k2 k3 k4 k5 =>
        hQ env2 s2 rows2 (hd2.trans hd) (Nat.le_trans g1 k1) k2 (k3.trans g3) k4 fun M hM hne => (k5 M (Nat.lt_of_lt_of_le hM g1) hne).trans (g5 M hM hne)
theorem wipeStruct_spec (hP : P.follows .mixedOrders = true) {f : FuncId} {n : Nat} {r : List (Nat × FuncId)} (hk : compFunc P f = some (n, wipeBody 2 r, [])) (hn : 1 ≤ n) (hne : r ≠ []) {m k : Nat} (hall : ∀ x ∈ r, WipeAt P (.func (.func x.2) [] []) m (k + x.1)) : WipeAt P (.func (.func f) [] []) m k := by
  intro s N i rows hNl hN hi hrows
  refine RunV.func hP hk (by simpa using hn) ?_
  refine wipeBody_spec r hne hall 2 _ s rows _ (by omega) (by simp only [VAL]) hNl hN hi hrows fun env' s' rows' hd g1 g2 g3 g4 g5 => ?_
  rw [retA_normal]
  refine ⟨hd, ?_⟩
  simp only [resAs]
  exact ⟨⟨_, rfl⟩, g1, ⟨rows', g2, g3, g4⟩, g5⟩
theorem wipeL_spec (hP : P.follows .mixedOrders = true) {f p e : FuncId} {m : Nat} (hf : compFunc P f = some (6, wipeLCode p e, [])) (hk : compFunc P p = some (16, wipesCode m, [])) (he : WipeAt P (.func (.func e) [] []) m 0) {s : AHeap} {X N : Nat} {v : AVal} {len : Nat} {rows : List (List AVal)} {ex : Bool}
    (hX : s.objs X = some (.cells 1 [[v]])) (hv : v = .nilS ∨ v = .ms m N 0 len ex ∧ N < s.next ∧ s.objs N = some (.cells m rows) ∧ len ≤ rows.length ∧ (∀ row ∈ rows, row.length = m)) (hl : len ≤ 4611686018427387904) :
    RunV P (.func (.func f) [] []) [.ptr X 0 0] s (fun o s' => (∃ v, o = .ret v) ∧ s.next ≤ s'.next ∧ ∀ M, M < s.next → (M ≠ N ∨ v = .nilS) → s'.objs M = s.objs M) := by
  refine RunV.func hP hf (by simp) ?_
  simp (disch := omega) only [wipeLCode, ↓CTL, VAL, Nat.reduceBEq, Nat.reduceAdd, hX]
  have key : RunV P (.func (.func p) [] []) [v, .func (.func e) [] []] s (fun o s' => (∃ v, o = .ret v) ∧ s.next ≤ s'.next ∧ ∀ M, M < s.next → (M ≠ N ∨ v = .nilS) → s'.objs M = s.objs M) := by
    refine RunV.func hP hk (by simp) ?_
    rcases hv with rfl | ⟨rfl, h1, h2, h3, h4⟩
    · simp (disch := omega) only [wipesCode, ↓CTL, VAL, Nat.reduceBEq, Nat.reduceAdd]
      refine A_loopV (α := Nat) [5, 6, 7, 8, 11, 12, 13, 14, 15, 9, 10, 4] (fun i => [(4, .int .i64 i)]) (fun i t => i = 0 ∧ t = s) (fun _ => 0) rfl (fun _ => rfl) ⟨0, ?_, rfl, rfl⟩ ?_
      · simp only [↓CTL, VAL, Nat.reduceBEq]; rfl
      · rintro i f' t ⟨rfl, rfl⟩
        simp (disch := omega) only [↓CTL, VAL, Nat.reduceBEq, Nat.reduceAdd]
        exact ⟨⟨_, rfl⟩, Nat.le_refl _, fun _ _ _ => trivial⟩
    · simp (disch := omega) only [wipesCode, ↓CTL, VAL, Nat.reduceBEq, Nat.reduceAdd]
      refine A_loopV (α := Nat) [5, 6, 7, 8, 11, 12, 13, 14, 15, 9, 10, 4] (fun i => [(4, .int .i64 i)]) (fun i t => i ≤ len ∧ s.next ≤ t.next ∧ (∃ rows', t.objs N = some (.cells m rows') ∧ rows'.length = rows.length ∧ ∀ row ∈ rows', row.length = m) ∧ ∀ M, M < s.next → M ≠ N → t.objs M = s.objs M) (fun i => len - i) rfl (fun _ => rfl) ⟨0, ?_, Nat.zero_le _, Nat.le_refl _, ⟨rows, h2, rfl, h4⟩, fun _ _ _ => rfl⟩ ?_
      · simp only [↓CTL, VAL, Nat.reduceBEq]; rfl
      · rintro i f' t ⟨hi, hn, ⟨rows', r1, r2, r3⟩, hM⟩
        simp (disch := omega) only [↓CTL, VAL, Nat.reduceBEq, Nat.reduceAdd]
        refine B_if (fun hlt => ?_) (fun hge => ?_)
        · simp (disch := omega) only [↓CTL, VAL, Nat.reduceBEq, Nat.reduceAdd, Int.toNat_natCast, Nat.zero_add]
          refine (he t N i rows' (by omega) r1 (by omega) r3).mono fun o s' ⟨⟨v', ho⟩, g1, ⟨rows2, g2, g3, g4⟩, g5⟩ => ?_
          subst ho
          simp (disch := omega) only [↓CTL, VAL, Nat.reduceBEq, Nat.reduceAdd]
          exact ⟨i + 1, rfl, ⟨by omega, by omega, ⟨rows2, g2, by omega, g4⟩, fun M h5 h6 => (g5 M (by omega) h6).trans (hM M h5 h6)⟩, by omega⟩
        · simp (disch := omega) only [↓CTL, VAL, Nat.reduceBEq, Nat.reduceAdd]
          exact ⟨⟨_, rfl⟩, hn, fun M h5 h6 => hM M h5 (by rcases h6 with h | h; exact h; cases h)⟩
  refine key.mono fun o s' ⟨⟨v', ho⟩, h1, h2⟩ => ?_
  subst ho
  simp (disch := omega) only [↓CTL, VAL, Nat.reduceBEq, Nat.reduceAdd]
  exact ⟨⟨_, rfl⟩, h1, h2⟩
end
end Go.Tc
namespace Go.Tc
set_option linter.unusedSimpArgs false
set_option maxRecDepth 20000
def sameCode : ACode :=
 .seq (.ops [
   ⟨(some 2), .box (.t 0), none, []⟩,
   ⟨(some 3), .box (.t 1), none, []⟩,
   ⟨(some 4), .mv (.c (.bool false)), none, []⟩])
 (.seq (.seq (.ops [
   ⟨(some 7), .fa 0 (.t 2), none, []⟩,
   ⟨(some 8), .load false 1 (.t 7), none, []⟩,
   ⟨(some 9), .lenS (.t 8), none, []⟩,
   ⟨(some 10), .fa 0 (.t 3), none, []⟩,
   ⟨(some 11), .load false 1 (.t 10), none, []⟩,
   ⟨(some 12), .lenS (.t 11), none, []⟩,
   ⟨(some 13), .bin .neq .int (.t 9) (.t 12), none, []⟩,
   ⟨(some 14), .mv (.t 13), none, []⟩,
   ⟨(some 15), .fa 1 (.t 2), (some (14, false)), []⟩,
   ⟨(some 16), .load false 1 (.t 15), (some (14, false)), []⟩,
   ⟨(some 17), .lenS (.t 16), (some (14, false)), []⟩,
   ⟨(some 18), .fa 1 (.t 3), (some (14, false)), []⟩,
   ⟨(some 19), .load false 1 (.t 18), (some (14, false)), []⟩,
   ⟨(some 20), .lenS (.t 19), (some (14, false)), []⟩,
   ⟨(some 21), .bin .neq .int (.t 17) (.t 20), (some (14, false)), []⟩,
   ⟨(some 22), .pick (.t 14) (.c (.bool true)) (.t 21), none, []⟩])
 (.cond (.t 22)
  (.seq (.ops [
    ⟨(some 4), .mv (.c (.bool false)), none, []⟩])
  (.ret))
  (.skip)))
 (.seq (.seq (.ops [
   ⟨(some 5), .mv (.c (.int .i64 0)), none, []⟩])
 (.block 0 (.loop (.seq (.seq (.ops [
    ⟨(some 23), .mv (.t 5), none, []⟩,
    ⟨(some 24), .fa 0 (.t 2), none, []⟩,
    ⟨(some 25), .load false 1 (.t 24), none, []⟩,
    ⟨(some 26), .lenS (.t 25), none, []⟩,
    ⟨(some 27), .bin .lss .int (.t 23) (.t 26), none, []⟩])
  (.cond (.t 27)
   (.skip)
   (.exit 0)))
  (.seq (.block 1 (.seq (.dr [
    ⟨(some 30), .fa 0 (.t 2), none, []⟩,
    ⟨(some 31), .load false 1 (.t 30), none, [0]⟩,
    ⟨(some 32), .mv (.t 5), none, []⟩,
    ⟨(some 33), .ixS 1 (.t 31) (.t 32), none, [1, 2]⟩,
    ⟨(some 34), .load false 1 (.t 33), none, [3]⟩,
    ⟨(some 35), .fa 0 (.t 3), none, []⟩,
    ⟨(some 36), .load false 1 (.t 35), none, [5]⟩,
    ⟨(some 37), .mv (.t 5), none, []⟩,
    ⟨(some 38), .ixS 1 (.t 36) (.t 37), none, [6, 7]⟩,
    ⟨(some 39), .load false 1 (.t 38), none, [8]⟩,
    ⟨(some 40), .bin .neq .int (.t 34) (.t 39), none, [4, 9]⟩])
  (.cond (.t 40)
   (.seq (.ops [
     ⟨(some 4), .mv (.c (.bool false)), none, []⟩])
   (.ret))
   (.skip))))
  (.ops [
    ⟨(some 28), .mv (.t 5), none, []⟩,
    ⟨(some 29), .bin .add .int (.t 28) (.c (.int .i64 1)), none, []⟩,
    ⟨(some 5), .mv (.t 29), none, []⟩]))))))
 (.seq (.seq (.ops [
   ⟨(some 6), .mv (.c (.int .i64 0)), none, []⟩])
 (.block 2 (.loop (.seq (.seq (.ops [
    ⟨(some 41), .mv (.t 6), none, []⟩,
    ⟨(some 42), .fa 1 (.t 2), none, []⟩,
    ⟨(some 43), .load false 1 (.t 42), none, []⟩,
    ⟨(some 44), .lenS (.t 43), none, []⟩,
    ⟨(some 45), .bin .lss .int (.t 41) (.t 44), none, []⟩])
  (.cond (.t 45)
   (.skip)
   (.exit 2)))
  (.seq (.block 3 (.seq (.dr [
    ⟨(some 48), .fa 1 (.t 2), none, []⟩,
    ⟨(some 49), .load false 1 (.t 48), none, [0]⟩,
    ⟨(some 50), .mv (.t 6), none, []⟩,
    ⟨(some 51), .ixS 1 (.t 49) (.t 50), none, [1, 2]⟩,
    ⟨(some 52), .load false 1 (.t 51), none, [3]⟩,
    ⟨(some 53), .fa 1 (.t 3), none, []⟩,
    ⟨(some 54), .load false 1 (.t 53), none, [5]⟩,
    ⟨(some 55), .mv (.t 6), none, []⟩,
    ⟨(some 56), .ixS 1 (.t 54) (.t 55), none, [6, 7]⟩,
    ⟨(some 57), .load false 1 (.t 56), none, [8]⟩,
    ⟨(some 58), .bin .neq .str (.t 52) (.t 57), none, [4, 9]⟩])
  (.cond (.t 58)
   (.seq (.ops [
     ⟨(some 4), .mv (.c (.bool false)), none, []⟩])
   (.ret))
   (.skip))))
  (.ops [
    ⟨(some 46), .mv (.t 6), none, []⟩,
    ⟨(some 47), .bin .add .int (.t 46) (.c (.int .i64 1)), none, []⟩,
    ⟨(some 6), .mv (.t 47), none, []⟩]))))))
 (.seq (.ops [
   ⟨(some 4), .mv (.c (.bool true)), none, []⟩])
 (.ret)))))
def againCode (sm : FuncId) : ACode :=
 .seq (.ops [
   ⟨(some 2), .mv (.c (.bool false)), none, []⟩])
 (.seq (.ops [
   ⟨(some 3), .alloc [.nilS, .nilS], none, []⟩,
   ⟨(some 4), .alloc [.nilS, .nilS], none, []⟩])
 (.seq (.ops [
   ⟨(some 6), .mv (.t 0), none, []⟩,
   ⟨(some 7), .callV (.t 6) [(.t 3)], none, []⟩,
   ⟨(some 5), .mv (.t 7), none, []⟩])
 (.seq (.ops [
   ⟨(some 8), .mv (.t 5), none, []⟩,
   ⟨(some 9), .callV (.t 8) [], none, []⟩])
 (.seq (.ops [
   ⟨(some 10), .mv (.t 0), none, []⟩,
   ⟨(some 11), .callV (.t 10) [(.t 4)], none, []⟩])
 (.seq (.ops [
   ⟨(some 12), .load true 2 (.t 3), none, []⟩,
   ⟨(some 13), .load true 2 (.t 4), none, []⟩,
   ⟨(some 14), .callF sm [(.t 12), (.t 13)], none, []⟩,
   ⟨(some 2), .mv (.t 14), none, []⟩])
 (.ret))))))
theorem neq_str {e : EqT} {a : ByteArray} : binA .neq e (.str a) (.str a) = some (.bool false) := by
  cases e <;> simp [binA, binStr]
section
variable {P : Program}
theorem same_spec (hP : P.follows .mixedOrders = true) {f : FuncId} (hk : compFunc P f = some (59, sameCode, [.t 4])) {s : AHeap} {n1 n2 s1 s2 : AVal} {ns : List Int} {ss : List ByteArray}
    (a1 : ∀ s', Ext s s' → TV s' 1 rI n1 ns) (a2 : ∀ s', Ext s s' → TV s' 1 rI n2 ns) (b1 : ∀ s', Ext s s' → TV s' 1 rS s1 ss) (b2 : ∀ s', Ext s s' → TV s' 1 rS s2 ss) (l1 : ns.length ≤ 4611686018427387904) (l2 : ss.length ≤ 4611686018427387904)
    {Q : AOut → AHeap → Prop} (hQ : Q (.ret (.bool true)) s) : RunV P (.func (.func f) [] []) [.agg [n1, s1], .agg [n2, s2]] s Q := by
  refine RunV.drop (RunV.func hP hk (by simp) ?_)
  have hE : Ext s ((s.alloc (.cells 2 [[n1, s1]])).alloc (.cells 2 [[n2, s2]])) := ((Ext.refl _).alloc _).alloc _
  have o1 := (a1 s (.refl _)).one
  have o2 := (a2 s (.refl _)).one
  have o3 := (b1 s (.refl _)).one
  have o4 := (b2 s (.refl _)).one
  have h1 := (a1 _ hE).S
  have h2 := (a2 _ hE).S
  have h3 := (b1 _ hE).S
  have h4 := (b2 _ hE).S
  simp (disch := omega) only [sameCode, ↓CTL, VAL, Nat.reduceBEq, Nat.reduceAdd, h1, h2, h3, h4, ne_eq, not_true_eq_false, decide_false]
  refine A_loopV (α := Nat) [23, 24, 25, 26, 27, 30, 31, 32, 33, 34, 35, 36, 37, 38, 39, 40, 4, 28, 29, 5] (fun i => [(5, .int .i64 i)]) (fun i t => i ≤ ns.length ∧ t = (s.alloc (.cells 2 [[n1, s1]])).alloc (.cells 2 [[n2, s2]])) (fun i => ns.length - i) rfl (fun _ => rfl) ⟨0, ?_, Nat.zero_le _, rfl⟩ ?_
  · simp only [↓CTL, VAL, Nat.reduceBEq]; rfl
  · rintro i f' t ⟨hi, rfl⟩
    simp (disch := omega) only [↓CTL, ↓DRW, VAL, DRV, Nat.reduceBEq, Nat.reduceAdd, h1, h2, h3, h4]
    refine B_if (fun hlt => ?_) (fun hge => ?_)
    · simp (disch := omega) only [↓CTL, ↓DRW, VAL, DRV, Nat.reduceBEq, Nat.reduceAdd, h1, h2, h3, h4]
      refine dr_go [] [] ?_ ?_; · decide
      simp (disch := omega) only [↓CTL, ↓DRW, VAL, DRV, Nat.reduceBEq, Nat.reduceAdd, h1, h2, h3, h4, rI_eq, ne_eq, not_true_eq_false, decide_false]
      exact ⟨i + 1, rfl, by omega, by omega⟩
    · simp (disch := omega) only [↓CTL, ↓DRW, VAL, DRV, Nat.reduceBEq, Nat.reduceAdd, h1, h2, h3, h4]
      refine A_loopV (α := Nat) [41, 42, 43, 44, 45, 48, 49, 50, 51, 52, 53, 54, 55, 56, 57, 58, 4, 46, 47, 6] (fun i => [(6, .int .i64 i)]) (fun i t => i ≤ ss.length ∧ t = (s.alloc (.cells 2 [[n1, s1]])).alloc (.cells 2 [[n2, s2]])) (fun i => ss.length - i) rfl (fun _ => rfl) ⟨0, ?_, Nat.zero_le _, rfl⟩ ?_
      · simp only [↓CTL, VAL, Nat.reduceBEq]; rfl
      · rintro j f2 t ⟨hj, rfl⟩
        simp (disch := omega) only [↓CTL, ↓DRW, VAL, DRV, Nat.reduceBEq, Nat.reduceAdd, h1, h2, h3, h4]
        refine B_if (fun hlt => ?_) (fun hge => ?_)
        · simp (disch := omega) only [↓CTL, ↓DRW, VAL, DRV, Nat.reduceBEq, Nat.reduceAdd, h1, h2, h3, h4]
          refine dr_go [] [] ?_ ?_; · decide
          simp (disch := omega) only [↓CTL, ↓DRW, VAL, DRV, Nat.reduceBEq, Nat.reduceAdd, h1, h2, h3, h4, rS_eq, neq_str]
          exact ⟨j + 1, rfl, by omega, by omega⟩
        · simp (disch := omega) only [↓CTL, ↓DRW, VAL, DRV, Nat.reduceBEq, Nat.reduceAdd, h1, h2, h3, h4]
          exact ⟨_, rfl, rfl, hE, hQ⟩
def CallSpec (P : Program) (C : AVal) (X : Nat) (xo : AObj) (A : List Int) (B : List ByteArray) : Prop :=
  ∀ s H, X < s.next → s.objs X = some xo → H < s.next → X ≠ H → s.objs H = some (.cells 2 [[.nilS, .nilS]]) → RunV P C [.ptr H 0 0] s (fun o s' => ∃ w b nv sv, o = .ret w ∧ s.next ≤ b ∧ Hp s' H b nv sv A B ∧ (∀ M, M < s.next → M ≠ H → s'.objs M = s.objs M) ∧
    RunV P w [] s' (fun o' s'' => (∃ v, o' = .ret v) ∧ s'.next ≤ s''.next ∧ ∀ M, M < s'.next → (M < s.next ∨ b ≤ M) → s''.objs M = s'.objs M))
theorem again_spec (hP : P.follows .mixedOrders = true) {f sm : FuncId} (hk : compFunc P f = some (15, againCode sm, [.t 2])) (hs : compFunc P sm = some (59, sameCode, [.t 4])) {C : AVal} {X : Nat} {xo : AObj} {A : List Int} {B : List ByteArray} (hC : CallSpec P C X xo A B) (lA : A.length ≤ 1099511627776) (lB : B.length ≤ 1099511627776)
    {s : AHeap} (hX : X < s.next) (hxo : s.objs X = some xo) {Q : AOut → AHeap → Prop} (hQ : Q (.ret (.bool true)) s) : RunV P (.func (.func f) [] []) [C] s Q := by
  refine RunV.drop (RunV.func hP hk (by simp) ?_)
  simp (disch := omega) only [againCode, ↓CTL, VAL, Nat.reduceBEq, Nat.reduceAdd]
  refine (hC _ s.next (by simp only [AHeap.next_alloc]; omega) (by simp (disch := omega) only [VAL]; exact hxo) (by simp only [AHeap.next_alloc]; omega) (by omega) (by simp (disch := omega) only [VAL])).mono fun o s2 h => ?_
  obtain ⟨w, b, nv, sv, rfl, hb, hh, hfr, hw⟩ := h
  simp only [AHeap.next_alloc] at hb hfr hw
  have e1 := hh.bn
  simp (disch := omega) only [↓CTL, VAL, Nat.reduceBEq, Nat.reduceAdd]
  refine hw.mono fun o s3 h => ?_
  obtain ⟨⟨v, rfl⟩, hn3, hfr3⟩ := h
  have hX2 := hfr X (by omega) (by omega)
  have hX3 := hfr3 X (by omega) (by omega)
  have hB2 := hfr (s.next + 1) (by omega) (by omega)
  have hB3 := hfr3 (s.next + 1) (by omega) (by omega)
  have hA3 := hfr3 s.next (by omega) (by omega)
  simp (disch := omega) only [VAL] at hX2 hB2
  simp (disch := omega) only [↓CTL, VAL, Nat.reduceBEq, Nat.reduceAdd]
  refine (hC s3 (s.next + 1) (by omega) (hX3.trans (hX2.trans hxo)) (by omega) (by omega) (hB3.trans hB2)).mono fun o s4 h => ?_
  obtain ⟨w', b', nv', sv', rfl, hb', hh', hfr4, _⟩ := h
  have hA4 := (hfr4 s.next (by omega) (by omega)).trans (hA3.trans hh.obj)
  have hO4 := hh'.obj
  have e2 := hh'.bn
  have on : OwnS s4 b 1 rI nv A := hh.n.keep (by omega) fun M h1 h2 _ => (hfr4 M (by omega) (by omega)).trans (hfr3 M (by omega) (.inr h1))
  have os : OwnS s4 b 1 rS sv B := hh.s.keep (by omega) fun M h1 h2 _ => (hfr4 M (by omega) (by omega)).trans (hfr3 M (by omega) (.inr h1))
  simp (disch := omega) only [↓CTL, VAL, Nat.reduceBEq, Nat.reduceAdd, hA4, hO4]
  refine same_spec hP hs (fun s' h => (on.ext h).tv) (fun s' h => (hh'.n.ext h).tv) (fun s' h => (os.ext h).tv) (fun s' h => (hh'.s.ext h).tv) (by omega) (by omega) ?_
  simp (disch := omega) only [↓CTL, VAL, Nat.reduceBEq, Nat.reduceAdd]
  refine ⟨_, rfl, rfl, ⟨by omega, fun M hM => ?_⟩, hQ⟩
  rw [hfr4 M (by omega) (by omega), hfr3 M (by omega) (by omega), hfr M (by omega) (by omega)]
  simp (disch := omega) only [VAL]
end
end Go.Tc
namespace Go.Tc
set_option linter.unusedSimpArgs false
def Clo (v : AVal) : Prop := ∀ r, Ren r v v
mutual
theorem scal_ren {r : Nat → Nat → Prop} : ∀ v, scal v = true → Ren r v v
  | .bool b, _ => .bool b
  | .int k x, _ => .int k x
  | .str s, _ => .str s
  | .nilS, _ => .nilS
  | .nilP, _ => .nilP
  | .agg vs, h => .agg rfl fun i v v' h1 h2 => by
      rw [h1] at h2; cases h2
      exact scals_ren vs (by simpa [scal] using h) v (List.mem_of_getElem? h1)
  | .tup vs, h => .tup rfl fun i v v' h1 h2 => by
      rw [h1] at h2; cases h2
      exact scals_ren vs (by simpa [scal] using h) v (List.mem_of_getElem? h1)
theorem scals_ren {r : Nat → Nat → Prop} : ∀ vs, scals vs = true → ∀ v ∈ vs, Ren r v v
  | [], _ => by simp
  | v :: vs, h => by
    simp only [scals, Bool.and_eq_true] at h
    intro x hx
    have h1 := scal_ren (r := r) v h.1
    have h2 := scals_ren (r := r) vs h.2
    rcases List.mem_cons.1 hx with h3 | hx
    · rw [h3]; exact h1
    · exact h2 x hx
end
theorem Clo.scal {v : AVal} (h : Go.Tc.scal v = true) : Clo v := fun _ => scal_ren v h
theorem Clo.agg {vs : List AVal} (h : ∀ v ∈ vs, Clo v) : Clo (.agg vs) := fun r => .agg rfl fun i v v' h1 h2 => by
  rw [h1] at h2; cases h2
  exact h v (List.mem_of_getElem? h1) r
theorem Clo.rs {m i len : Nat} {ex : Bool} {rows : List (List AVal)} (h : ∀ row ∈ rows, ∀ v ∈ row, Clo v ∧ v.one = true) : Clo (.rs m rows i len ex) := fun r =>
  .rs (fun _ => rfl) id (fun j q v v' h1 h2 => by
    rw [h1] at h2; cases h2
    simp only [cellAt, Option.bind_eq_some_iff] at h1
    obtain ⟨row, hr, hv⟩ := h1
    exact (h row (List.mem_of_getElem? hr) v (List.mem_of_getElem? hv)).1 r) (fun j q v' h1 => by
    simp only [cellAt, Option.bind_eq_some_iff] at h1
    obtain ⟨row, hr, hv⟩ := h1
    exact (h row (List.mem_of_getElem? hr) v' (List.mem_of_getElem? hv)).2)
def RowsS (rows : List (List AVal)) : Prop := ∀ row ∈ rows, ∀ v ∈ row, scal v = true ∧ v.one = true
def nilHeap : AHeap := ⟨fun _ => none, 0⟩
open Classical in
noncomputable def keepS : Option AObj → Option AObj
  | some (.cells m rows) => if RowsS rows then some (.cells m rows) else none
  | _ => none
noncomputable def plus (σ s : AHeap) : AHeap := ⟨fun N => if N < σ.next then σ.objs N else if N < σ.next + s.next then keepS (s.objs (N - σ.next)) else none, σ.next + s.next⟩
def sh1 (n : Nat) : AVal → AVal
  | .ms m N i len ex => .ms m (N + n) i len ex
  | v => v
theorem plus_ext (σ s : AHeap) : Ext σ (plus σ s) := ⟨Nat.le_add_right _ _, fun _ hN => if_pos hN⟩
theorem plus_obj {σ s : AHeap} {N m : Nat} {rows : List (List AVal)} (h : s.objs N = some (.cells m rows)) (hl : N < s.next) (hs : RowsS rows) : (plus σ s).objs (N + σ.next) = some (.cells m rows) := by
  simp only [plus]
  rw [if_neg (by omega), if_pos (by omega), Nat.add_sub_cancel, h]
  simp [keepS, hs]
inductive Rk where
  | sc (v : AVal)
  | ow (m : Nat) (rows : List (List AVal))
def RP (b : Nat) (s : AHeap) : Rk → AVal → Prop
  | .sc u, v => v = u ∧ scal u = true
  | .ow m rows, v => (v = .nilS ∧ rows = []) ∨ ∃ N ex, v = .ms m N 0 rows.length ex ∧ b ≤ N ∧ N < s.next ∧ s.objs N = some (.cells m rows) ∧ RowsS rows
def RPs (b : Nat) (s : AHeap) : List Rk → List AVal → Prop
  | [], [] => True
  | k :: ks, v :: vs => RP b s k v ∧ RPs b s ks vs
  | _, _ => False
theorem RP.shift {σ s : AHeap} {k : Rk} {v : AVal} (h : RP 0 s k v) : RP σ.next (plus σ s) k (sh1 σ.next v) := by
  cases k with
  | sc u =>
    obtain ⟨rfl, hs⟩ := h
    refine ⟨?_, hs⟩
    cases v <;> first | rfl | cases hs
  | ow m rows =>
    rcases h with ⟨rfl, rfl⟩ | ⟨N, ex, rfl, _, h1, h2, h3⟩
    · exact .inl ⟨rfl, rfl⟩
    · exact .inr ⟨N + σ.next, ex, rfl, by omega, by simp only [plus]; omega, plus_obj h2 h1 h3, h3⟩
theorem RPs.shift {σ s : AHeap} : ∀ {ks : List Rk} {vs : List AVal}, RPs 0 s ks vs → RPs σ.next (plus σ s) ks (vs.map (sh1 σ.next))
  | [], [], _ => trivial
  | _ :: _, _ :: _, h => ⟨RP.shift h.1, RPs.shift h.2⟩
theorem RP.ren {σ s : AHeap} {k : Rk} {v : AVal} (h : RP 0 s k v) : Ren (fun N N' => (if N < s.next then some (N + σ.next) else none) = some N') v (sh1 σ.next v) := by
  cases k with
  | sc u =>
    obtain ⟨rfl, hs⟩ := h
    have : sh1 σ.next v = v := by cases v <;> first | rfl | cases hs
    rw [this]
    exact scal_ren v hs
  | ow m rows =>
    rcases h with ⟨rfl, rfl⟩ | ⟨N, ex, rfl, _, h1, h2, h3⟩
    · exact .nilS
    · exact .ms (by rw [if_pos h1])
theorem RPs.ren {σ s : AHeap} : ∀ {ks : List Rk} {vs : List AVal}, RPs 0 s ks vs → ∀ (i : Nat) v v', vs[i]? = some v → (vs.map (sh1 σ.next))[i]? = some v' → Ren (fun N N' => (if N < s.next then some (N + σ.next) else none) = some N') v v'
  | [], [], _, i, v, v', h1, _ => by simp at h1
  | _ :: _, a :: _, h, 0, v, v', h1, h2 => by
    simp at h1 h2; subst h1; subst h2; exact h.1.ren
  | _ :: _, _ :: _, h, i + 1, v, v', h1, h2 => by
    simp only [List.getElem?_cons_succ, List.map_cons] at h1 h2
    exact RPs.ren h.2 i v v' h1 h2
theorem CallV.uni {P : Program} {f : FuncId} {zs : List AVal} (hclo : ∀ a ∈ zs, Clo a) {vs : List AVal} {ks : List Rk} {s : AHeap} (h : CallV P (.func (.func f) [] []) zs nilHeap (.ret (.tup vs)) s) (hr : RPs 0 s ks vs) (σ : AHeap) :
    CallV P (.func (.func f) [] []) zs σ (.ret (.tup (vs.map (sh1 σ.next)))) (plus σ s) := by
  refine h.ren (fun N => if N < s.next then some (N + σ.next) else none) (fun N' => if σ.next ≤ N' ∧ N' < σ.next + s.next then some (N' - σ.next) else none) (fun N N' => ?_) (fun N N' hg => ?_) (fun N N' hg => ?_) (Nat.le_add_right _ _) (.func rfl rfl (by simp) (by simp)) rfl
    (fun i a a0 h1 h2 => by rw [h1] at h2; cases h2; exact hclo a (List.mem_of_getElem? h1) _) (fun N o hN => by simp [nilHeap] at hN) (fun N' o' hN => ?_) ?_
  · constructor
    · intro hg
      split at hg
      · cases hg
        rw [if_pos ⟨by omega, by omega⟩]; congr 1; omega
      · cases hg
    · intro hg
      split at hg
      · cases hg
        rw [if_pos (by omega)]; congr 1; omega
      · cases hg
  · simp only [nilHeap]
    split at hg
    · cases hg; omega
    · cases hg
  · simp only [plus]
    split at hg
    · cases hg; omega
    · cases hg
  · simp only [plus] at hN
    split at hN
    · rename_i hlt
      right
      exact ⟨by rw [if_neg (by omega)], hN⟩
    · rename_i hge
      left
      split at hN
      case isFalse => cases hN
      rename_i hlt2
      cases ho : s.objs (N' - σ.next) with
      | none => rw [ho] at hN; cases hN
      | some o =>
        cases o with
        | cells m rows =>
          rw [ho] at hN
          simp only [keepS] at hN
          split at hN
          · rename_i hrows
            cases hN
            refine ⟨N' - σ.next, .cells m rows, ?_, ho, .cells (fun _ => rfl) (fun j q v v' h1 h2 => ?_) (fun j q v' h1 => ?_)⟩
            · show (if N' - σ.next < s.next then some (N' - σ.next + σ.next) else none) = some N'
              rw [if_pos (by omega)]; congr 1; omega
            · rw [h1] at h2; cases h2
              simp only [cellAt, Option.bind_eq_some_iff] at h1
              obtain ⟨row, hr, hv⟩ := h1
              exact scal_ren v (hrows row (List.mem_of_getElem? hr) v (List.mem_of_getElem? hv)).1
            · simp only [cellAt, Option.bind_eq_some_iff] at h1
              obtain ⟨row, hr, hv⟩ := h1
              exact (hrows row (List.mem_of_getElem? hr) v' (List.mem_of_getElem? hv)).2
          · cases hN
        | _ => rw [ho] at hN; cases hN
  · exact .tup (by simp) hr.ren
theorem RunV.uni {P : Program} {f : FuncId} {zs : List AVal} (hclo : ∀ a ∈ zs, Clo a) (h : ∀ σ, RunV P (.func (.func f) [] []) zs σ (fun o s => ∃ ks vs, o = .ret (.tup vs) ∧ RPs σ.next s ks vs ∧ Ext σ s)) :
    ∃ ks, ∀ σ, RunV P (.func (.func f) [] []) zs σ (fun o s => ∃ vs, o = .ret (.tup vs) ∧ RPs σ.next s ks vs ∧ Ext σ s) := by
  obtain ⟨o, s, ⟨ks, vs, rfl, hr, _⟩, hc⟩ := h nilHeap
  exact ⟨ks, fun σ => ⟨_, _, ⟨_, rfl, hr.shift, plus_ext σ s⟩, hc.uni hclo hr σ⟩⟩
theorem RunV.uniG {P : Program} {f : FuncId} {zs : List AVal} (hclo : ∀ a ∈ zs, Clo a) {γ : Type} (mk : γ → List Rk) (h : ∀ σ, RunV P (.func (.func f) [] []) zs σ (fun o s => ∃ c vs, o = .ret (.tup vs) ∧ RPs σ.next s (mk c) vs ∧ Ext σ s)) :
    ∃ c, ∀ σ, RunV P (.func (.func f) [] []) zs σ (fun o s => ∃ vs, o = .ret (.tup vs) ∧ RPs σ.next s (mk c) vs ∧ Ext σ s) := by
  obtain ⟨o, s, ⟨c, vs, rfl, hr, _⟩, hc⟩ := h nilHeap
  exact ⟨c, fun σ => ⟨_, _, ⟨_, rfl, hr.shift, plus_ext σ s⟩, hc.uni hclo hr σ⟩⟩
theorem RPs.two {b : Nat} {s : AHeap} {k1 k2 : Rk} {vs : List AVal} (h : RPs b s [k1, k2] vs) : ∃ v1 v2, vs = [v1, v2] ∧ RP b s k1 v1 ∧ RP b s k2 v2 := by
  match vs, h with
  | [v1, v2], h => exact ⟨v1, v2, rfl, h.1, h.2.1⟩
theorem RPs.three {b : Nat} {s : AHeap} {k1 k2 k3 : Rk} {vs : List AVal} (h : RPs b s [k1, k2, k3] vs) : ∃ v1 v2 v3, vs = [v1, v2, v3] ∧ RP b s k1 v1 ∧ RP b s k2 v2 ∧ RP b s k3 v3 := by
  match vs, h with
  | [v1, v2, v3], h => exact ⟨v1, v2, v3, rfl, h.1, h.2.1, h.2.2.1⟩
def FlatR {α : Type} (f : α → List AVal) : Prop := ∀ x, ∀ v ∈ f x, scal v = true ∧ v.one = true
theorem FlatR.rows {α : Type} {f : α → List AVal} (h : FlatR f) (l : List α) : RowsS (l.map f) := fun row hr => by
  obtain ⟨x, _, rfl⟩ := List.mem_map.1 hr
  exact h x
theorem OwnS.rp {α : Type} {s : AHeap} {b m : Nat} {f : α → List AVal} {v : AVal} {l : List α} (h : OwnS s b m f v l) (hf : FlatR f) : RP b s (.ow m (l.map f)) v := by
  rcases h with ⟨rfl, rfl⟩ | ⟨N, ex, rfl, h1, h2, h3⟩
  · exact .inl ⟨rfl, rfl⟩
  · exact .inr ⟨N, ex, by simp, h1, h2, h3, hf.rows l⟩
theorem RP.own {α : Type} {s : AHeap} {b m : Nat} {f : α → List AVal} {v : AVal} {l : List α} (h : RP b s (.ow m (l.map f)) v) : OwnS s b m f v l := by
  rcases h with ⟨rfl, h⟩ | ⟨N, ex, rfl, h1, h2, h3, _⟩
  · exact .inl ⟨rfl, by simpa using h⟩
  · exact .inr ⟨N, ex, by simp, h1, h2, h3⟩
def OwnW {α : Type} (m : Nat) (f : α → List AVal) (v : AVal) (l : List α) : Nat → AHeap → AVal → AVal → Prop := fun H s nv sv =>
  (v = .nilS ∧ l = []) ∨ ∃ N ex, v = .ms m N 0 l.length ex ∧ N < s.next ∧ N ≠ H ∧ Off nv N ∧ Off sv N ∧ s.objs N = some (.cells m (l.map f))
theorem OwnW.stays {α : Type} {m : Nat} {f : α → List AVal} {v : AVal} {l : List α} : Stays (OwnW m f v l) := by
  intro H s nv sv s' nv' sv' h hst
  rcases h with h | ⟨N, ex, h0, h1, h2, h3, h4, h5⟩
  · exact .inl h
  · obtain ⟨g1, g2, g3⟩ := hst.2 N h1 h2 h3 h4
    exact .inr ⟨N, ex, h0, Nat.lt_of_lt_of_le h1 hst.1, h2, g2, g3, g1.trans h5⟩
theorem OwnW.tv {α : Type} [Inhabited α] {m : Nat} {f : α → List AVal} {v : AVal} {l : List α} {H : Nat} {s : AHeap} {nv sv : AVal} (h : OwnW m f v l H s nv sv) : TV s m f v l := by
  rcases h with ⟨rfl, rfl⟩ | ⟨N, ex, rfl, h1, h2, h3, h4, h5⟩
  · exact .nil
  · exact .ms h5 (by omega) (by simp)
theorem OwnS.w {α : Type} {s : AHeap} {b m : Nat} {f : α → List AVal} {v : AVal} {l : List α} (h : OwnS s b m f v l) {H : Nat} (hH : H < b) : OwnW m f v l H s .nilS .nilS := by
  rcases h with h | ⟨N, ex, h0, h1, h2, h3⟩
  · exact .inl h
  · exact .inr ⟨N, ex, h0, h2, by omega, (fun _ _ _ _ h => by cases h), (fun _ _ _ _ h => by cases h), h3⟩
theorem Hp.new {s : AHeap} {H : Nat} (hH : H < s.next) (h : s.objs H = some (.cells 2 [[.nilS, .nilS]])) : Hp s H s.next .nilS .nilS [] [] :=
  ⟨h, hH, Nat.le_refl _, .nil, .nil, fun _ _ _ _ _ _ h => by cases h⟩
theorem putOne {P : Program} {W : Nat → AHeap → AVal → AVal → Prop} {put x : AVal} {A : List Int} {B : List ByteArray} (h : PutSpec P W put x A B) {s : AHeap} {H b : Nat} {nv sv : AVal} {ns : List Int} {ss : List ByteArray} (hw : W H s nv sv) (hp : Hp s H b nv sv ns ss)
    (l1 : ns.length + A.length ≤ 1099511627776) (l2 : ss.length + B.length ≤ 1099511627776) {Q : AOut → AHeap → Prop} (hQ : ∀ v s' nv' sv', Hp s' H b nv' sv' (ns ++ A) (ss ++ B) → Step H s nv sv s' nv' sv' → Q (.ret v) s') : RunV P put [.ptr H 0 0, x] s Q :=
  (h s H b nv sv ns ss hw hp l1 l2).mono fun o s' ⟨⟨v, hv⟩, nv', sv', h1, h2⟩ => hv ▸ hQ v s' nv' sv' h1 h2
end Go.Tc
namespace Go.Tc
set_option linter.unusedSimpArgs false
theorem putAll_spec {P : Program} (hP : P.follows .mixedOrders = true) {f : FuncId} {n : Nat} {r : List (Nat × Bool × Nat × FuncId)} (hk : compFunc P f = some (n, .seq (.ops [⟨some 2, .box (.t 0), none, []⟩]) (putBody 2 1 4 r), [])) (hn : 2 ≤ n)
    {row : List AVal} (h1 : row.all AVal.one = true) {A : List Int} {B : List ByteArray} (hr : PutsAll P WTrue row r A B) (hne : r ≠ []) {s : AHeap} {H b : Nat} {nv sv : AVal} {ns : List Int} {ss : List ByteArray} (hp : Hp s H b nv sv ns ss) (hl1 : ns.length + A.length ≤ 1099511627776) (hl2 : ss.length + B.length ≤ 1099511627776)
    {Q : AOut → AHeap → Prop} (hQ : ∀ v s' nv' sv', Hp s' H b nv' sv' (ns ++ A) (ss ++ B) → Step H s nv sv s' nv' sv' → Q (.ret v) s') : RunV P (.func (.func f) [] []) [.agg row, .ptr H 0 0] s Q := by
  refine RunV.func hP hk (by simpa using hn) ?_
  have hlt := Nat.lt_of_lt_of_le hp.hb hp.bn
  simp (disch := omega) only [↓CTL, VAL, Nat.reduceBEq, h1]
  refine putBody_spec WTrue.stays (m := row.length) (Bn := s.next) (H := H) (b := b) r A B hr hne 4 _ _ nv sv ns ss _ (by omega) (by omega) ?_ ?_ (by simp) (by omega) (hp.n.off_new (Nat.le_refl _)) (hp.s.off_new (Nat.le_refl _)) (objs_new rfl) trivial (hp.alloc _) hl1 hl2 fun env' s' nv' sv' hd hp' hst => ?_
  · simp only [VAL, Nat.reduceBEq]
  · simp only [VAL, Nat.reduceBEq]
  · rw [retA_normal]
    refine ⟨hd, ?_⟩
    simp only [resAs]
    exact hQ _ _ _ _ hp' (Step.alloc.trans hst)
theorem nothing_spec {P : Program} (hP : P.follows .mixedOrders = true) {f : FuncId} (hk : compFunc P f = some (0, .skip, [])) (s : AHeap) : RunV P (.func (.func f) [] []) [] s (fun o s' => (∃ v, o = .ret v) ∧ s' = s) := by
  refine RunV.func hP hk (by simp) ?_
  simp (disch := omega) only [↓CTL, VAL, Nat.reduceBEq]
  exact ⟨_, rfl⟩
theorem wiped {P : Program} {w : AVal} {s s' : AHeap} {b : Nat} {Q : AOut → AHeap → Prop} (h : RunV P w [] s' (fun o s'' => (∃ v, o = .ret v) ∧ s'.next ≤ s''.next ∧ ∀ M, M < s'.next → (M < s.next ∨ b ≤ M) → s''.objs M = s'.objs M)) :
    RunV P w [] s' (fun o s'' => (∃ v, o = .ret v) ∧ s'.next ≤ s''.next ∧ ∀ M, M < s'.next → (M < s.next ∨ b ≤ M) → s''.objs M = s'.objs M) := h
def PB1 (P : Program) (W : Nat → AHeap → AVal → AVal → Prop) (put x : AVal) (n m : Nat) : Prop := ∃ A B, A.length ≤ n ∧ B.length ≤ m ∧ PutSpec P W put x A B
def PB (P : Program) (W : Nat → AHeap → AVal → AVal → Prop) (row : List AVal) (r : List (Nat × Bool × Nat × FuncId)) (n m : Nat) : Prop := ∃ A B, A.length ≤ n ∧ B.length ≤ m ∧ PutsAll P W row r A B
theorem PB.nil {P : Program} {W : Nat → AHeap → AVal → AVal → Prop} {row : List AVal} : PB P W row [] 0 0 := ⟨[], [], Nat.le_refl _, Nat.le_refl _, .nil⟩
theorem PB.cons {P : Program} {W : Nat → AHeap → AVal → AVal → Prop} {row : List AVal} {off k : Nat} {g : Bool} {f : FuncId} {v : AVal} {r : List (Nat × Bool × Nat × FuncId)} {n m n1 m1 : Nat} (h : partA g k off row = some v) (hp : PB1 P W (.func (.func f) [] []) v n1 m1) (hr : PB P W row r n m) :
    PB P W row ((off, g, k, f) :: r) (n1 + n) (m1 + m) := by
  obtain ⟨A, B, a, b, q⟩ := hp
  obtain ⟨A', B', a', b', q'⟩ := hr
  exact ⟨A ++ A', B ++ B', by rw [List.length_append]; omega, by rw [List.length_append]; omega, .cons h q q'⟩
theorem PB1.weak {P : Program} {W : Nat → AHeap → AVal → AVal → Prop} {put x : AVal} {n m n' m' : Nat} (h : PB1 P W put x n m) (hn : n ≤ n') (hm : m ≤ m') : PB1 P W put x n' m' :=
  let ⟨A, B, a, b, q⟩ := h; ⟨A, B, Nat.le_trans a hn, Nat.le_trans b hm, q⟩
theorem len_fm {α β : Type} {l : List α} {f : α → List β} {c : Nat} (h : ∀ x, (f x).length ≤ c) : (l.flatMap f).length ≤ l.length * c := by
  induction l with
  | nil => simp
  | cons a l ih => simp only [List.flatMap_cons, List.length_append, List.length_cons, Nat.add_mul]; have := h a; omega
theorem alloc_setN {σ : AHeap} {N : Nat} {o o' : AObj} (h : N = σ.next) : (σ.alloc o).set N o' = σ.alloc o' := by subst h; exact alloc_set
def Djs (vs : List AVal) : Prop := vs.Pairwise fun a b => ∀ M, ¬ Off a M → Off b M
theorem off_sh {n : Nat} {v : AVal} {M : Nat} : Off (sh1 n v) M ↔ (M < n ∨ Off v (M - n)) := by
  cases v with
  | ms m N i len ex =>
    constructor
    · intro h
      by_cases hc : M < n
      · exact .inl hc
      · right
        intro m' i' len' ex' he
        cases he
        exact h m i len ex (by simp only [sh1]; congr 1; omega)
    · rintro (h | h) m' i' len' ex' he
      · simp only [sh1] at he; cases he; omega
      · simp only [sh1] at he; cases he
        exact h m i len ex (by congr 1; omega)
  | _ => exact ⟨fun _ => .inr (fun _ _ _ _ h => by cases h), fun _ => (fun _ _ _ _ h => by cases h)⟩
theorem Djs.shift {vs : List AVal} (h : Djs vs) (n : Nat) : Djs (vs.map (sh1 n)) := by
  refine List.Pairwise.map _ (fun a b hab M hM => ?_) h
  rw [off_sh] at hM ⊢
  by_cases hc : M < n
  · exact .inl hc
  · exact .inr (hab _ fun h => hM (.inr h))
theorem RunV.uniD {P : Program} {f : FuncId} {zs : List AVal} (hclo : ∀ a ∈ zs, Clo a) {γ : Type} (mk : γ → List Rk) (h : ∀ σ, RunV P (.func (.func f) [] []) zs σ (fun o s => ∃ c vs, o = .ret (.tup vs) ∧ RPs σ.next s (mk c) vs ∧ Ext σ s ∧ Djs vs)) :
    ∃ c, ∀ σ, RunV P (.func (.func f) [] []) zs σ (fun o s => ∃ vs, o = .ret (.tup vs) ∧ RPs σ.next s (mk c) vs ∧ Ext σ s ∧ Djs vs) := by
  obtain ⟨o, s, ⟨c, vs, rfl, hr, _, hd⟩, hc⟩ := h nilHeap
  exact ⟨c, fun σ => ⟨_, _, ⟨_, rfl, hr.shift, plus_ext σ s, hd.shift _⟩, hc.uni hclo hr σ⟩⟩
end Go.Tc
namespace Go.Tc
set_option linter.unusedSimpArgs false
set_option linter.unusedVariables false
inductive Lf where
  | int (k : IntKind) | bool | str
  | sl (row : List Lf)
inductive Dl where
  | int (n : Int) | bool (b : Bool) | str (s : ByteArray)
  | sl (rows : List (List Dl))
  deriving Inhabited
def PlainC (n : Nat) (v : AVal) : Prop := v.one = true ∧ (scal v = true ∨ ∃ m N i len ex, v = .ms m N i len ex ∧ N < n)
def RowsP (n : Nat) (rows : List (List AVal)) : Prop := ∀ row ∈ rows, ∀ v ∈ row, PlainC n v
theorem PlainC.mono {n n' : Nat} {v : AVal} (h : PlainC n v) (hn : n ≤ n') : PlainC n' v :=
  ⟨h.1, h.2.imp id fun ⟨m, N, i, len, ex, h1, h2⟩ => ⟨m, N, i, len, ex, h1, Nat.lt_of_lt_of_le h2 hn⟩⟩
inductive Tr (s : AHeap) (p : Nat → Prop) (ro : Bool) : Lf → Dl → AVal → Prop
  | int (k : IntKind) (n : Int) (hw : ro = true → (Lit.int k n).wf = true) : Tr s p ro (.int k) (.int n) (.int k n)
  | bool (b : Bool) : Tr s p ro .bool (.bool b) (.bool b)
  | str (x : ByteArray) : Tr s p ro .str (.str x) (.str x)
  | nil (row : List Lf) : Tr s p ro (.sl row) (.sl []) .nilS
  | ms {row : List Lf} {ds : List (List Dl)} {N i len : Nat} {ex : Bool} {rows : List (List AVal)} {m : Nat} (hm0 : m = row.length) (hlen : len = ds.length) (hp : p N) (hN : N < s.next) (ho : s.objs N = some (.cells m rows)) (hP : RowsP s.next rows) (hl : i + ds.length ≤ rows.length) (hb : ds.length ≤ 4611686018427387904)
      (hn : ∀ (j : Nat) d, ds[j]? = some d → d.length = row.length) (hm : ∀ r ∈ rows, r.length = row.length)
      (h : ∀ (j q : Nat) d r f x v, ds[j]? = some d → rows[i + j]? = some r → row[q]? = some f → d[q]? = some x → r[q]? = some v → Tr s p ro f x v) : Tr s p ro (.sl row) (.sl ds) (.ms m N i len ex)
  | rs {row : List Lf} {ds : List (List Dl)} {i len : Nat} {ex : Bool} {rows : List (List AVal)} {m : Nat} (hm0 : m = row.length) (hlen : len = ds.length) (hro : ro = true) (hl : i + ds.length ≤ rows.length)
      (hn : ∀ (j : Nat) d, ds[j]? = some d → d.length = row.length) (hm : ∀ r ∈ rows, r.length = row.length)
      (h : ∀ (j q : Nat) d r f x v, ds[j]? = some d → rows[i + j]? = some r → row[q]? = some f → d[q]? = some x → r[q]? = some v → Tr s p ro f x v) : Tr s p ro (.sl row) (.sl ds) (.rs m rows i len ex)
structure TrR (s : AHeap) (p : Nat → Prop) (ro : Bool) (row : List Lf) (ds : List Dl) (cs : List AVal) : Prop where
  dl : ds.length = row.length
  cl : cs.length = row.length
  el : ∀ (q : Nat) f x v, row[q]? = some f → ds[q]? = some x → cs[q]? = some v → Tr s p ro f x v
section
variable {s s' : AHeap} {p p' : Nat → Prop} {ro : Bool}
theorem Tr.one {f : Lf} {d : Dl} {v : AVal} (h : Tr s p ro f d v) : v.one = true := by cases h <;> rfl
theorem TrR.nil : TrR s p ro [] [] [] := ⟨rfl, rfl, fun q f x v h => by simp at h⟩
theorem TrR.cons {f : Lf} {d : Dl} {v : AVal} {row : List Lf} {ds : List Dl} {cs : List AVal} (h : Tr s p ro f d v) (hr : TrR s p ro row ds cs) : TrR s p ro (f :: row) (d :: ds) (v :: cs) :=
  ⟨by simp [hr.dl], by simp [hr.cl], fun q f' x v' h1 h2 h3 => by
    cases q with
    | zero => simp at h1 h2 h3; subst h1; subst h2; subst h3; exact h
    | succ q => simp at h1 h2 h3; exact hr.el q f' x v' h1 h2 h3⟩
theorem TrR.one {row : List Lf} {ds : List Dl} {cs : List AVal} (h : TrR s p ro row ds cs) : ∀ v ∈ cs, v.one = true := by
  intro v hv
  obtain ⟨q, hq⟩ := List.getElem?_of_mem hv
  have hlt := (List.getElem?_eq_some_iff.1 hq).1
  have h1 := h.dl
  have h2 := h.cl
  exact (h.el q _ _ v (List.getElem?_eq_getElem (by omega)) (List.getElem?_eq_getElem (by omega)) hq).one
theorem Tr.keep {f : Lf} {d : Dl} {v : AVal} (h : Tr s p ro f d v) (hn : s.next ≤ s'.next) (hk : ∀ N, p N → N < s.next → s'.objs N = s.objs N ∧ p' N) : Tr s' p' ro f d v := by
  induction h with
  | int k n hw => exact .int k n hw
  | bool b => exact .bool b
  | str x => exact .str x
  | nil row => exact .nil row
  | ms hm0 hlen hp hN ho hP hl hb hn' hm _ ih => exact .ms hm0 hlen (hk _ hp hN).2 (Nat.lt_of_lt_of_le hN hn) ((hk _ hp hN).1.trans ho) (fun r hr v hv => (hP r hr v hv).mono hn) hl hb hn' hm ih
  | rs hm0 hlen hro hl hn' hm _ ih => exact .rs hm0 hlen hro hl hn' hm ih
theorem TrR.keep {row : List Lf} {ds : List Dl} {cs : List AVal} (h : TrR s p ro row ds cs) (hn : s.next ≤ s'.next) (hk : ∀ N, p N → N < s.next → s'.objs N = s.objs N ∧ p' N) : TrR s' p' ro row ds cs :=
  ⟨h.dl, h.cl, fun q f x v h1 h2 h3 => (h.el q f x v h1 h2 h3).keep hn hk⟩
theorem TrR.drop {row1 row2 : List Lf} {ds : List Dl} {cs : List AVal} (h : TrR s p ro (row1 ++ row2) ds cs) : TrR s p ro row1 (ds.take row1.length) (cs.take row1.length) ∧ TrR s p ro row2 (ds.drop row1.length) (cs.drop row1.length) := by
  have h1 := h.dl
  have h2 := h.cl
  simp only [List.length_append] at h1 h2
  refine ⟨⟨by simp; omega, by simp; omega, fun q f x v g1 g2 g3 => ?_⟩, ⟨by simp; omega, by simp; omega, fun q f x v g1 g2 g3 => ?_⟩⟩
  · have hq := (List.getElem?_eq_some_iff.1 g1).1
    rw [List.getElem?_take, if_pos hq] at g2 g3
    exact h.el q f x v (by rw [List.getElem?_append_left hq]; exact g1) g2 g3
  · rw [List.getElem?_drop] at g2 g3
    exact h.el (row1.length + q) f x v (by rw [List.getElem?_append_right (by omega)]; simpa using g1) g2 g3
theorem TV.map {α β : Type} [Inhabited α] [Inhabited β] {m : Nat} {f : α → List AVal} {g : β → List AVal} {v : AVal} {l : List α} {l' : List β} (h : TV s m f v l) (hl : l'.length = l.length) (he : ∀ n, n < l.length → g (l'.getD n default) = f (l.getD n default)) : TV s m g v l' := by
  refine ⟨h.sh, by rw [hl]; exact h.len, fun n h0 h1 => ?_⟩
  rw [hl] at h1
  obtain ⟨p, hp, hs, hld⟩ := h.el n h0 h1
  refine ⟨p, hp, hs, fun off gg k => ?_⟩
  obtain ⟨q, hq, hld⟩ := hld off gg k
  exact ⟨q, hq, by rw [hld, he _ (by omega)]⟩
theorem Tr.rows {row : List Lf} {ds : List (List Dl)} {v : AVal} (h : Tr s p ro (.sl row) (.sl ds) v) :
    ∃ l : List (List AVal), l.length = ds.length ∧ (∀ s' : AHeap, (∀ N, p N → N < s.next → s'.objs N = s.objs N) → TV s' row.length id v l) ∧ ∀ (j : Nat) d r, ds[j]? = some d → l[j]? = some r → TrR s p ro row d r := by
  have win : ∀ {i : Nat} {rows : List (List AVal)}, i + ds.length ≤ rows.length → (∀ (j : Nat) d, ds[j]? = some d → d.length = row.length) → (∀ r ∈ rows, r.length = row.length) →
      (∀ (j q : Nat) d r f x v, ds[j]? = some d → rows[i + j]? = some r → row[q]? = some f → d[q]? = some x → r[q]? = some v → Tr s p ro f x v) →
      ∀ (j : Nat) d r, ds[j]? = some d → ((rows.drop i).take ds.length)[j]? = some r → TrR s p ro row d r := by
    intro i rows hl hn hm hh j d r h1 h2
    have hj := (List.getElem?_eq_some_iff.1 h1).1
    rw [List.getElem?_take, if_pos hj, List.getElem?_drop] at h2
    exact ⟨hn j d h1, hm r (List.mem_of_getElem? h2), fun q f x v g1 g2 g3 => hh j q d r f x v h1 h2 g1 g2 g3⟩
  cases h with
  | nil => exact ⟨[], rfl, fun s' _ => .nil, by simp⟩
  | ms hm0 hlen hp hN ho hP hl hb hn hm hh =>
    subst hm0; subst hlen
    exact ⟨_, by simp; omega, fun s' hs => .ms ((hs _ hp hN).trans (by rw [List.map_id]; exact ho)) hl rfl, win hl hn hm hh⟩
  | rs hm0 hlen hro hl hn hm hh =>
    subst hm0; subst hlen
    refine ⟨_, by simp; omega, fun s' hs => ?_, win hl hn hm hh⟩
    have := TV.rs (σ := s') (m := row.length) (f := id) (ex := by assumption) hl rfl
    rwa [List.map_id] at this
end
mutual
def szD : Dl → Nat
  | .sl rows => 1 + szDss rows
  | _ => 1
def szDs : List Dl → Nat
  | [] => 0
  | d :: ds => szD d + szDs ds
def szDss : List (List Dl) → Nat
  | [] => 0
  | r :: rs => szDs r + szDss rs
end
theorem szDs_append (a b : List Dl) : szDs (a ++ b) = szDs a + szDs b := by
  induction a with
  | nil => simp [szDs]
  | cons x a ih => simp [szDs, ih]; omega
theorem szDs_split (n : Nat) (ds : List Dl) : szDs ds = szDs (ds.take n) + szDs (ds.drop n) := by
  rw [← szDs_append, List.take_append_drop]
theorem szD_pos (d : Dl) : 1 ≤ szD d := by cases d <;> simp [szD]
theorem szDs_len (ds : List Dl) : ds.length ≤ szDs ds := by
  induction ds with
  | nil => simp [szDs]
  | cons d ds ih => have := szD_pos d; simp [szDs]; omega
def valOf (agg : Bool) (cs : List AVal) : AVal := if agg then .agg cs else cs.headD .junk
def WC (p : Nat → Prop) (s0 : AHeap) : Nat → AHeap → AVal → AVal → Prop := fun H s nv sv =>
  s0.next ≤ s.next ∧ ∀ N, p N → N < s0.next → N ≠ H ∧ Off nv N ∧ Off sv N ∧ s.objs N = s0.objs N
theorem WC.stays {p : Nat → Prop} {s0 : AHeap} : Stays (WC p s0) := by
  intro H s nv sv s' nv' sv' h hst
  refine ⟨Nat.le_trans h.1 hst.1, fun N hp hN => ?_⟩
  obtain ⟨h1, h2, h3, h4⟩ := h.2 N hp hN
  obtain ⟨g1, g2, g3⟩ := hst.2 N (Nat.lt_of_lt_of_le hN h.1) h1 h2 h3
  exact ⟨h1, g2, g3, g1.trans h4⟩
def PutT (P : Program) (f : FuncId) (agg : Bool) (row : List Lf) : Prop :=
  (agg = false → row.length = 1) ∧ ∀ ds : List Dl, ds.length = row.length → szDs ds ≤ 1099511627776 → ∃ A B, A.length ≤ szDs ds ∧ B.length ≤ szDs ds ∧
    ∀ s0 p ro cs, TrR s0 p ro row ds cs → PutSpec P (WC p s0) (.func (.func f) [] []) (valOf agg cs) A B
end Go.Tc
namespace Go.Tc
set_option linter.unusedSimpArgs false
set_option linter.unusedVariables false
set_option maxRecDepth 20000
def putTextCode : ACode := .ops [⟨some 4, .mv (.t 0), none, []⟩, ⟨some 5, .mv (.t 0), none, []⟩, ⟨some 6, .nilck (.t 5), none, []⟩, ⟨some 7, .fa 1 (.t 6), none, []⟩, ⟨some 8, .load false 1 (.t 7), none, []⟩, ⟨some 9, .mv (.t 1), none, []⟩,
  ⟨some 10, .buildS 1 [.str .empty] 1 [(0, .t 9)], none, []⟩, ⟨some 11, .app 1 16 (.t 8) (.t 10), none, []⟩, ⟨some 12, .nilck (.t 4), none, []⟩, ⟨some 13, .fa 1 (.t 12), none, []⟩, ⟨none, .store 1 (.t 13) (.t 11), none, []⟩]
def putBoolCode : ACode := .seq (.ops [⟨some 4, .mv (.c (.int .i64 0)), none, []⟩])
 (.seq (.seq (.ops [⟨some 5, .mv (.t 1), none, []⟩]) (.cond (.t 5) (.ops [⟨some 4, .mv (.c (.int .i64 1)), none, []⟩]) .skip))
 (.ops [⟨some 6, .mv (.t 0), none, []⟩, ⟨some 7, .mv (.t 0), none, []⟩, ⟨some 8, .nilck (.t 7), none, []⟩, ⟨some 9, .fa 0 (.t 8), none, []⟩, ⟨some 10, .load false 1 (.t 9), none, []⟩, ⟨some 11, .mv (.t 4), none, []⟩,
   ⟨some 12, .buildS 1 [.int .i64 0] 1 [(0, .t 11)], none, []⟩, ⟨some 13, .app 1 8 (.t 10) (.t 12), none, []⟩, ⟨some 14, .nilck (.t 6), none, []⟩, ⟨some 15, .fa 0 (.t 14), none, []⟩, ⟨none, .store 1 (.t 15) (.t 13), none, []⟩]))
section
variable {P : Program}
theorem putText_spec (hP : P.follows .mixedOrders = true) {W : Nat → AHeap → AVal → AVal → Prop} {f : FuncId} (hk : compFunc P f = some (14, putTextCode, [])) (x : ByteArray) : PutSpec P W (.func (.func f) [] []) (.str x) [] [x] := by
  intro s H b nv sv ns ss _ hp hl1 hl2
  have hH := hp.obj
  have hb := hp.hb
  have hbn := hp.bn
  refine RunV.func hP hk (by simp) ?_
  obtain ⟨sv', s', h1, h2, h3, h4, h5⟩ := hp.txt x (bytes := 16) (by omega) (by simpa using hl2)
  simp (disch := omega) only [putTextCode, ↓CTL, VAL, FILL, Nat.reduceBEq, Nat.reduceAdd, hH, h1, h2, h3]
  exact ⟨⟨_, rfl⟩, nv, sv', by simpa using h4, h5⟩
theorem putBool_spec (hP : P.follows .mixedOrders = true) {W : Nat → AHeap → AVal → AVal → Prop} {f : FuncId} (hk : compFunc P f = some (16, putBoolCode, [])) (x : Bool) : PutSpec P W (.func (.func f) [] []) (.bool x) [if x then 1 else 0] [] := by
  intro s H b nv sv ns ss _ hp hl1 hl2
  have hH := hp.obj
  have hb := hp.hb
  have hbn := hp.bn
  refine RunV.func hP hk (by simp) ?_
  cases x
  · obtain ⟨nv', s', h1, h2, h3, h4, h5⟩ := hp.num 0 (by simpa using hl1)
    simp (disch := omega) only [putBoolCode, ↓CTL, VAL, FILL, Nat.reduceBEq, Nat.reduceAdd, hH, h1, h2, h3]
    exact ⟨⟨_, rfl⟩, nv', sv, by simpa using h4, h5⟩
  · obtain ⟨nv', s', h1, h2, h3, h4, h5⟩ := hp.num 1 (by simpa using hl1)
    simp (disch := omega) only [putBoolCode, ↓CTL, VAL, FILL, Nat.reduceBEq, Nat.reduceAdd, hH, h1, h2, h3]
    exact ⟨⟨_, rfl⟩, nv', sv, by simpa using h4, h5⟩
theorem one_row {α : Type} {l : List α} (h : l.length = 1) : ∃ x, l = [x] := List.length_eq_one_iff.1 h
theorem PutT.int (hP : P.follows .mixedOrders = true) {f : FuncId} {k : IntKind} (hk : compFunc P f = some (14, putIntCode, [])) (hk64 : k = .i64) : PutT P f false [.int k] := by
  subst hk64
  refine ⟨fun _ => rfl, fun ds hd _ => ?_⟩
  obtain ⟨d, rfl⟩ := one_row hd
  refine ⟨[match d with | .int n => n | _ => 0], [], by have := szD_pos d; simp [szDs]; omega, by simp, fun s0 p ro cs h => ?_⟩
  obtain ⟨v, rfl⟩ := one_row h.cl
  have h0 := h.el 0 _ _ _ rfl rfl rfl
  cases h0 with
  | int k n _ => exact putInt_spec hP hk n
theorem PutT.byte (hP : P.follows .mixedOrders = true) {f : FuncId} {k : IntKind} (hk : compFunc P f = some (15, putByteCode, [])) : PutT P f false [.int k] := by
  refine ⟨fun _ => rfl, fun ds hd _ => ?_⟩
  obtain ⟨d, rfl⟩ := one_row hd
  refine ⟨[match d with | .int n => IntKind.i64.wrap n | _ => 0], [], by have := szD_pos d; simp [szDs]; omega, by simp, fun s0 p ro cs h => ?_⟩
  obtain ⟨v, rfl⟩ := one_row h.cl
  have h0 := h.el 0 _ _ _ rfl rfl rfl
  cases h0 with
  | int k n _ => exact putByte_spec hP hk k n
theorem PutT.bool (hP : P.follows .mixedOrders = true) {f : FuncId} (hk : compFunc P f = some (16, putBoolCode, [])) : PutT P f false [.bool] := by
  refine ⟨fun _ => rfl, fun ds hd _ => ?_⟩
  obtain ⟨d, rfl⟩ := one_row hd
  refine ⟨[match d with | .bool n => if n then 1 else 0 | _ => 0], [], by have := szD_pos d; simp [szDs]; omega, by simp, fun s0 p ro cs h => ?_⟩
  obtain ⟨v, rfl⟩ := one_row h.cl
  have h0 := h.el 0 _ _ _ rfl rfl rfl
  cases h0 with
  | bool b => exact putBool_spec hP hk b
theorem PutT.text (hP : P.follows .mixedOrders = true) {f : FuncId} (hk : compFunc P f = some (14, putTextCode, [])) : PutT P f false [.str] := by
  refine ⟨fun _ => rfl, fun ds hd _ => ?_⟩
  obtain ⟨d, rfl⟩ := one_row hd
  refine ⟨[], [match d with | .str x => x | _ => .empty], by simp, by have := szD_pos d; simp [szDs]; omega, fun s0 p ro cs h => ?_⟩
  obtain ⟨v, rfl⟩ := one_row h.cl
  have h0 := h.el 0 _ _ _ rfl rfl rfl
  cases h0 with
  | str x => exact putText_spec hP hk x
inductive PutsT (P : Program) : Nat → List Lf → List (Nat × Bool × Nat × FuncId) → Prop
  | nil {off : Nat} : PutsT P off [] []
  | cons {off n : Nat} {agg : Bool} {f : FuncId} {row row1 row2 : List Lf} {r : List (Nat × Bool × Nat × FuncId)} (h : PutT P f agg row1) (hn : row1.length = n) (hr : row = row1 ++ row2) (hrest : PutsT P (off + n) row2 r) : PutsT P off row ((off, agg, n, f) :: r)
theorem PutsT.spec {off : Nat} {row : List Lf} {r : List (Nat × Bool × Nat × FuncId)} (h : PutsT P off row r) : ∀ ds : List Dl, ds.length = row.length → szDs ds ≤ 1099511627776 → ∃ A B, A.length ≤ szDs ds ∧ B.length ≤ szDs ds ∧
    ∀ s0 p ro cs pre, pre.length = off → TrR s0 p ro row ds cs → PutsAll P (WC p s0) (pre ++ cs) r A B := by
  induction h with
  | nil => exact fun ds hd _ => ⟨[], [], by simp, by simp, fun _ _ _ _ _ _ _ => .nil⟩
  | @cons off n agg f row row1 row2 r h hn hr _ ih =>
    subst hr
    intro ds hd hz
    rw [List.length_append] at hd
    have hsp := szDs_split n ds
    obtain ⟨A, B, a, b, q⟩ := h.2 (ds.take n) (by simp; omega) (by omega)
    obtain ⟨A', B', a', b', q'⟩ := ih (ds.drop n) (by simp; omega) (by omega)
    refine ⟨A ++ A', B ++ B', by rw [List.length_append]; omega, by rw [List.length_append]; omega, fun s0 p ro cs pre hpre htr => ?_⟩
    have hcl := htr.cl
    rw [List.length_append] at hcl
    obtain ⟨t1, t2⟩ := htr.drop
    rw [hn] at t1 t2
    refine .cons (v := valOf agg (cs.take n)) ?_ (q s0 p ro _ t1) ?_
    · have hone := t1.one
      have hpart : ((pre ++ cs).drop off).take n = cs.take n := by
        rw [List.drop_append_of_le_length (by omega), ← hpre, List.drop_length, List.nil_append]
      cases agg with
      | true =>
        simp only [partA, valOf, if_true, hpart]
        rw [if_pos (by simp; omega)]
      | false =>
        have h1 := h.1 rfl
        rw [h1] at hn
        subst hn
        have : (cs.take 1).length = 1 := by simp; omega
        obtain ⟨v, hv⟩ := one_row this
        rw [hv] at hpart
        simp only [partA, valOf, hv, Bool.false_eq_true, if_false, List.headD_cons]
        have h2 : (pre ++ cs)[off]? = some v := by
          have h3 : (((pre ++ cs).drop off).take 1)[0]? = some v := by rw [hpart]; rfl
          rw [List.getElem?_take, if_pos (by omega), List.getElem?_drop, Nat.add_zero] at h3
          exact h3
        first
          | rw [h2]
          | simp [h2]
          | rw [if_pos rfl]; exact h2
    · have := q' s0 p ro (cs.drop n) (pre ++ cs.take n) (by simp; omega) t2
      rwa [List.append_assoc, List.take_append_drop] at this
theorem PutT.st (hP : P.follows .mixedOrders = true) {f : FuncId} {n : Nat} {row : List Lf} {r : List (Nat × Bool × Nat × FuncId)} (hk : compFunc P f = some (n, .seq (.ops [⟨some 3, .box (.t 1), none, []⟩]) (putBody 3 0 4 r), [])) (hn : 2 ≤ n) (hne : r ≠ []) (h : PutsT P 0 row r) : PutT P f true row := by
  refine ⟨fun h => (by cases h), fun ds hd hz => ?_⟩
  obtain ⟨A, B, a, b, q⟩ := h.spec ds hd hz
  refine ⟨A, B, a, b, fun s0 p ro cs htr => ?_⟩
  have hone : cs.all AVal.one = true := List.all_eq_true.2 htr.one
  exact putStruct_spec hP WC.stays hk hn hone (by simpa using q s0 p ro cs [] rfl htr) hne
open Classical in
theorem pick_list {α β : Type} [Inhabited β] {Q : α → β → Prop} (l : List α) (h : ∀ x ∈ l, ∃ y, Q x y) : ∃ f : α → β, ∀ x ∈ l, Q x (f x) := by
  refine ⟨fun x => if hx : x ∈ l then (h x hx).choose else default, fun x hx => ?_⟩
  simp only [hx, dif_pos]
  exact (h x hx).choose_spec
theorem szDss_mem {d : List Dl} {l : List (List Dl)} (h : d ∈ l) : szDs d ≤ szDss l := by
  induction l with
  | nil => simp at h
  | cons x l ih =>
    rcases List.mem_cons.1 h with rfl | h
    · simp [szDss]
    · have := ih h; simp [szDss]; omega
theorem flat_len {β : Type} {A : List Dl → List β} {l : List (List Dl)} (h : ∀ d ∈ l, (A d).length ≤ szDs d) : (l.flatMap A).length ≤ szDss l := by
  induction l with
  | nil => simp
  | cons d l ih =>
    have h1 := h d (by simp)
    have h2 := ih fun d hd => h d (by simp [hd])
    simp only [List.flatMap_cons, List.length_append, szDss]
    omega
theorem szDss_len {l : List (List Dl)} (h : ∀ d ∈ l, 1 ≤ d.length) : l.length ≤ szDss l := by
  induction l with
  | nil => simp
  | cons d l ih =>
    have h1 := h d (by simp)
    have h2 := ih fun d hd => h d (by simp [hd])
    have h3 := szDs_len d
    simp only [List.length_cons, szDss]
    omega
theorem PutT.sl (hP : P.follows .mixedOrders = true) {f p e : FuncId} {g : Bool} {row : List Lf} (hf : compFunc P f = some (7, putLCode p e, [])) (hk : compFunc P p = some (31, putsCode row.length g, [])) (he : PutT P e g row) (hrow : 1 ≤ row.length) : PutT P f false [.sl row] := by
  refine ⟨fun _ => rfl, fun ds hd hz => ?_⟩
  obtain ⟨d, rfl⟩ := one_row hd
  cases d with
  | sl rows =>
    simp only [szDs, szD] at hz
    obtain ⟨AB, hAB⟩ := pick_list (Q := fun (d : List Dl) (ab : List Int × List ByteArray) => d.length = row.length → ab.1.length ≤ szDs d ∧ ab.2.length ≤ szDs d ∧ ∀ s0 p ro cs, TrR s0 p ro row d cs → PutSpec P (WC p s0) (.func (.func e) [] []) (valOf g cs) ab.1 ab.2) rows (fun d hd => by
      by_cases hl : d.length = row.length
      · obtain ⟨A, B, a, b, q⟩ := he.2 d hl (by have := szDss_mem hd; omega)
        exact ⟨(A, B), fun _ => ⟨a, b, q⟩⟩
      · exact ⟨([], []), fun h => absurd h hl⟩)
    by_cases hall : ∀ d ∈ rows, d.length = row.length
    · refine ⟨(rows.length : Int) :: rows.flatMap fun d => (AB d).1, rows.flatMap fun d => (AB d).2, ?_, ?_, fun s0 p ro cs htr => ?_⟩
      · have := flat_len (A := fun d => (AB d).1) fun d hd => (hAB d hd (hall d hd)).1
        simp only [List.length_cons, szDs, szD]; omega
      · have := flat_len (A := fun d => (AB d).2) fun d hd => (hAB d hd (hall d hd)).2.1
        simp only [szDs, szD]; omega
      · obtain ⟨v, rfl⟩ := one_row htr.cl
        have h0 := htr.el 0 _ _ _ rfl rfl rfl
        obtain ⟨l, hll, htv, hel⟩ := h0.rows
        have hlen := szDss_len (l := rows) fun d hd => by rw [hall d hd]; exact hrow
        have hz1 : ((rows.length : Int) :: rows.flatMap fun d => (AB d).1) = (((l.zip rows).length : Int) :: (l.zip rows).flatMap fun x => (AB x.2).1) := by
          have e1 : (l.zip rows).length = rows.length := by simp [hll]
          have e2 : (l.zip rows).flatMap (fun x => (AB x.2).1) = ((l.zip rows).map Prod.snd).flatMap fun d => (AB d).1 := by rw [List.flatMap_map]
          rw [e1, e2, List.map_snd_zip (by omega)]
        have hz2 : (rows.flatMap fun d => (AB d).2) = ((l.zip rows).flatMap fun x => (AB x.2).2) := by
          have e2 : (l.zip rows).flatMap (fun x => (AB x.2).2) = ((l.zip rows).map Prod.snd).flatMap fun d => (AB d).2 := by rw [List.flatMap_map]
          rw [e2, List.map_snd_zip (by omega)]
        rw [hz1, hz2]
        have hmem : ∀ x ∈ l.zip rows, TrR s0 p ro row x.2 x.1 := by
          intro x hx
          obtain ⟨j, hj⟩ := List.getElem?_of_mem hx
          rw [List.getElem?_zip_eq_some] at hj
          exact hel j x.2 x.1 hj.2 hj.1
        refine putL_spec hP WC.stays hf hk (α := List AVal × List Dl) (r := fun x => if x.1.length = row.length then x.1 else List.replicate row.length .nilS) (l := l.zip rows) (fun H s nv sv hw => ?_) (by simp; omega) (fun x => valOf g (if x.1.length = row.length then x.1 else List.replicate row.length .nilS)) (fun x => ?_) _ _ fun x hx => ?_
        · have := htv s fun N hp hN => (hw.2 N hp hN).2.2.2
          refine this.map (by simp [hll]) fun n hn => ?_
          have h1 : (l.zip rows).getD n default = (l.getD n default, rows.getD n default) := by
            simp only [List.getD_eq_getElem?_getD]
            rw [List.getElem?_eq_getElem (by simp; omega), List.getElem?_eq_getElem (show n < l.length from hn), List.getElem?_eq_getElem (show n < rows.length by omega)]
            simp
          rw [h1]
          have h2 : (l.getD n default).length = row.length := by
            rw [List.getD_eq_getElem?_getD, List.getElem?_eq_getElem hn]
            exact (hel n _ _ (List.getElem?_eq_getElem (show n < rows.length by omega)) (List.getElem?_eq_getElem hn)).cl
          simp only [h2, if_true, id]
        · generalize hc : (if x.1.length = row.length then x.1 else List.replicate row.length AVal.nilS) = c
          have hcl : c.length = row.length := by
            rw [← hc]
            split
            · assumption
            · simp
          cases g with
          | true =>
            simp only [partA, valOf, if_true, List.drop_zero]
            rw [if_pos (by omega), List.take_of_length_le (by omega)]
          | false =>
            have h1 := he.1 rfl
            obtain ⟨v, rfl⟩ := one_row (hcl.trans h1)
            simp [partA, valOf]
        · have ht := hmem x hx
          have hx2 : x.2 ∈ rows := by
            obtain ⟨a, b⟩ := x
            exact (List.of_mem_zip hx).2
          simp only [ht.cl, if_true]
          exact (hAB x.2 hx2 (hall x.2 hx2)).2.2 s0 p ro x.1 ht
    · refine ⟨[], [], by simp, by simp, fun s0 p ro cs htr => ?_⟩
      exfalso
      apply hall
      obtain ⟨v, rfl⟩ := one_row htr.cl
      have h0 := htr.el 0 _ _ _ rfl rfl rfl
      intro d hd
      obtain ⟨j, hj⟩ := List.getElem?_of_mem hd
      cases h0 with
      | nil => simp at hj
      | ms _ _ _ _ _ _ _ _ hn _ _ => exact hn j d hj
      | rs _ _ _ _ hn _ _ => exact hn j d hj
  | _ =>
    refine ⟨[], [], by simp, by simp, fun s0 p ro cs htr => ?_⟩
    obtain ⟨v, rfl⟩ := one_row htr.cl
    have h0 := htr.el 0 _ _ _ rfl rfl rfl
    cases h0
end
end Go.Tc
namespace Go.Tc
set_option linter.unusedSimpArgs false
set_option linter.unusedVariables false
set_option maxRecDepth 20000
inductive Sp (s : AHeap) (p : Nat → Prop) : Lf → AVal → Prop
  | int (k : IntKind) (n : Int) : Sp s p (.int k) (.int k n)
  | bool (b : Bool) : Sp s p .bool (.bool b)
  | str (x : ByteArray) : Sp s p .str (.str x)
  | nil (row : List Lf) : Sp s p (.sl row) .nilS
  | ms {row : List Lf} {N i len : Nat} {ex : Bool} {rows : List (List AVal)} {m : Nat} (hm0 : m = row.length) (hp : p N) (hN : N < s.next) (ho : s.objs N = some (.cells m rows)) (hl : i + len ≤ rows.length) (hb : len ≤ 4611686018427387904) (hm : ∀ r ∈ rows, r.length = row.length)
      (h : ∀ (j q : Nat) r f v, i ≤ j → j < i + len → rows[j]? = some r → row[q]? = some f → r[q]? = some v → Sp s p f v) : Sp s p (.sl row) (.ms m N i len ex)
def SpR (s : AHeap) (p : Nat → Prop) (row : List Lf) (cs : List AVal) : Prop := cs.length = row.length ∧ ∀ (q : Nat) f v, row[q]? = some f → cs[q]? = some v → Sp s p f v
theorem Tr.sp {s : AHeap} {p : Nat → Prop} {f : Lf} {d : Dl} {v : AVal} (h : Tr s p false f d v) : Sp s p f v := by
  induction h with
  | int k n _ => exact .int k n
  | bool b => exact .bool b
  | str x => exact .str x
  | nil row => exact .nil row
  | @ms row ds N i len ex rows m hm0 hlen hp hN ho hP hl hb hn hm _ ih =>
    subst hlen
    refine .ms hm0 hp hN ho hl hb hm fun j q r f v h1 h2 h3 h4 h5 => ?_
    have hj : ds[j - i]? = some (ds[j - i]'(by omega)) := List.getElem?_eq_getElem (by omega)
    have hd := hn _ _ hj
    have hq : (ds[j - i]'(by omega))[q]? = some _ := List.getElem?_eq_getElem (by have := (List.getElem?_eq_some_iff.1 h4).1; omega)
    exact ih (j - i) q _ r f _ v hj (by rw [show i + (j - i) = j by omega]; exact h3) h4 hq h5
  | rs _ _ hro => cases hro
theorem TrR.sp {s : AHeap} {p : Nat → Prop} {row : List Lf} {ds : List Dl} {cs : List AVal} (h : TrR s p false row ds cs) : SpR s p row cs :=
  ⟨h.cl, fun q f v h1 h2 => by
    have hq := (List.getElem?_eq_some_iff.1 h1).1
    have := h.dl
    exact (h.el q f _ v h1 (List.getElem?_eq_getElem (by omega)) h2).sp⟩
def Kin1 (v v' : AVal) : Prop := v' = v ∨ (∃ k n n', v = .int k n ∧ v' = .int k n') ∨ (∃ b b', v = .bool b ∧ v' = .bool b') ∨ ∃ x x', v = .str x ∧ v' = .str x'
def KinR (rows rows' : List (List AVal)) : Prop := rows'.length = rows.length ∧ ∀ (j : Nat) r r', rows[j]? = some r → rows'[j]? = some r' → r'.length = r.length ∧ ∀ (q : Nat) v v', r[q]? = some v → r'[q]? = some v' → Kin1 v v'
def KinO (o o' : Option AObj) : Prop := o' = o ∨ ∃ m rows rows', o = some (.cells m rows) ∧ o' = some (.cells m rows') ∧ KinR rows rows'
structure Kin (p : Nat → Prop) (s s' : AHeap) : Prop where
  nx : s.next ≤ s'.next
  ob : ∀ M, M < s.next → KinO (s.objs M) (s'.objs M)
  ot : ∀ M, M < s.next → ¬ p M → s'.objs M = s.objs M
theorem Kin1.refl (v : AVal) : Kin1 v v := .inl rfl
theorem Kin1.trans {a b c : AVal} (h : Kin1 a b) (k : Kin1 b c) : Kin1 a c := by
  rcases h with rfl | ⟨_, _, _, rfl, rfl⟩ | ⟨_, _, rfl, rfl⟩ | ⟨_, _, rfl, rfl⟩
  · exact k
  all_goals
    rcases k with rfl | ⟨_, _, _, h, rfl⟩ | ⟨_, _, h, rfl⟩ | ⟨_, _, h, rfl⟩ <;> first
      | (cases h; done)
      | exact .inr (.inl ⟨_, _, _, rfl, rfl⟩)
      | exact .inr (.inr (.inl ⟨_, _, rfl, rfl⟩))
      | exact .inr (.inr (.inr ⟨_, _, rfl, rfl⟩))
      | (cases h; exact .inr (.inl ⟨_, _, _, rfl, rfl⟩))
theorem KinR.refl (rows : List (List AVal)) : KinR rows rows := ⟨rfl, fun j r r' h1 h2 => by rw [h1] at h2; cases h2; exact ⟨rfl, fun q v v' g1 g2 => by rw [g1] at g2; cases g2; exact .refl _⟩⟩
theorem KinR.trans {a b c : List (List AVal)} (h : KinR a b) (k : KinR b c) : KinR a c :=
  ⟨k.1.trans h.1, fun j r r' h1 h2 => by
    have hj := (List.getElem?_eq_some_iff.1 h1).1
    have hb : b[j]? = some (b[j]'(by rw [h.1]; exact hj)) := List.getElem?_eq_getElem _
    obtain ⟨l1, k1⟩ := h.2 j r _ h1 hb
    obtain ⟨l2, k2⟩ := k.2 j _ r' hb h2
    refine ⟨l2.trans l1, fun q v v' g1 g2 => ?_⟩
    have hq := (List.getElem?_eq_some_iff.1 g1).1
    have hm : (b[j]'(by rw [h.1]; exact hj))[q]? = some _ := List.getElem?_eq_getElem (by omega)
    exact (k1 q v _ g1 hm).trans (k2 q _ v' hm g2)⟩
theorem Kin.refl (p : Nat → Prop) (s : AHeap) : Kin p s s := ⟨Nat.le_refl _, fun _ _ => .inl rfl, fun _ _ _ => rfl⟩
theorem Kin.trans {p : Nat → Prop} {a b c : AHeap} (h : Kin p a b) (k : Kin p b c) : Kin p a c := by
  refine ⟨Nat.le_trans h.nx k.nx, fun M hM => ?_, fun M hM hp => (k.ot M (Nat.lt_of_lt_of_le hM h.nx) hp).trans (h.ot M hM hp)⟩
  have h1 := h.ob M hM
  have h2 := k.ob M (Nat.lt_of_lt_of_le hM h.nx)
  rcases h1 with h1 | ⟨m, rows, rows', e1, e2, e3⟩
  · rw [h1] at h2; exact h2
  · rcases h2 with h2 | ⟨m', r1, r2, g1, g2, g3⟩
    · exact .inr ⟨m, rows, rows', e1, h2.trans e2, e3⟩
    · rw [e2] at g1; cases g1
      exact .inr ⟨m, rows, r2, e1, g2, e3.trans g3⟩
theorem Sp.kin {s s' : AHeap} {p p' : Nat → Prop} (hk : Kin p' s s') {f : Lf} {v : AVal} (h : Sp s p f v) : ∀ v', Kin1 v v' → Sp s' p f v' := by
  have same : ∀ {v v' : AVal}, Kin1 v v' → (∀ k n, v ≠ .int k n) → (∀ b, v ≠ .bool b) → (∀ x, v ≠ .str x) → v' = v := by
    intro v v' h h1 h2 h3
    rcases h with h | ⟨k, n, _, h, _⟩ | ⟨b, _, h, _⟩ | ⟨x, _, h, _⟩
    · exact h
    · exact absurd h (h1 k n)
    · exact absurd h (h2 b)
    · exact absurd h (h3 x)
  induction h with
  | int k n =>
    intro v' h
    rcases h with rfl | ⟨_, _, _, h, rfl⟩ | ⟨_, _, h, _⟩ | ⟨_, _, h, _⟩
    · exact .int _ _
    · cases h; exact .int _ _
    · cases h
    · cases h
  | bool b =>
    intro v' h
    rcases h with rfl | ⟨_, _, _, h, rfl⟩ | ⟨_, _, h, rfl⟩ | ⟨_, _, h, _⟩
    · exact .bool _
    · cases h
    · exact .bool _
    · cases h
  | str b =>
    intro v' h
    rcases h with rfl | ⟨_, _, _, h, rfl⟩ | ⟨_, _, h, rfl⟩ | ⟨_, _, h, rfl⟩
    · exact .str _
    · cases h
    · cases h
    · exact .str _
  | nil row => intro v' h; rw [same h (by simp) (by simp) (by simp)]; exact .nil row
  | @ms row N i len ex rows m hm0 hp hN ho hl hb hm _ ih =>
    intro v' h
    rw [same h (by simp) (by simp) (by simp)]
    obtain ⟨rows', ho', hr⟩ : ∃ rows', s'.objs N = some (.cells m rows') ∧ KinR rows rows' := by
      rcases hk.ob N hN with h1 | ⟨m', r1, r2, g1, g2, g3⟩
      · exact ⟨rows, h1.trans ho, .refl _⟩
      · rw [ho] at g1; cases g1; exact ⟨r2, g2, g3⟩
    refine .ms hm0 hp (Nat.lt_of_lt_of_le hN hk.nx) ho' (by rw [hr.1]; exact hl) hb (fun r' hr' => ?_) fun j q r' f v' h1 h2 h3 h4 h5 => ?_
    · obtain ⟨j, hj⟩ := List.getElem?_of_mem hr'
      have hjl := (List.getElem?_eq_some_iff.1 hj).1
      have hjr : rows[j]? = some (rows[j]'(by rw [← hr.1]; exact hjl)) := List.getElem?_eq_getElem _
      rw [(hr.2 j _ r' hjr hj).1]
      exact hm _ (List.getElem_mem _)
    · have hjr : rows[j]? = some (rows[j]'(by omega)) := List.getElem?_eq_getElem _
      obtain ⟨e1, e2⟩ := hr.2 j _ r' hjr h3
      have hq := (List.getElem?_eq_some_iff.1 h5).1
      have hqr : (rows[j]'(by omega))[q]? = some _ := List.getElem?_eq_getElem (by omega)
      exact ih j q _ f _ h1 h2 hjr h4 hqr v' (e2 q _ v' hqr h5)
def WipeT (P : Program) (f : FuncId) (row : List Lf) : Prop :=
  ∀ s p N i k m rows r, p N → N < s.next → s.objs N = some (.cells m rows) → (∀ r ∈ rows, r.length = m) → rows[i]? = some r → k + row.length ≤ m → SpR s p row ((r.drop k).take row.length) →
    RunV P (.func (.func f) [] []) [.ptr N i k] s (fun o s' => (∃ v, o = .ret v) ∧ Kin p s s')
section
variable {P : Program}
theorem splice_at {r : List AVal} {k : Nat} {x : AVal} (hk : k < r.length) (q : Nat) : (splice r k [x])[q]? = if q = k then some x else r[q]? := by
  simp only [splice]
  by_cases h : q < k
  · rw [List.append_assoc, List.getElem?_append_left (by simp; omega), List.getElem?_take, if_pos h, if_neg (by omega)]
  · have ht : (r.take k).length = k := by simp; omega
    by_cases h2 : q = k
    · subst h2
      rw [List.append_assoc, List.getElem?_append_right (by omega), ht]
      simp
    · rw [List.getElem?_append_right (by simp; omega), List.getElem?_drop, if_neg h2]
      congr 1
      simp; omega
theorem WipeT.one (hP : P.follows .mixedOrders = true) {f : FuncId} {x : AVal} {lf : Lf} (hk : compFunc P f = some (4, wipe1Code x, [])) (h1 : x.one = true) (hx : ∀ s p v, Sp s p lf v → Kin1 v x) : WipeT P f [lf] := by
  intro s p N i k m rows r hp hN ho hm hr hkm hsp
  have hi := (List.getElem?_eq_some_iff.1 hr).1
  have hrl := hm r (List.mem_of_getElem? hr)
  simp only [List.length_singleton] at hkm hsp
  refine RunV.func hP hk (by simp) ?_
  have hst : storeO (some (.cells m rows)) 1 i k x = some (.cells m (rows.set i (splice r k x.cells))) := by
    simp only [storeO, hr, Option.bind_some, cells_one h1, List.length_singleton, List.all_cons, List.all_nil, h1, Bool.and_true]
    rw [if_pos ⟨trivial, by omega, trivial⟩]
  have hget := splice_at (r := r) (x := x) (k := k) (by omega)
  have hlen : (splice r k x.cells).length = r.length := by
    rw [cells_one h1, splice_length _ _ _ (by simp; omega)]
  rw [cells_one h1] at hst hlen
  generalize splice r k [x] = row' at hst hlen hget
  simp (disch := omega) only [wipe1Code, ↓CTL, VAL, Nat.reduceBEq, Nat.reduceAdd, ho, hst]
  refine ⟨⟨_, rfl⟩, Nat.le_refl _, fun M hM => ?_, fun M hM hpM => objsA_ne (by rintro rfl; exact hpM hp)⟩
  by_cases hMN : M = N
  · subst hMN
    refine .inr ⟨m, rows, rows.set i row', ho, by simp only [VAL], by simp, fun j a a' h2 h3 => ?_⟩
    rw [List.getElem?_set] at h3
    split at h3
    · rename_i hij
      subst hij
      cases h3
      rw [hr] at h2; cases h2
      refine ⟨hlen, fun q v v' g1 g2 => ?_⟩
      rw [hget] at g2
      split at g2
      · rename_i hq
        subst hq
        cases g2
        have : ((r.drop q).take 1)[0]? = some v := by rw [List.getElem?_take, if_pos (by omega), List.getElem?_drop]; simpa using g1
        exact hx s p v (hsp.2 0 lf v rfl this)
      · rw [g1] at g2; cases g2; exact .refl _
    · rw [h2] at h3; cases h3; exact ⟨rfl, fun q v v' g1 g2 => by rw [g1] at g2; cases g2; exact .refl _⟩
  · exact .inl (objsA_ne hMN)
theorem WipeT.int (hP : P.follows .mixedOrders = true) {f : FuncId} {k : IntKind} {n : Int} (hk : compFunc P f = some (4, wipe1Code (.int k n), [])) : WipeT P f [.int k] :=
  .one hP hk rfl fun s p v h => by cases h; exact .inr (.inl ⟨_, _, _, rfl, rfl⟩)
theorem WipeT.str (hP : P.follows .mixedOrders = true) {f : FuncId} {x : ByteArray} (hk : compFunc P f = some (4, wipe1Code (.str x), [])) : WipeT P f [.str] :=
  .one hP hk rfl fun s p v h => by cases h; exact .inr (.inr (.inr ⟨_, _, rfl, rfl⟩))
inductive WipesT (P : Program) : Nat → List Lf → List (Nat × FuncId) → Prop
  | nil {off : Nat} : WipesT P off [] []
  | cons {off n : Nat} {f : FuncId} {row row1 row2 : List Lf} {r : List (Nat × FuncId)} (h : WipeT P f row1) (hn : row1.length = n) (hr : row = row1 ++ row2) (hrest : WipesT P (off + n) row2 r) : WipesT P off row ((off, f) :: r)
theorem SpR.part {s : AHeap} {p : Nat → Prop} {row1 row2 : List Lf} {r : List AVal} {k : Nat} (h : SpR s p (row1 ++ row2) ((r.drop k).take (row1 ++ row2).length)) :
    SpR s p row1 ((r.drop k).take row1.length) ∧ SpR s p row2 ((r.drop (k + row1.length)).take row2.length) := by
  obtain ⟨h1, h2⟩ := h
  simp only [List.length_append, List.length_take, List.length_drop] at h1
  refine ⟨⟨by simp; omega, fun q f v g1 g2 => ?_⟩, ⟨by simp; omega, fun q f v g1 g2 => ?_⟩⟩
  · have hq := (List.getElem?_eq_some_iff.1 g1).1
    rw [List.getElem?_take, if_pos hq] at g2
    exact h2 q f v (by rw [List.getElem?_append_left hq]; exact g1) (by rw [List.getElem?_take, if_pos (by simp; omega)]; exact g2)
  · have hq := (List.getElem?_eq_some_iff.1 g1).1
    rw [List.getElem?_take, if_pos hq, List.getElem?_drop] at g2
    refine h2 (row1.length + q) f v (by rw [List.getElem?_append_right (by omega)]; simpa using g1) ?_
    rw [List.getElem?_take, if_pos (by simp; omega), List.getElem?_drop, ← Nat.add_assoc]; exact g2
theorem SpR.kin {s s' : AHeap} {p p' : Nat → Prop} (hk : Kin p' s s') {row : List Lf} {cs cs' : List AVal} (h : SpR s p row cs) (hl : cs'.length = cs.length) (hc : ∀ (q : Nat) v v', cs[q]? = some v → cs'[q]? = some v' → Kin1 v v') : SpR s' p row cs' :=
  ⟨hl.trans h.1, fun q f v' h1 h2 => by
    have hq := (List.getElem?_eq_some_iff.1 h2).1
    have hc0 : cs[q]? = some (cs[q]'(by omega)) := List.getElem?_eq_getElem _
    exact (h.2 q f _ h1 hc0).kin hk v' (hc q _ v' hc0 h2)⟩
theorem wipeBodyT {m k N i : Nat} {p : Nat → Prop} (hp : p N) : ∀ (r : List (Nat × FuncId)) (off : Nat) (row : List Lf), WipesT P off row r → r ≠ [] → ∀ (t : Nat) (env : AEnv) (s : AHeap) (rows : List (List AVal)) (c : List AVal) (Q : AExit → AEnv → AHeap → Prop), 0 < t → env.t 0 = .ptr N i k → N < s.next → s.objs N = some (.cells m rows) → (∀ r ∈ rows, r.length = m) → rows[i]? = some c →
    k + off + row.length ≤ m → SpR s p row ((c.drop (k + off)).take row.length) → (∀ env' s', env'.ds = env.ds → Kin p s s' → Q .normal env' s') → wpA P (wipeBody t r) none env s Q := by
  intro r
  induction r with
  | nil => intro off row _ h; exact absurd rfl h
  | cons x r ih =>
    intro off row hw _ t env s rows c Q ht h0 hlt hN hm hc hkm hsp hQ
    cases hw with
    | @cons _ n f _ row1 row2 _ hf hn hr hrest =>
    subst hr
    obtain ⟨sp1, sp2⟩ := hsp.part
    rw [List.length_append] at hkm
    have one : ∀ Q' : AExit → AEnv → AHeap → Prop, (∀ env' s', env'.ds = env.ds → env'.t 0 = .ptr N i k → Kin p s s' → Q' .normal env' s') →
        Go.Tc.wpOps P none (wipeOps t (off, f)) env s Q' := by
      intro Q' hQ'
      simp only [wipeOps]
      rw [L_mv, ev_t, h0, k1_some, L_nilck, ev_t, put_some, set_get, beq_iff_eq.2 rfl, w_cond_true, nilV_ptr, k1_some, L_fa, ev_t, put_some, set_get, beq_iff_eq.2 rfl, w_cond_true, addr_ptr, k1_some, L_callFK]
      have e3 : (List.map (AEnv.ev ((((env.set t (.ptr N i k)).set (t + 1) (.ptr N i k)).put (some (t + 2)) (.ptr N i (k + off))))) [.t (t + 2)]) = [.ptr N i (k + off)] := by
        simp only [List.map_cons, List.map_nil, ev_t, put_some, set_get, beq_iff_eq.2 rfl, w_cond_true]
      rw [e3]
      refine (hf s p N i (k + off) m rows c hp hlt hN hm hc (by omega) sp1).mono fun o s' ⟨⟨v', ho⟩, g1⟩ => ?_
      subst ho
      show Go.Tc.wpOps P none [] _ s' Q'
      rw [L_nil]
      refine hQ' _ s' rfl ?_ g1
      simp only [put_some, set_get]
      simp [show ((0 : Nat) == t + 3) = false from beq_eq_false_iff_ne.2 (by omega), show ((0 : Nat) == t + 2) = false from beq_eq_false_iff_ne.2 (by omega), show ((0 : Nat) == t + 1) = false from beq_eq_false_iff_ne.2 (by omega), show ((0 : Nat) == t) = false from beq_eq_false_iff_ne.2 (by omega), h0]
    cases r with
    | nil => exact one Q fun env' s' hd _ g1 => hQ env' s' hd g1
    | cons y r =>
      show wpA P (.seq (.ops (wipeOps t (off, f))) (wipeBody (t + 4) (y :: r))) none env s Q
      rw [A_seq, A_ops]
      refine one _ fun env' s' hd h0' g1 => ?_
      rw [th_normal]
      obtain ⟨rows', ho', hkr⟩ : ∃ rows', s'.objs N = some (.cells m rows') ∧ KinR rows rows' := by
        rcases g1.ob N hlt with h1 | ⟨m', r1, r2, k1, k2, k3⟩
        · exact ⟨rows, h1.trans hN, .refl _⟩
        · rw [hN] at k1; cases k1; exact ⟨r2, k2, k3⟩
      have hi := (List.getElem?_eq_some_iff.1 hc).1
      have hc' : rows'[i]? = some (rows'[i]'(by rw [hkr.1]; exact hi)) := List.getElem?_eq_getElem _
      obtain ⟨e1, e2⟩ := hkr.2 i c _ hc hc'
      have hcl := hm c (List.mem_of_getElem? hc)
      refine ih (off + n) row2 hrest (by simp) (t + 4) env' s' rows' _ Q (by omega) h0' (Nat.lt_of_lt_of_le hlt g1.nx) ho' (fun r' hr' => ?_) hc' (by omega) ?_ fun env2 s2 hd2 k1 => hQ env2 s2 (hd2.trans hd) (g1.trans k1)
      · obtain ⟨j, hj⟩ := List.getElem?_of_mem hr'
        have hjl := (List.getElem?_eq_some_iff.1 hj).1
        have hjr : rows[j]? = some (rows[j]'(by rw [← hkr.1]; exact hjl)) := List.getElem?_eq_getElem _
        rw [(hkr.2 j _ r' hjr hj).1]
        exact hm _ (List.getElem_mem _)
      · have e4 : k + (off + n) = k + off + row1.length := by omega
        rw [e4]
        refine sp2.kin g1 (by simp [e1]) fun q v v' q1 q2 => ?_
        rw [List.getElem?_take] at q1 q2
        split at q1
        · rename_i hql
          rw [if_pos hql] at q2
          rw [List.getElem?_drop] at q1 q2
          exact e2 _ v v' q1 q2
        · cases q1
theorem WipeT.st (hP : P.follows .mixedOrders = true) {f : FuncId} {n : Nat} {row : List Lf} {r : List (Nat × FuncId)} (hk : compFunc P f = some (n, wipeBody 2 r, [])) (hn : 1 ≤ n) (hne : r ≠ []) (h : WipesT P 0 row r) : WipeT P f row := by
  intro s p N i k m rows c hp hN ho hm hc hkm hsp
  refine RunV.func hP hk (by simpa using hn) ?_
  refine wipeBodyT (k := k) (i := i) hp r 0 row h hne 2 _ s rows c _ (by omega) (by simp only [VAL]) hN ho hm hc (by omega) (by simpa using hsp) fun env' s' hd g1 => ?_
  rw [retA_normal]
  refine ⟨hd, ?_⟩
  simp only [resAs]
  exact ⟨⟨_, rfl⟩, g1⟩
theorem WipeT.sl (hP : P.follows .mixedOrders = true) {f w e : FuncId} {row : List Lf} (hf : compFunc P f = some (6, wipeLCode w e, [])) (hk : compFunc P w = some (16, wipesCode row.length, [])) (he : WipeT P e row) : WipeT P f [.sl row] := by
  intro s p N i k m rows c hp hN ho hm hc hkm hsp
  have hcl := hm c (List.mem_of_getElem? hc)
  simp only [List.length_singleton] at hkm hsp
  obtain ⟨v, hv⟩ : ∃ v, c[k]? = some v := ⟨c[k]'(by omega), List.getElem?_eq_getElem _⟩
  have hsv : Sp s p (.sl row) v := hsp.2 0 _ v rfl (by rw [List.getElem?_take, if_pos (by omega), List.getElem?_drop]; simpa using hv)
  have hone : v.one = true := by cases hsv <;> rfl
  have hld : loadO (some (.cells m rows)) false 1 i k = some v := by
    simp only [loadO, hc, Option.bind_some, partA, hv]
    simp
  refine RunV.func hP hf (by simp) ?_
  simp (disch := omega) only [wipeLCode, ↓CTL, VAL, Nat.reduceBEq, Nat.reduceAdd, ho, hld]
  have key : RunV P (.func (.func w) [] []) [v, .func (.func e) [] []] s (fun o s' => (∃ v, o = .ret v) ∧ Kin p s s') := by
    refine RunV.func hP hk (by simp) ?_
    cases hsv with
    | nil =>
      simp (disch := omega) only [wipesCode, ↓CTL, VAL, Nat.reduceBEq, Nat.reduceAdd]
      refine A_loopV (α := Nat) [5, 6, 7, 8, 11, 12, 13, 14, 15, 9, 10, 4] (fun i => [(4, .int .i64 i)]) (fun i t => i = 0 ∧ t = s) (fun _ => 0) rfl (fun _ => rfl) ⟨0, ?_, rfl, rfl⟩ ?_
      · simp only [↓CTL, VAL, Nat.reduceBEq]; rfl
      · rintro i f' t ⟨rfl, rfl⟩
        simp (disch := omega) only [↓CTL, VAL, Nat.reduceBEq, Nat.reduceAdd]
        exact ⟨⟨_, rfl⟩, .refl _ _⟩
    | @ms _ N' i' len ex rows' m' hm0 hp' hN' ho' hl' hlb hm' hh =>
      subst hm0
      simp (disch := omega) only [wipesCode, ↓CTL, VAL, Nat.reduceBEq, Nat.reduceAdd]
      refine A_loopV (α := Nat) [5, 6, 7, 8, 11, 12, 13, 14, 15, 9, 10, 4] (fun i => [(4, .int .i64 i)]) (fun i t => i ≤ len ∧ Kin p s t) (fun i => len - i) rfl (fun _ => rfl) ⟨0, ?_, Nat.zero_le _, .refl _ _⟩ ?_
      · simp only [↓CTL, VAL, Nat.reduceBEq]; rfl
      · rintro j f' t ⟨hi, hkin⟩
        have hnx := hkin.nx
        obtain ⟨rows2, ho2, hkr⟩ : ∃ rows2, t.objs N' = some (.cells row.length rows2) ∧ KinR rows' rows2 := by
          rcases hkin.ob N' hN' with h1 | ⟨m', r1, r2, k1, k2, k3⟩
          · exact ⟨rows', h1.trans ho', .refl _⟩
          · rw [ho'] at k1; cases k1; exact ⟨r2, k2, k3⟩
        simp (disch := omega) only [↓CTL, VAL, Nat.reduceBEq, Nat.reduceAdd]
        refine B_if (fun hlt => ?_) (fun hge => ?_)
        · have hjl : i' + j < rows2.length := by rw [hkr.1]; omega
          have hm2 : ∀ r ∈ rows2, r.length = row.length := fun r' hr' => by
            obtain ⟨j, hj⟩ := List.getElem?_of_mem hr'
            have hjl := (List.getElem?_eq_some_iff.1 hj).1
            have hjr : rows'[j]? = some (rows'[j]'(by rw [← hkr.1]; exact hjl)) := List.getElem?_eq_getElem _
            rw [(hkr.2 j _ r' hjr hj).1]
            exact hm' _ (List.getElem_mem _)
          have hjr : rows'[i' + j]? = some (rows'[i' + j]'(by omega)) := List.getElem?_eq_getElem _
          have hj2 : rows2[i' + j]? = some (rows2[i' + j]'hjl) := List.getElem?_eq_getElem _
          obtain ⟨e1, e2⟩ := hkr.2 _ _ _ hjr hj2
          have hspj : SpR t p row (((rows2[i' + j]'hjl).drop 0).take row.length) := by
            rw [List.drop_zero, List.take_of_length_le (by rw [hm2 _ (List.getElem_mem _)]; exact Nat.le_refl _)]
            refine SpR.kin (s := s) (cs := rows'[i' + j]'(by omega)) hkin ⟨hm' _ (List.getElem_mem _), fun q f v h1 h2 => hh (i' + j) q _ f v (by omega) (by omega) hjr h1 h2⟩ e1 e2
          simp (disch := omega) only [↓CTL, VAL, Nat.reduceBEq, Nat.reduceAdd, Int.toNat_natCast]
          refine (he t p N' (i' + j) 0 row.length rows2 _ hp' (by omega) ho2 hm2 hj2 (by omega) hspj).mono fun o s' ⟨⟨v', ho⟩, g1⟩ => ?_
          subst ho
          simp (disch := omega) only [↓CTL, VAL, Nat.reduceBEq, Nat.reduceAdd]
          exact ⟨j + 1, rfl, ⟨by omega, hkin.trans g1⟩, by omega⟩
        · simp (disch := omega) only [↓CTL, VAL, Nat.reduceBEq, Nat.reduceAdd]
          exact ⟨⟨_, rfl⟩, hkin⟩
  refine key.mono fun o s' ⟨⟨v', ho⟩, h1⟩ => ?_
  subst ho
  simp (disch := omega) only [↓CTL, VAL, Nat.reduceBEq, Nat.reduceAdd]
  exact ⟨⟨_, rfl⟩, h1⟩
end
end Go.Tc
namespace Go.Tc
set_option linter.unusedSimpArgs false
set_option linter.unusedVariables false
set_option maxRecDepth 20000
def shV (n : Nat) : AVal → AVal
  | .agg cs => .agg (cs.map (sh1 n))
  | v => sh1 n v
open Classical in
noncomputable def keepP (b n : Nat) : Option AObj → Option AObj
  | some (.cells m rows) => if RowsP b rows then some (.cells m (rows.map (·.map (sh1 n)))) else none
  | _ => none
noncomputable def plusP (σ s : AHeap) : AHeap := ⟨fun N => if N < σ.next then σ.objs N else if N < σ.next + s.next then keepP s.next σ.next (s.objs (N - σ.next)) else none, σ.next + s.next⟩
theorem plusP_ext (σ s : AHeap) : Ext σ (plusP σ s) := ⟨Nat.le_add_right _ _, fun _ hN => if_pos hN⟩
theorem plusP_obj {σ s : AHeap} {N m : Nat} {rows : List (List AVal)} (h : s.objs N = some (.cells m rows)) (hl : N < s.next) (hs : RowsP s.next rows) : (plusP σ s).objs (N + σ.next) = some (.cells m (rows.map (·.map (sh1 σ.next)))) := by
  simp only [plusP]
  rw [if_neg (by omega), if_pos (by omega), Nat.add_sub_cancel, h]
  simp [keepP, hs]
theorem sh1_scal {n : Nat} {v : AVal} (h : scal v = true) : sh1 n v = v := by cases v <;> first | rfl | cases h
theorem PlainC.sh {b n : Nat} {v : AVal} (h : PlainC b v) : PlainC (n + b) (sh1 n v) := by
  obtain ⟨h1, h2 | ⟨m, N, i, len, ex, rfl, hN⟩⟩ := h
  · rw [sh1_scal h2]; exact ⟨h1, .inl h2⟩
  · exact ⟨rfl, .inr ⟨m, N + n, i, len, ex, rfl, by omega⟩⟩
def gS (σ s : AHeap) : Nat → Nat → Prop := fun N N' => (if N < s.next then some (N + σ.next) else none) = some N'
theorem PlainC.ren {σ s : AHeap} {v : AVal} (h : PlainC s.next v) : Ren (gS σ s) v (sh1 σ.next v) := by
  obtain ⟨h1, h2 | ⟨m, N, i, len, ex, rfl, hN⟩⟩ := h
  · rw [sh1_scal h2]; exact scal_ren v h2
  · exact .ms (by simp only [gS]; rw [if_pos hN])
theorem PlainC.sh1 {b n : Nat} {v : AVal} (h : PlainC b v) : (sh1 n v).one = true := (h.sh (n := n)).1
theorem Tr.plain {s : AHeap} {p : Nat → Prop} {f : Lf} {d : Dl} {v : AVal} (h : Tr s p false f d v) : PlainC s.next v := by
  cases h with
  | int k n _ => exact ⟨rfl, .inl rfl⟩
  | bool b => exact ⟨rfl, .inl rfl⟩
  | str x => exact ⟨rfl, .inl rfl⟩
  | nil row => exact ⟨rfl, .inl rfl⟩
  | ms hm0 hlen hp hN => exact ⟨rfl, .inr ⟨_, _, _, _, _, rfl, hN⟩⟩
  | rs _ _ hro => cases hro
theorem Tr.shift {σ s : AHeap} {p : Nat → Prop} {f : Lf} {d : Dl} {v : AVal} (h : Tr s p false f d v) : Tr (plusP σ s) (fun N => σ.next ≤ N) false f d (Go.Tc.sh1 σ.next v) := by
  induction h with
  | int k n hw => exact .int k n hw
  | bool b => exact .bool b
  | str x => exact .str x
  | nil row => exact .nil row
  | @ms row ds N i len ex rows m hm0 hlen hp hN ho hP hl hb hn hm _ ih =>
    refine .ms hm0 hlen (show σ.next ≤ N + σ.next by omega) (by simp only [plusP]; omega) (plusP_obj ho hN hP) (fun r hr v hv => ?_) (by simpa using hl) hb hn (fun r hr => ?_) fun j q d r f x v h1 h2 h3 h4 h5 => ?_
    · obtain ⟨r0, hr0, rfl⟩ := List.mem_map.1 hr
      obtain ⟨v0, hv0, rfl⟩ := List.mem_map.1 hv
      exact (hP r0 hr0 v0 hv0).sh
    · obtain ⟨r0, hr0, rfl⟩ := List.mem_map.1 hr
      rw [List.length_map]; exact hm r0 hr0
    · rw [List.getElem?_map, Option.map_eq_some_iff] at h2
      obtain ⟨r0, hr0, rfl⟩ := h2
      rw [List.getElem?_map, Option.map_eq_some_iff] at h5
      obtain ⟨v0, hv0, rfl⟩ := h5
      exact ih j q d r0 f x v0 h1 hr0 h3 h4 hv0
  | rs _ _ hro => cases hro
theorem TrR.shift {σ s : AHeap} {p : Nat → Prop} {row : List Lf} {ds : List Dl} {cs : List AVal} (h : TrR s p false row ds cs) : TrR (plusP σ s) (fun N => σ.next ≤ N) false row ds (cs.map (sh1 σ.next)) :=
  ⟨h.dl, by rw [List.length_map]; exact h.cl, fun q f x v h1 h2 h3 => by
    rw [List.getElem?_map, Option.map_eq_some_iff] at h3
    obtain ⟨v0, hv0, rfl⟩ := h3
    exact (h.el q f x v0 h1 h2 hv0).shift⟩
def ResT (s : AHeap) (p : Nat → Prop) : List (Bool × List Lf) → List (List Dl) → List AVal → Prop
  | [], [], [] => True
  | t :: ts, d :: ds, v :: vs => (∃ cs, v = valOf t.1 cs ∧ (t.1 = false → cs.length = 1) ∧ TrR s p false t.2 d cs) ∧ ResT s p ts ds vs
  | _, _, _ => False
theorem valOf_sh {n : Nat} {agg : Bool} {cs : List AVal} (h : agg = false → ∃ c, cs = [c] ∧ c.one = true) : shV n (valOf agg cs) = valOf agg (cs.map (sh1 n)) := by
  cases agg with
  | true => rfl
  | false =>
    obtain ⟨c, rfl, hc⟩ := h rfl
    cases c <;> first | rfl | cases hc
theorem ResT.shift {σ s : AHeap} {p : Nat → Prop} : ∀ {ts : List (Bool × List Lf)} {ds : List (List Dl)} {vs : List AVal}, ResT s p ts ds vs → ResT (plusP σ s) (fun N => σ.next ≤ N) ts ds (vs.map (shV σ.next))
  | [], [], [], _ => trivial
  | t :: ts, d :: ds, v :: vs, ⟨⟨cs, hv, h1, htr⟩, hr⟩ => by
    refine ⟨⟨cs.map (sh1 σ.next), ?_, fun h => by rw [List.length_map]; exact h1 h, htr.shift⟩, ResT.shift hr⟩
    rw [hv]
    exact valOf_sh fun h => by
      obtain ⟨c, hc⟩ := one_row (h1 h)
      exact ⟨c, hc, htr.one c (by rw [hc]; simp)⟩
theorem ResT.ren {σ s : AHeap} {p : Nat → Prop} : ∀ {ts : List (Bool × List Lf)} {ds : List (List Dl)} {vs : List AVal}, ResT s p ts ds vs → ∀ (i : Nat) v v', vs[i]? = some v → (vs.map (shV σ.next))[i]? = some v' → Ren (gS σ s) v v'
  | [], [], [], _, i, v, v', h1, _ => by simp at h1
  | t :: ts, d :: ds, a :: vs, ⟨⟨cs, hv, h1, htr⟩, hr⟩, 0, v, v', g1, g2 => by
    simp at g1 g2; subst g1; subst g2
    subst hv
    have hpl : ∀ c ∈ cs, PlainC s.next c := fun c hc => by
      obtain ⟨q, hq⟩ := List.getElem?_of_mem hc
      have hlt := (List.getElem?_eq_some_iff.1 hq).1
      have e1 := htr.dl
      have e2 := htr.cl
      exact (htr.el q _ _ c (List.getElem?_eq_getElem (by omega)) (List.getElem?_eq_getElem (by omega)) hq).plain
    obtain ⟨agg, row⟩ := t
    rw [valOf_sh fun h => by
      obtain ⟨c, hc⟩ := one_row (h1 h)
      exact ⟨c, hc, htr.one c (by rw [hc]; simp)⟩]
    cases agg with
    | true =>
      refine .agg (by simp) fun i v v' k1 k2 => ?_
      rw [List.getElem?_map, k1] at k2
      cases k2
      exact (hpl v (List.mem_of_getElem? k1)).ren
    | false =>
      obtain ⟨c, rfl⟩ := one_row (h1 rfl)
      exact (hpl c (by simp)).ren
  | t :: ts, d :: ds, a :: vs, ⟨_, hr⟩, i + 1, v, v', g1, g2 => by
    simp only [List.getElem?_cons_succ, List.map_cons] at g1 g2
    exact ResT.ren hr i v v' g1 g2
theorem CallV.uniT {P : Program} {f : FuncId} {zs : List AVal} (hclo : ∀ a ∈ zs, Clo a) {vs : List AVal} {ts : List (Bool × List Lf)} {ds : List (List Dl)} {p : Nat → Prop} {s : AHeap} (h : CallV P (.func (.func f) [] []) zs nilHeap (.ret (tupA vs)) s) (hr : ResT s p ts ds vs) (σ : AHeap) :
    CallV P (.func (.func f) [] []) zs σ (.ret (tupA (vs.map (shV σ.next)))) (plusP σ s) := by
  refine h.ren (fun N => if N < s.next then some (N + σ.next) else none) (fun N' => if σ.next ≤ N' ∧ N' < σ.next + s.next then some (N' - σ.next) else none) (fun N N' => ?_) (fun N N' hg => ?_) (fun N N' hg => ?_) (Nat.le_add_right _ _) (.func rfl rfl (by simp) (by simp)) rfl
    (fun i a a0 h1 h2 => by rw [h1] at h2; cases h2; exact hclo a (List.mem_of_getElem? h1) _) (fun N o hN => by simp [nilHeap] at hN) (fun N' o' hN => ?_) ?_
  · constructor
    · intro hg
      split at hg
      · cases hg
        rw [if_pos ⟨by omega, by omega⟩]; congr 1; omega
      · cases hg
    · intro hg
      split at hg
      · cases hg
        rw [if_pos (by omega)]; congr 1; omega
      · cases hg
  · simp only [nilHeap]
    split at hg
    · cases hg; omega
    · cases hg
  · simp only [plusP]
    split at hg
    · cases hg; omega
    · cases hg
  · simp only [plusP] at hN
    split at hN
    · rename_i hlt
      right
      exact ⟨by rw [if_neg (by omega)], hN⟩
    · rename_i hge
      left
      split at hN
      case isFalse => cases hN
      rename_i hlt2
      cases ho : s.objs (N' - σ.next) with
      | none => rw [ho] at hN; cases hN
      | some o =>
        cases o with
        | cells m rows =>
          rw [ho] at hN
          simp only [keepP] at hN
          split at hN
          · rename_i hrows
            cases hN
            have pl : ∀ {j q : Nat} {v : AVal}, cellAt rows j q = some v → PlainC s.next v := fun hc => by
              simp only [cellAt, Option.bind_eq_some_iff] at hc
              obtain ⟨row, hr, hv⟩ := hc
              exact hrows row (List.mem_of_getElem? hr) _ (List.mem_of_getElem? hv)
            have cm : ∀ {j q : Nat} {v' : AVal}, cellAt (rows.map (·.map (sh1 σ.next))) j q = some v' → ∃ v, cellAt rows j q = some v ∧ v' = sh1 σ.next v := fun hc => by
              simp only [cellAt, List.getElem?_map, Option.bind_eq_some_iff, Option.map_eq_some_iff] at hc
              obtain ⟨r', ⟨r0, hr0, rfl⟩, hq⟩ := hc
              rw [List.getElem?_map, Option.map_eq_some_iff] at hq
              obtain ⟨v0, hv0, rfl⟩ := hq
              exact ⟨v0, by simp [cellAt, hr0, hv0], rfl⟩
            refine ⟨N' - σ.next, .cells m rows, ?_, ho, .cells (fun j => ?_) (fun j q v v' h1 h2 => ?_) (fun j q v' h1 => ?_)⟩
            · show (if N' - σ.next < s.next then some (N' - σ.next + σ.next) else none) = some N'
              rw [if_pos (by omega)]; congr 1; omega
            · rw [List.getElem?_map]
              cases rows[j]? <;> simp
            · obtain ⟨v0, h3, rfl⟩ := cm h2
              rw [h1] at h3; cases h3
              exact (pl h1).ren
            · obtain ⟨v0, h3, rfl⟩ := cm h1
              exact (pl h3).sh1
          · cases hN
        | _ => rw [ho] at hN; cases hN
  · have hren := hr.ren (σ := σ)
    match vs, hren with
    | [], _ => exact .tup (by simp) (by simp)
    | [v], h => exact h 0 v _ rfl rfl
    | v :: w :: vs, h => exact .tup (by simp) h
theorem RunV.uniT {P : Program} {f : FuncId} {zs : List AVal} (hclo : ∀ a ∈ zs, Clo a) (ts : List (Bool × List Lf)) (Z : List (List Dl) → Prop) (h : ∀ σ, RunV P (.func (.func f) [] []) zs σ (fun o s => ∃ ds vs, o = .ret (tupA vs) ∧ ResT s (fun N => σ.next ≤ N) ts ds vs ∧ Z ds ∧ Ext σ s)) :
    ∃ ds, Z ds ∧ ∀ σ, RunV P (.func (.func f) [] []) zs σ (fun o s => ∃ vs, o = .ret (tupA vs) ∧ ResT s (fun N => σ.next ≤ N) ts ds vs ∧ Ext σ s) := by
  obtain ⟨o, s, ⟨ds, vs, rfl, hr, hz, _⟩, hc⟩ := h nilHeap
  exact ⟨ds, hz, fun σ => ⟨_, _, ⟨_, rfl, hr.shift, plusP_ext σ s⟩, hc.uniT hclo hr σ⟩⟩
end Go.Tc
namespace Go.Tc
open Go.RowKit Go.ChangeShapes Go.WideShapes Go.ChangeAt
theorem rel_nil (W : World) : Rel (fun _ => none) (fun b _ => b < W.heap.size) nilHeap W :=
  ⟨fun _ _ h => (by cases h), fun _ _ _ h => (by cases h), fun _ _ _ _ _ _ _ h => (by cases h), fun _ _ _ ⟨_, _, _, _, _, _, h, _⟩ => (by cases h), fun _ _ h => h⟩
theorem Frame.below {W W' : World} (h : Frame (fun _ => none) nilHeap W W') : Below W.heap.size W W' := by
  refine ⟨h.os, h.tape, h.output, h.size, fun k hk => ?_⟩
  obtain ⟨o, ho⟩ : ∃ o, W.heap[k]? = some o := ⟨W.heap[k], Array.getElem?_eq_getElem hk⟩
  rw [ho]
  cases hc : isCells o with
  | false => exact h.objs k o ho hc (fun ⟨_, _, h, _⟩ => by cases h)
  | true =>
    cases o with
    | cells c e f =>
      obtain ⟨c', h1, h2, h3⟩ := h.cells k c e f ho
      rw [h1]
      have : c' = c := Array.ext_getElem? fun i => h3 i (fun ⟨_, _, _, _, _, _, h, _⟩ => by cases h)
      rw [this]
    | _ => cases hc
section
variable {H : Type} {enc : TypeId × Value → H} {P : Program} {W W' : World}
theorem trodAll_back (hl : laidOutB P = true) (hb : Below W.heap.size W W') {sp : Nat → Bool} : ∀ (ts : List TypeId) (vs : List Value) (ds : List (DataW H)) (ps : List MemPlace), (∀ t ∈ ts, P.readableRec t = true ∧ t < P.types.size) →
    DataW.TrodAll enc P W 0 (fun _ => true) true ts vs ds ps → (∀ x ∈ ps, x.block < W.heap.size) → (∀ x ∈ ps, sp x.block = true) → DataW.TrodAll enc P W' 0 sp true ts vs ds ps
  | [], vs, ds, ps, _, h, _, _ => by
    cases vs <;> cases ds <;> simp [DataW.TrodAll] at h ⊢
    exact h
  | t :: ts, vs, ds, ps, ht, h, hlt, hs => by
    cases vs <;> cases ds <;> simp only [DataW.TrodAll] at h ⊢ <;> try exact h.elim
    obtain ⟨p, q, h1, h2, rfl⟩ := h
    obtain ⟨a, b⟩ := ht t (by simp)
    exact ⟨p, q, WideElems.Trod_stays hl a b h1 (fun x hx => hb.same (hlt x (by simp [hx]))) (fun x hx => hs x (by simp [hx])),
      trodAll_back hl hb ts _ _ _ (fun t ht' => ht t (by simp [ht'])) h2 (fun x hx => hlt x (by simp [hx])) (fun x hx => hs x (by simp [hx])), rfl⟩
end
theorem post_true {H : Type} {enc : TypeId × Value → H} {P : Program} {f : Func} {s : ChangeSpec} {apart fresh handsOn again : Bool} {W W' : World} {args : Array Value} {ds gs : List (DataW H)} {before : List MemPlace}
    (hl : laidOutB P = true) (hv : s.vars = []) {tb : TypeId} (hr : f.resultTypes = #[tb]) (hb : P.underlying tb = some .bool) (ht : ∀ t ∈ f.params.toList, P.readableRec t = true ∧ t < P.types.size)
    (hW : DataW.Whole enc P f.params.toList s.vars apart W args.toList ds gs before) (hfn : (s.fn H (ds ++ gs)).results = [.lit (.bool true)] ∧ (s.fn H (ds ++ gs)).args = ds ∧ (s.fn H (ds ++ gs)).vars = [])
    (hB : Below W.heap.size W W') : s.post enc P f apart fresh handsOn again W args (.bool true) W' := by
  have hlt : ∀ x ∈ before, x.block < W.heap.size := fun x hx => hW.lt x hx
  have hW0 := hW
  obtain ⟨p, q, hA, hV, rfl, hz, hn⟩ := hW0
  rw [hv] at hV
  have hq : q = [] := by
    cases gs <;> simp [DataW.TrodVars] at hV
    exact hV
  subst hq
  simp only [List.append_nil] at hlt hz hn hW
  have hres : ∀ (b : Nat) (sp : Nat → Bool) (hd : Bool), DataW.TrodAll enc P W' b sp hd f.resultTypes.toList ((Value.bool true).resultList f.resultTypes.size) (s.fn H (ds ++ gs)).results [] := by
    intro b sp hd
    rw [hr, hfn.1]
    exact trodAll_cons_mk (shut_bool hb _) trodAll_mk0
  have hargs : ∀ sp : Nat → Bool, (∀ x ∈ p, sp x.block = true) → DataW.TrodAll enc P W' 0 sp true f.params.toList args.toList (s.fn H (ds ++ gs)).args p := by
    intro sp hs
    rw [hfn.2.1]
    exact trodAll_back hl hB _ _ _ _ ht hA hlt hs
  have hvars : ∀ sp : Nat → Bool, DataW.TrodVars enc P W' sp s.vars (s.fn H (ds ++ gs)).vars [] := by
    intro sp
    rw [hv, hfn.2.2]
    rfl
  refine ⟨ds, gs, p, [], p, [], hW, hres _ _ _, hargs _ (fun x hx => by simpa using hlt x hx), hvars _, World.keptBut_mono (fun x hx => ⟨hx, .inr (.inl hx)⟩) (hB.frame _), fun _ => ?_⟩
  refine ⟨?_, _, _, ([] ++ p) ++ [], ⟨[] ++ p, [], trodAll_append (hargs _ (fun _ _ => rfl)) (hres _ _ _), hvars _, rfl, ?_, ?_⟩, ?_⟩
  · exact ok_one hr rfl (okWide_bool_mk hb _)
  · intro b off hp
    have hp' : MemPlace.cell b off ∈ p := by simpa using hp
    rw [hB.frozen (hlt _ hp')]
    exact hz b off hp'
  · intro ha
    simpa using hn ha
  · intro x hx _
    simpa using hx
theorem RunV.calls {P : Program} {f : FuncId} (hen : enters P f = true) {zs : List AVal} {us : Array Value} {W : World}
    (h : RunV P (.func (.func f) [] []) zs nilHeap (fun o s => o = .ret (.bool true))) (hus : VRels (fun _ => none) (fun b _ => b < W.heap.size) W zs us) :
    Calls P f us W fun e W' => e = .returned (.bool true) ∧ Below W.heap.size W W' := by
  obtain ⟨out, s, rfl, hc⟩ := h
  have := hc _ _ W (.func (.func f) #[] #[]) us (rel_nil W) (.func (by simp) rfl rfl (by simp) (by simp)) hus
  simp only [Deferred.ofValue, pure_bind, invoke, enters_run hen, Upon, Array.empty_append, Array.append_empty] at this
  refine callsIn_wide.1 (CallsIn.mono (by simpa using this) fun e W' hm => ?_)
  obtain ⟨ι', ro', L, R, E⟩ := hm
  refine ⟨?_, L.frame.below⟩
  cases E with
  | ret hv => cases hv; rfl
end Go.Tc
namespace Go.Tc
open Go.RowKit Go.ChangeShapes Go.WideShapes Go.ChangeAt
set_option linter.unusedSimpArgs false
inductive Sh {H : Type} (P : Program) : TypeId → DataW H → List AVal → Prop
  | bool {t : TypeId} {b : Bool} (ht : P.underlying t = some .bool) : Sh P t (.lit (.bool b)) [.bool b]
  | int {t : TypeId} {k : IntKind} {n : Int} (ht : P.underlying t = some (.int k)) (hw : (Lit.int k n).wf = true) : Sh P t (.lit (.int k n)) [.int k n]
  | str {t : TypeId} {s : ByteArray} (ht : P.underlying t = some .string) (hs : s.size ≤ maxLen) : Sh P t (.lit (.string s.data.toList)) [.str s]
  | nilS {t e : TypeId} (ht : P.underlying t = some (.slice e)) : Sh P t .nil [.nilS]
  | slice {t e : TypeId} {elems spare : List (DataW H)} {rows : List (List AVal)} (ht : P.underlying t = some (.slice e)) (hl : rows.length = elems.length)
      (hr : ∀ (i : Nat) d r, elems[i]? = some d → rows[i]? = some r → Sh P e d r) : Sh P t (.slice elems spare) [.rs (P.cellsOf e) rows 0 rows.length false]
  | struct {t : TypeId} {fs : Array Field} {parts : List (DataW H)} {cs : List (List AVal)} (ht : P.underlying t = some (.struct fs)) (hl : parts.length = fs.size) (hc : cs.length = fs.size)
      (hp : ∀ (i : Nat) f d c, fs[i]? = some f → parts[i]? = some d → cs[i]? = some c → Sh P f.type d c) : Sh P t (.agg parts) cs.flatten
def contigB (P : Program) : Nat → List Field → Nat → Bool
  | off, [], total => Nat.beq off total
  | off, f :: fs, total => Nat.beq f.offset off && contigB P (off + P.cellsOf f.type) fs total
def plainB (P : Program) : Nat → TypeId → Bool
  | 0, _ => false
  | n + 1, t => match P.underlying t with
    | some .bool | some (.int _) | some .string => true
    | some (.slice e) => Nat.blt 0 (P.cellsOf e) && plainB P n e
    | some (.struct fs) => contigB P 0 fs.toList (P.cellsOf t) && fs.toList.all fun f => plainB P n f.type
    | _ => false
def RelL (W : World) (zs : List AVal) (cs : List Value) : Prop :=
  zs.length = cs.length ∧ (∀ a ∈ zs, a.one = true) ∧ ∀ (i : Nat) a u, zs[i]? = some a → cs[i]? = some u → VRel (fun _ => none) (fun b _ => b < W.heap.size) W a u
theorem RelL.one1 {W : World} {a : AVal} {u : Value} (h1 : a.one = true) (h : VRel (fun _ => none) (fun b _ => b < W.heap.size) W a u) : RelL W [a] [u] :=
  ⟨rfl, by simpa using h1, fun i a' u' h2 h3 => by
    cases i with
    | zero => simp at h2 h3; subst h2; subst h3; exact h
    | succ i => simp at h2⟩
theorem RelL.append {W : World} {zs bs : List AVal} {cs ds : List Value} (h : RelL W zs cs) (k : RelL W bs ds) : RelL W (zs ++ bs) (cs ++ ds) := by
  refine ⟨by simp [h.1, k.1], fun a ha => ?_, fun i a u h1 h2 => ?_⟩
  · rcases List.mem_append.1 ha with ha | ha
    · exact h.2.1 a ha
    · exact k.2.1 a ha
  · by_cases hi : i < zs.length
    · rw [List.getElem?_append_left hi] at h1
      rw [List.getElem?_append_left (by have := h.1; omega)] at h2
      exact h.2.2 i a u h1 h2
    · rw [List.getElem?_append_right (by omega)] at h1
      rw [List.getElem?_append_right (by have := h.1; omega)] at h2
      rw [← h.1] at h2
      exact k.2.2 _ a u h1 h2
theorem cells_rel {W : World} {base : Nat} {a : Addr} {m : Nat} {cs : List Value} (h : W.cells? base a m = some cs) : cs.length = m ∧ ∀ (q : Nat) u, cs[q]? = some u → W.cell? (a.add q) = some u := by
  unfold World.cells? at h
  split at h
  · have hl := mapM_some_length h
    refine ⟨by simpa using hl, fun q u hu => ?_⟩
    have hq : q < m := by have := (List.getElem?_eq_some_iff.1 hu).1; simp at hl; omega
    rw [← hu]
    exact mapM_some_get h q q (by simp [hq])
  · cases h
theorem cell_spot {W : World} {a : Addr} {u : Value} (h : W.cell? a = some u) : a.spot = none ∧ a.block < W.heap.size := by
  unfold World.cell? at h
  split at h
  · rename_i c x y hb
    refine ⟨?_, (Array.getElem?_eq_some_iff.1 hb).1⟩
    split at h
    · cases h
    · rename_i hs; simpa using hs
  · cases h
theorem add_block (a : Addr) (x : Nat) : (a.add x).block = a.block := by unfold Addr.add; split <;> rfl
theorem add_off (a : Addr) (x : Nat) : (a.add x).off = a.off + x := by unfold Addr.add; split <;> simp_all
theorem cell_at {W : World} {a : Addr} {x q : Nat} {u : Value} (h : W.cell? ((a.add x).add q) = some u) : W.cell? ⟨a.block, a.off + x + q, none⟩ = some u ∧ a.block < W.heap.size := by
  obtain ⟨h1, h2⟩ := cell_spot h
  have e : (a.add x).add q = ⟨a.block, a.off + x + q, none⟩ := by
    have e1 : ((a.add x).add q).block = a.block := by rw [add_block, add_block]
    have e2 : ((a.add x).add q).off = a.off + x + q := by rw [add_off, add_off]
    generalize (a.add x).add q = p at h1 e1 e2
    obtain ⟨b, o, s⟩ := p
    simp only at h1 e1 e2
    rw [h1, e1, e2]
  rw [e] at h
  rw [add_block, add_block] at h2
  exact ⟨h, h2⟩
section
variable {H : Type} {enc : TypeId × Value → H} {P : Program} {W : World} {held : Bool}
theorem fields_rel {W : World} {cs : List Value} : ∀ (fs : List Field) (off total : Nat) (xs : List (List AVal)), contigB P off fs total = true → cs.length = total → xs.length = fs.length →
    (∀ (i : Nat) f x, fs[i]? = some f → xs[i]? = some x → RelL W x ((cs.drop f.offset).take (P.cellsOf f.type))) → RelL W xs.flatten (cs.drop off)
  | [], off, total, xs, hc, hl, hx, _ => by
    have : xs = [] := List.length_eq_zero_iff.1 hx
    subst this
    simp only [contigB, Nat.beq_eq] at hc
    subst hc
    rw [← hl, List.drop_length]
    exact ⟨rfl, by simp, by simp⟩
  | f :: fs, off, total, [], hc, hl, hx, _ => by simp at hx
  | f :: fs, off, total, x :: xs, hc, hl, hx, h => by
    simp only [contigB, Bool.and_eq_true, Nat.beq_eq] at hc
    have h0 := h 0 f x rfl rfl
    rw [hc.1] at h0
    have ih := fields_rel fs (off + P.cellsOf f.type) total xs hc.2 hl (by simpa using hx) (fun i f' x' h1 h2 => h (i + 1) f' x' (by simpa using h1) (by simpa using h2))
    have e : cs.drop off = (cs.drop off).take (P.cellsOf f.type) ++ cs.drop (off + P.cellsOf f.type) := by
      rw [← List.drop_drop, List.take_append_drop]
    rw [e, List.flatten_cons]
    exact h0.append ih
theorem trod_sh : ∀ (n : Nat) (t : TypeId) (k : Nat) (cs : List Value) (x : DataW H × List MemPlace), plainB P n t = true → DataW.trod enc P W 0 (fun _ => true) held k t cs = some x → ∃ zs, Sh P t x.1 zs ∧ RelL W zs cs := by
  intro n
  induction n with
  | zero => intro t k cs x hp; cases hp
  | succ n ih =>
    intro t k cs x hp h
    simp only [plainB] at hp
    split at hp
    · rename_i ht
      obtain ⟨b, rfl, rfl⟩ := DataW.trod_bool ht h
      exact ⟨_, .bool ht, .one1 rfl (.bool b)⟩
    · rename_i kd ht
      obtain ⟨m, rfl, rfl, hw⟩ := DataW.trod_int ht h
      exact ⟨_, .int ht hw, .one1 rfl (.int _ _)⟩
    · rename_i ht
      obtain ⟨s, rfl, rfl, hs⟩ := DataW.trod_string ht h
      exact ⟨_, .str ht hs, .one1 rfl (.str s)⟩
    · rename_i e ht
      simp only [Bool.and_eq_true, Nat.blt_eq] at hp
      rcases DataW.trod_slice ht h with ⟨rfl, rfl⟩ | ⟨a, len, cap, elems, rest, m, rfl, rfl, rfl, _, hl, _, hlen, hel, hsp, _⟩
      · exact ⟨_, .nilS ht, .one1 rfl .nilS⟩
      · have hrow : ∀ i, i < len → ∃ zs : List AVal, ∀ y, elems[i]? = some y → Sh P e y.1 zs ∧ ∃ cs', W.cells? 0 (a.add (i * P.cellsOf e)) (P.cellsOf e) = some cs' ∧ RelL W zs cs' := by
          intro i hi
          have h1 := hel i hi
          rw [List.getElem?_eq_getElem (by omega)] at h1
          simp only [Option.bind_eq_some_iff] at h1
          obtain ⟨cs', hc, ht'⟩ := h1
          obtain ⟨zs, hs, hr⟩ := ih _ _ _ _ hp.2 ht'
          refine ⟨zs, fun y hy => ?_⟩
          rw [List.getElem?_eq_getElem (by omega)] at hy
          cases hy
          exact ⟨hs, cs', hc, hr⟩
        obtain ⟨g, hg⟩ := Go.Deep.choose_lt hrow
        have hg' : ∀ i, i < len → ∃ cs', W.cells? 0 (a.add (i * P.cellsOf e)) (P.cellsOf e) = some cs' ∧ RelL W (g i) cs' := fun i hi => (hg i hi _ (List.getElem?_eq_getElem (by omega))).2
        have hcell : ∀ j q v, cellAt ((List.range len).map g) j q = some v → ∃ u, W.cell? ((a.add (j * P.cellsOf e)).add q) = some u ∧ VRel (fun _ => none) (fun b _ => b < W.heap.size) W v u := by
          intro j q v hv
          simp only [cellAt, List.getElem?_map, Option.bind_eq_some_iff, Option.map_eq_some_iff] at hv
          obtain ⟨row, ⟨i, hi, rfl⟩, hq⟩ := hv
          have hj : i = j ∧ j < len := by
            have := (List.getElem?_eq_some_iff.1 hi)
            obtain ⟨h1, h2⟩ := this
            simp at h1 h2
            exact ⟨h2.symm, h1⟩
          obtain ⟨rfl, hj⟩ := hj
          obtain ⟨cs', hc, hr⟩ := hg' i hj
          obtain ⟨c1, c2⟩ := cells_rel hc
          have hql : q < cs'.length := by rw [← hr.1]; exact (List.getElem?_eq_some_iff.1 hq).1
          exact ⟨cs'[q], c2 q _ (List.getElem?_eq_getElem hql), hr.2.2 q v _ hq (List.getElem?_eq_getElem hql)⟩
        have hsh := Sh.slice (P := P) (t := t) (e := e) (elems := elems.map (·.1)) (spare := rest.map (·.1)) (rows := (List.range len).map g) ht (by simp [hlen]) (fun i d r h1 h2 => by
          simp only [List.getElem?_map, Option.map_eq_some_iff] at h1 h2
          obtain ⟨y, hy, rfl⟩ := h1
          obtain ⟨i', hi', rfl⟩ := h2
          obtain ⟨l1, l2⟩ := List.getElem?_eq_some_iff.1 hi'
          simp at l1 l2
          subst l2
          exact (hg _ l1 y hy).1)
        have el : ((List.range len).map g).length = len := by simp
        rw [el] at hsh
        refine ⟨_, hsh, .one1 rfl (.rs (m := P.cellsOf e) a.block a.off (fun j q => (W.cell? ⟨a.block, a.off + j * P.cellsOf e + q, none⟩).getD undef) ?_ ?_ ?_ hl (by simp) ?_)⟩
        · intro row hrow
          simp only [List.mem_map, List.mem_range] at hrow
          obtain ⟨i, hi, rfl⟩ := hrow
          obtain ⟨cs', hc, hr⟩ := hg' i hi
          exact ⟨hr.1.trans (cells_rel hc).1, hr.2.1⟩
        · intro j q v hv
          obtain ⟨u, hu, _⟩ := hcell j q v hv
          obtain ⟨c1, c2⟩ := cell_at hu
          exact ⟨c2, by rw [c1]; rfl⟩
        · intro j q v hv
          obtain ⟨u, hu, hr⟩ := hcell j q v hv
          obtain ⟨c1, c2⟩ := cell_at hu
          rw [c1]; exact hr
        · by_cases hc0 : cap = 0
          · exact .inl hc0
          · right
            have first : ∃ cs', W.cells? 0 (a.add 0) (P.cellsOf e) = some cs' := by
              by_cases h0 : len = 0
              · obtain ⟨r1, r2⟩ := hsp rfl
                have h1 := r2 0 (by omega)
                rw [List.getElem?_eq_getElem (by omega)] at h1
                simp only [Option.bind_eq_some_iff] at h1
                obtain ⟨cs', hc, _⟩ := h1
                rw [h0] at hc
                simp only [Nat.zero_add, Nat.zero_mul] at hc
                exact ⟨cs', hc⟩
              · obtain ⟨cs', hc, _⟩ := hg' 0 (by omega)
                rw [Nat.zero_mul] at hc
                exact ⟨cs', hc⟩
            obtain ⟨cs', hc⟩ := first
            obtain ⟨c1, c2⟩ := cells_rel hc
            have hu := c2 0 _ (List.getElem?_eq_getElem (by omega))
            have hs := (cell_spot hu).1
            have e0 : (a.add 0).add 0 = a := rfl
            rw [e0] at hs
            obtain ⟨b, o, s⟩ := a
            simp only at hs
            simp [hs]
    · rename_i fs ht
      simp only [Bool.and_eq_true, List.all_eq_true] at hp
      obtain ⟨xs, m, rfl, rfl, hcl, hxl, hf⟩ := DataW.trod_struct ht h
      have hrow : ∀ i, i < fs.size → ∃ zs : List AVal, ∀ f y, fs[i]? = some f → xs[i]? = some y → Sh P f.type y.1 zs ∧ RelL W zs ((cs.drop f.offset).take (P.cellsOf f.type)) := by
        intro i hi
        have h1 := hf i _ (Array.getElem?_eq_getElem hi)
        rw [List.getElem?_eq_getElem (by omega)] at h1
        obtain ⟨zs, hs, hr⟩ := ih _ _ _ _ (hp.2 _ (by simp)) h1
        refine ⟨zs, fun f y hf' hy => ?_⟩
        rw [Array.getElem?_eq_getElem hi] at hf'
        rw [List.getElem?_eq_getElem (by omega)] at hy
        cases hf'; cases hy
        exact ⟨hs, hr⟩
      obtain ⟨g, hg⟩ := Go.Deep.choose_lt hrow
      have hi' : ∀ (i : Nat) c, ((List.range fs.size).map g)[i]? = some c → i < fs.size ∧ c = g i := by
        intro i c hc
        obtain ⟨l1, l2⟩ := List.getElem?_eq_some_iff.1 hc
        simp at l1 l2
        exact ⟨l1, l2.symm⟩
      refine ⟨_, .struct (cs := (List.range fs.size).map g) ht (by simp [hxl]) (by simp) (fun i f d c h1 h2 h3 => ?_), ?_⟩
      · simp only [List.getElem?_map, Option.map_eq_some_iff] at h2
        obtain ⟨y, hy, rfl⟩ := h2
        obtain ⟨l1, rfl⟩ := hi' i c h3
        exact (hg i l1 f y h1 hy).1
      · have := fields_rel (P := P) (W := W) (cs := cs) fs.toList 0 (P.cellsOf t) ((List.range fs.size).map g) hp.1 hcl (by simp) (fun i f x h1 h2 => by
          obtain ⟨l1, rfl⟩ := hi' i x h2
          have h1' : fs[i]? = some f := by simpa using h1
          exact (hg i l1 f _ h1' (List.getElem?_eq_getElem (by omega))).2)
        simpa using this
    · cases hp
end
end Go.Tc
namespace Go.Tc
open Go.RowKit
set_option linter.unusedSimpArgs false
theorem Sh.sl {H : Type} {P : Program} {α : Type} {t e : TypeId} {m : Nat} {f : α → List AVal} {d : DataW H} {zs : List AVal} (h : Sh P t d zs) (ht : P.underlying t = some (.slice e)) (hm : P.cellsOf e = m)
    (hf : ∀ (d' : DataW H) r, Sh P e d' r → ∃ x, r = f x) : (d = .nil ∧ zs = [.nilS]) ∨ ∃ (elems spare : List (DataW H)) (l : List α), d = .slice elems spare ∧ zs = [.rs m (l.map f) 0 l.length false] ∧ l.length = elems.length := by
  cases h with
  | nilS _ => exact .inl ⟨rfl, rfl⟩
  | @slice _ e' elems spare rows ht' hl hr =>
    rw [ht] at ht'
    cases ht'
    right
    have : ∀ rows : List (List AVal), (∀ r ∈ rows, ∃ x, r = f x) → ∃ l : List α, rows = l.map f := by
      intro rows
      induction rows with
      | nil => intro _; exact ⟨[], rfl⟩
      | cons r rs ih =>
        intro h
        obtain ⟨x, hx⟩ := h r (by simp)
        obtain ⟨l, hl⟩ := ih fun r' h' => h r' (by simp [h'])
        exact ⟨x :: l, by rw [hx, hl]; rfl⟩
    obtain ⟨l, rfl⟩ := this rows fun r hrm => by
      obtain ⟨i, hi⟩ := List.getElem?_of_mem hrm
      have hlt := (List.getElem?_eq_some_iff.1 hi).1
      exact hf _ _ (hr i _ r (List.getElem?_eq_getElem (by omega)) hi)
    refine ⟨elems, spare, l, rfl, ?_, by simpa using hl⟩
    rw [hm, List.length_map]
  | bool h' => rw [ht] at h'; cases h'
  | int h' => rw [ht] at h'; cases h'
  | str h' => rw [ht] at h'; cases h'
  | struct h' => rw [ht] at h'; cases h'
theorem Sh.int' {H : Type} {P : Program} {t : TypeId} {k : IntKind} {d : DataW H} {zs : List AVal} (h : Sh P t d zs) (ht : P.underlying t = some (.int k)) : ∃ n, d = .lit (.int k n) ∧ zs = [.int k n] := by
  cases h with
  | int h' hw => rw [ht] at h'; cases h'; exact ⟨_, rfl, rfl⟩
  | bool h' => rw [ht] at h'; cases h'
  | nilS h' => rw [ht] at h'; cases h'
  | slice h' => rw [ht] at h'; cases h'
  | str h' => rw [ht] at h'; cases h'
  | struct h' => rw [ht] at h'; cases h'
theorem Sh.struct' {H : Type} {P : Program} {t : TypeId} {fs : Array Field} {d : DataW H} {zs : List AVal} (h : Sh P t d zs) (ht : P.underlying t = some (.struct fs)) :
    ∃ (parts : List (DataW H)) (cs : List (List AVal)), d = .agg parts ∧ zs = cs.flatten ∧ parts.length = fs.size ∧ cs.length = fs.size ∧ ∀ (i : Nat) f d c, fs[i]? = some f → parts[i]? = some d → cs[i]? = some c → Sh P f.type d c := by
  cases h with
  | struct h' hl hc hp => rw [ht] at h'; cases h'; exact ⟨_, _, rfl, rfl, hl, hc, hp⟩
  | int h' => rw [ht] at h'; cases h'
  | bool h' => rw [ht] at h'; cases h'
  | nilS h' => rw [ht] at h'; cases h'
  | slice h' => rw [ht] at h'; cases h'
  | str h' => rw [ht] at h'; cases h'
def ShL {H : Type} (P : Program) : List TypeId → List (DataW H) → List (List AVal) → Prop
  | [], [], [] => True
  | t :: ts, d :: ds, c :: cs => Sh P t d c ∧ ShL P ts ds cs
  | _, _, _ => False
theorem shL_of {H : Type} {P : Program} : ∀ (fs : List Field) (parts : List (DataW H)) (cs : List (List AVal)), parts.length = fs.length → cs.length = fs.length →
    (∀ (i : Nat) f d c, fs[i]? = some f → parts[i]? = some d → cs[i]? = some c → Sh P f.type d c) → ShL P (fs.map (·.type)) parts cs
  | [], [], [], _, _, _ => trivial
  | f :: fs, d :: ds, c :: cs, h1, h2, h => ⟨h 0 f d c rfl rfl rfl, shL_of fs ds cs (by simpa using h1) (by simpa using h2) fun i f' d' c' a b e => h (i + 1) f' d' c' (by simpa using a) (by simpa using b) (by simpa using e)⟩
  | [], _ :: _, _, h1, _, _ => by simp at h1
  | [], [], _ :: _, _, h2, _ => by simp at h2
  | _ :: _, [], _, h1, _, _ => by simp at h1
  | _ :: _, _ :: _, [], _, h2, _ => by simp at h2
theorem Sh.fields {H : Type} {P : Program} {t : TypeId} {fs : Array Field} {ts : List TypeId} {d : DataW H} {zs : List AVal} (h : Sh P t d zs) (ht : P.underlying t = some (.struct fs)) (hts : fs.toList.map (·.type) = ts) :
    ∃ (parts : List (DataW H)) (cs : List (List AVal)), d = .agg parts ∧ zs = cs.flatten ∧ ShL P ts parts cs := by
  obtain ⟨parts, cs, h1, h2, h3, h4, h5⟩ := h.struct' ht
  subst hts
  exact ⟨parts, cs, h1, h2, shL_of _ _ _ (by simpa using h3) (by simpa using h4) fun i f d c a b e => h5 i f d c (by simpa using a) b e⟩
theorem ShL.cons {H : Type} {P : Program} {t : TypeId} {ts : List TypeId} {ds : List (DataW H)} {cs : List (List AVal)} (h : ShL P (t :: ts) ds cs) : ∃ d ds' c cs', ds = d :: ds' ∧ cs = c :: cs' ∧ Sh P t d c ∧ ShL P ts ds' cs' := by
  cases ds <;> cases cs <;> simp only [ShL] at h
  exact ⟨_, _, _, _, rfl, rfl, h⟩
theorem ShL.nil {H : Type} {P : Program} {ds : List (DataW H)} {cs : List (List AVal)} (h : ShL P [] ds cs) : ds = [] ∧ cs = [] := by
  cases ds <;> cases cs <;> simp only [ShL] at h
  exact ⟨rfl, rfl⟩
end Go.Tc
namespace Go.Tc
set_option linter.unusedSimpArgs false
set_option linter.unusedVariables false
def nope : Nat → Prop := fun _ => False
def leavesOf (P : Program) : Nat → TypeId → Option (List Lf)
  | 0, _ => none
  | n + 1, t => match P.underlying t with
    | some .bool => some [.bool]
    | some (.int k) => some [.int k]
    | some .string => some [.str]
    | some (.slice e) => (leavesOf P n e).bind fun row => if row.length = P.cellsOf e then some [.sl row] else none
    | some (.struct fs) => fs.toList.foldr (fun f acc => (leavesOf P n f.type).bind fun a => acc.map (a ++ ·)) (some [])
    | _ => none
structure Bulk {H : Type} (b : DataW H → Nat) (ba : List (DataW H) → Nat) : Prop where
  pos : ∀ d, 1 ≤ b d
  sl : ∀ es sp, ba es ≤ b (.slice es sp) - 1
  ag : ∀ ps, ba ps ≤ b (.agg ps)
  nil : ba [] = 0
  cons : ∀ d l, ba (d :: l) = b d + ba l
theorem Bulk.get {H : Type} {b : DataW H → Nat} {ba : List (DataW H) → Nat} (hb : Bulk b ba) : ∀ (l : List (DataW H)) (dss : List (List Dl)), dss.length = l.length → (∀ (i : Nat) d ds, l[i]? = some d → dss[i]? = some ds → szDs ds ≤ b d) → szDss dss ≤ ba l
  | [], [], _, _ => by simp [szDss, hb.nil]
  | d :: l, ds :: dss, hl, h => by
    have h0 := h 0 d ds rfl rfl
    have := Bulk.get hb l dss (by simpa using hl) (fun i d ds h1 h2 => h (i + 1) d ds (by simpa using h1) (by simpa using h2))
    rw [hb.cons]; simp only [szDss]; omega
theorem szDs_flatten (l : List (List Dl)) : szDs l.flatten = szDss l := by
  induction l with
  | nil => rfl
  | cons x l ih => simp [List.flatten_cons, szDs_append, szDss, ih]
theorem leaves_struct {P : Program} {n : Nat} : ∀ (fs : List Field) (row : List Lf), fs.foldr (fun f acc => (leavesOf P n f.type).bind fun a => acc.map (a ++ ·)) (some []) = some row →
    ∃ rows : List (List Lf), rows.length = fs.length ∧ row = rows.flatten ∧ ∀ (i : Nat) f r, fs[i]? = some f → rows[i]? = some r → leavesOf P n f.type = some r
  | [], row, h => by simp at h; subst h; exact ⟨[], rfl, rfl, by simp⟩
  | f :: fs, row, h => by
    simp only [List.foldr_cons, Option.bind_eq_some_iff, Option.map_eq_some_iff] at h
    obtain ⟨a, ha, acc, hacc, rfl⟩ := h
    obtain ⟨rows, h1, rfl, h3⟩ := leaves_struct fs acc hacc
    refine ⟨a :: rows, by simp [h1], by simp, fun i f' r g1 g2 => ?_⟩
    cases i with
    | zero => simp at g1 g2; subst g1; subst g2; exact ha
    | succ i => exact h3 i f' r (by simpa using g1) (by simpa using g2)
theorem TrR.append {s : AHeap} {p : Nat → Prop} {ro : Bool} {r1 r2 : List Lf} {d1 d2 : List Dl} {c1 c2 : List AVal} (h : TrR s p ro r1 d1 c1) (k : TrR s p ro r2 d2 c2) : TrR s p ro (r1 ++ r2) (d1 ++ d2) (c1 ++ c2) := by
  have a1 := h.dl; have a2 := h.cl; have b1 := k.dl; have b2 := k.cl
  refine ⟨by simp [a1, b1], by simp [a2, b2], fun q f x v h1 h2 h3 => ?_⟩
  by_cases hq : q < r1.length
  · rw [List.getElem?_append_left hq] at h1
    rw [List.getElem?_append_left (by omega)] at h2
    rw [List.getElem?_append_left (by omega)] at h3
    exact h.el q f x v h1 h2 h3
  · rw [List.getElem?_append_right (by omega)] at h1
    rw [List.getElem?_append_right (by omega)] at h2
    rw [List.getElem?_append_right (by omega)] at h3
    rw [a1] at h2; rw [a2] at h3
    exact k.el _ f x v h1 h2 h3
theorem TrR.flatten {s : AHeap} {p : Nat → Prop} {ro : Bool} : ∀ (rows : List (List Lf)) (dss : List (List Dl)) (css : List (List AVal)), dss.length = rows.length → css.length = rows.length → (∀ (i : Nat) r d c, rows[i]? = some r → dss[i]? = some d → css[i]? = some c → TrR s p ro r d c) → TrR s p ro rows.flatten dss.flatten css.flatten
  | [], [], [], _, _, _ => .nil
  | r :: rows, d :: dss, c :: css, h1, h2, h => by
    rw [List.flatten_cons, List.flatten_cons, List.flatten_cons]
    exact (h 0 r d c rfl rfl rfl).append (TrR.flatten rows dss css (by simpa using h1) (by simpa using h2) fun i r d c g1 g2 g3 => h (i + 1) r d c (by simpa using g1) (by simpa using g2) (by simpa using g3))
theorem Sh.tr {H : Type} {b : DataW H → Nat} {ba : List (DataW H) → Nat} (hb : Bulk b ba) {P : Program} {t : TypeId} {d : DataW H} {zs : List AVal} (h : Sh P t d zs) : ∀ (n : Nat) (row : List Lf), leavesOf P n t = some row →
    ∃ ds, TrR nilHeap nope true row ds zs ∧ szDs ds ≤ b d ∧ ∀ a ∈ zs, Clo a := by
  have clo1 : ∀ {a : AVal}, Clo a → ∀ x ∈ [a], Clo x := fun h x hx => by rw [List.mem_singleton] at hx; subst hx; exact h
  induction h with
  | @bool t b0 ht =>
    intro n row hr
    cases n with
    | zero => cases hr
    | succ n =>
      simp only [leavesOf, ht, Option.some.injEq] at hr; subst hr
      exact ⟨[.bool _], .cons (.bool _) .nil, by have := hb.pos (.lit (.bool b0)); simp [szDs, szD]; omega, clo1 (.scal rfl)⟩
  | @int t k m ht hw =>
    intro n row hr
    cases n with
    | zero => cases hr
    | succ n =>
      simp only [leavesOf, ht, Option.some.injEq] at hr; subst hr
      exact ⟨[.int _], .cons (.int _ _ fun _ => hw) .nil, by have := hb.pos (.lit (.int k m)); simp [szDs, szD]; omega, clo1 (.scal rfl)⟩
  | @str t s ht hs =>
    intro n row hr
    cases n with
    | zero => cases hr
    | succ n =>
      simp only [leavesOf, ht, Option.some.injEq] at hr; subst hr
      exact ⟨[.str _], .cons (.str _) .nil, by have := hb.pos (.lit (.string s.data.toList)); simp [szDs, szD]; omega, clo1 (.scal rfl)⟩
  | @nilS t e ht =>
    intro n row hr
    cases n with
    | zero => cases hr
    | succ n =>
      simp only [leavesOf, ht, Option.bind_eq_some_iff] at hr
      obtain ⟨r, _, hr⟩ := hr
      split at hr <;> cases hr
      exact ⟨[.sl []], .cons (.nil _) .nil, by have := hb.pos (.nil : DataW H); simp [szDs, szD, szDss]; omega, clo1 (.scal rfl)⟩
  | @slice t e elems spare rows ht hl hrows ih =>
    intro n row hr
    cases n with
    | zero => cases hr
    | succ n =>
      simp only [leavesOf, ht, Option.bind_eq_some_iff] at hr
      obtain ⟨r, hre, hr⟩ := hr
      split at hr <;> cases hr
      rename_i hrl
      have hex : ∀ i, i < rows.length → ∃ ds : List Dl, ∀ d c, elems[i]? = some d → rows[i]? = some c → TrR nilHeap nope true r ds c ∧ szDs ds ≤ b d ∧ ∀ a ∈ c, Clo a := by
        intro i hi
        have he : elems[i]? = some (elems[i]'(by omega)) := List.getElem?_eq_getElem _
        have hc : rows[i]? = some (rows[i]'hi) := List.getElem?_eq_getElem _
        obtain ⟨ds, h1, h2, h3⟩ := ih i _ _ he hc n r hre
        refine ⟨ds, fun d c g1 g2 => ?_⟩
        rw [he] at g1; rw [hc] at g2; cases g1; cases g2
        exact ⟨h1, h2, h3⟩
      obtain ⟨g, hg⟩ := Go.Deep.choose_lt hex
      have hdl : ((List.range rows.length).map g).length = rows.length := by simp
      have hgi : ∀ (i : Nat) ds, ((List.range rows.length).map g)[i]? = some ds → i < rows.length ∧ ds = g i := by
        intro i c hc
        obtain ⟨l1, l2⟩ := List.getElem?_eq_some_iff.1 hc
        simp at l1 l2
        exact ⟨l1, l2.symm⟩
      have full : ∀ (i : Nat) (hi : i < rows.length), TrR nilHeap nope true r (g i) (rows[i]'hi) ∧ szDs (g i) ≤ b (elems[i]'(by omega)) ∧ ∀ a ∈ rows[i]'hi, Clo a := fun i hi =>
        hg i hi _ _ (List.getElem?_eq_getElem _) (List.getElem?_eq_getElem _)
      have hm : ∀ c ∈ rows, c.length = r.length := fun c hc => by
        obtain ⟨i, hi⟩ := List.getElem?_of_mem hc
        obtain ⟨l1, rfl⟩ := List.getElem?_eq_some_iff.1 hi
        exact (full i l1).1.cl
      refine ⟨[.sl ((List.range rows.length).map g)], .cons (.rs hrl.symm hdl.symm rfl (by rw [hdl]; omega) (fun j d hd => ?_) hm (fun j q d c f x v h1 h2 h3 h4 h5 => ?_)) .nil, ?_, clo1 (.rs fun c hc v hv => ?_)⟩
      · obtain ⟨hj, rfl⟩ := hgi j d hd
        exact (full j hj).1.dl
      · obtain ⟨hj, rfl⟩ := hgi j d h1
        rw [Nat.zero_add] at h2
        obtain ⟨l1, rfl⟩ := List.getElem?_eq_some_iff.1 h2
        exact (full j hj).1.el q f x v h3 h4 h5
      · have := hb.get elems ((List.range rows.length).map g) (by rw [hdl, hl]) (fun i d ds g1 g2 => by
          obtain ⟨hj, rfl⟩ := hgi i ds g2
          obtain ⟨l1, rfl⟩ := List.getElem?_eq_some_iff.1 g1
          exact (full i hj).2.1)
        have h2 := hb.sl elems spare
        have h3 := hb.pos (.slice elems spare)
        simp only [szDs, szD]
        omega
      · obtain ⟨i, hi⟩ := List.getElem?_of_mem hc
        obtain ⟨l1, rfl⟩ := List.getElem?_eq_some_iff.1 hi
        obtain ⟨t1, _, t3⟩ := full i l1
        exact ⟨t3 v hv, t1.one v hv⟩
  | @struct t fs parts cs ht hl hc hp ih =>
    intro n row hr
    cases n with
    | zero => cases hr
    | succ n =>
      simp only [leavesOf, ht] at hr
      obtain ⟨rows, hrl, rfl, hrr⟩ := leaves_struct fs.toList row hr
      have hsz : fs.toList.length = fs.size := Array.length_toList
      have hex : ∀ i, i < fs.size → ∃ ds : List Dl, ∀ f r d c, fs[i]? = some f → rows[i]? = some r → parts[i]? = some d → cs[i]? = some c → TrR nilHeap nope true r ds c ∧ szDs ds ≤ b d ∧ ∀ a ∈ c, Clo a := by
        intro i hi
        have hf : fs[i]? = some fs[i] := Array.getElem?_eq_getElem hi
        have hr' : rows[i]? = some (rows[i]'(by omega)) := List.getElem?_eq_getElem _
        have hd : parts[i]? = some (parts[i]'(by omega)) := List.getElem?_eq_getElem _
        have hc' : cs[i]? = some (cs[i]'(by omega)) := List.getElem?_eq_getElem _
        obtain ⟨ds, h1, h2, h3⟩ := ih i _ _ _ hf hd hc' n _ (hrr i _ _ (by simpa using hf) hr')
        refine ⟨ds, fun f r d c g1 g2 g3 g4 => ?_⟩
        rw [hf] at g1; rw [hr'] at g2; rw [hd] at g3; rw [hc'] at g4
        cases g1; cases g2; cases g3; cases g4
        exact ⟨h1, h2, h3⟩
      obtain ⟨g, hg⟩ := Go.Deep.choose_lt hex
      have hdl : ((List.range fs.size).map g).length = fs.size := by simp
      have hgi : ∀ (i : Nat) ds, ((List.range fs.size).map g)[i]? = some ds → i < fs.size ∧ ds = g i := by
        intro i c hc
        obtain ⟨l1, l2⟩ := List.getElem?_eq_some_iff.1 hc
        simp at l1 l2
        exact ⟨l1, l2.symm⟩
      have full : ∀ (i : Nat) (hi : i < fs.size), TrR nilHeap nope true (rows[i]'(by omega)) (g i) (cs[i]'(by omega)) ∧ szDs (g i) ≤ b (parts[i]'(by omega)) ∧ ∀ a ∈ cs[i]'(by omega), Clo a := fun i hi =>
        hg i hi (fs[i]'hi) _ _ _ (Array.getElem?_eq_getElem hi) (List.getElem?_eq_getElem _) (List.getElem?_eq_getElem _) (List.getElem?_eq_getElem _)
      refine ⟨((List.range fs.size).map g).flatten, TrR.flatten rows _ cs (by rw [hdl]; omega) (by omega) fun i r d c g1 g2 g3 => ?_, ?_, fun a ha => ?_⟩
      · obtain ⟨hi, rfl⟩ := hgi i d g2
        obtain ⟨l1, rfl⟩ := List.getElem?_eq_some_iff.1 g1
        obtain ⟨l3, rfl⟩ := List.getElem?_eq_some_iff.1 g3
        exact (full i hi).1
      · rw [szDs_flatten]
        refine Nat.le_trans (hb.get parts _ (by rw [hdl, hl]) fun i d ds g1 g2 => ?_) (hb.ag parts)
        obtain ⟨hi, rfl⟩ := hgi i ds g2
        obtain ⟨l1, rfl⟩ := List.getElem?_eq_some_iff.1 g1
        exact (full i hi).2.1
      · obtain ⟨c, hc1, hc2⟩ := List.mem_flatten.1 ha
        obtain ⟨i, hi⟩ := List.getElem?_of_mem hc1
        obtain ⟨l1, rfl⟩ := List.getElem?_eq_some_iff.1 hi
        exact (full i (by omega)).2.2 a hc2
section
variable {s : AHeap} {p : Nat → Prop} {ro : Bool}
theorem TrR.uncons {f : Lf} {row : List Lf} {ds : List Dl} {cs : List AVal} (h : TrR s p ro (f :: row) ds cs) : ∃ d ds' v cs', ds = d :: ds' ∧ cs = v :: cs' ∧ Tr s p ro f d v ∧ TrR s p ro row ds' cs' := by
  have h1 := h.dl
  have h2 := h.cl
  match ds, cs, h1, h2 with
  | d :: ds, v :: cs, h1, h2 => exact ⟨d, ds, v, cs, rfl, rfl, h.el 0 _ _ _ rfl rfl rfl, ⟨by simpa using h1, by simpa using h2, fun q f x v g1 g2 g3 => h.el (q + 1) f x v (by simpa using g1) (by simpa using g2) (by simpa using g3)⟩⟩
theorem TrR.unnil {ds : List Dl} {cs : List AVal} (h : TrR s p ro [] ds cs) : ds = [] ∧ cs = [] := ⟨List.length_eq_zero_iff.1 h.dl, List.length_eq_zero_iff.1 h.cl⟩
theorem Tr.int' {k : IntKind} {d : Dl} {v : AVal} (h : Tr s p ro (.int k) d v) : ∃ n, v = .int k n := by cases h; exact ⟨_, rfl⟩
theorem Tr.intW {k : IntKind} {d : Dl} {v : AVal} (h : Tr s p true (.int k) d v) : ∃ n, v = .int k n ∧ (Lit.int k n).wf = true := by cases h with | int _ n hw => exact ⟨n, rfl, hw rfl⟩
theorem Tr.bool' {d : Dl} {v : AVal} (h : Tr s p ro .bool d v) : ∃ b, v = .bool b := by cases h; exact ⟨_, rfl⟩
theorem Tr.str' {d : Dl} {v : AVal} (h : Tr s p ro .str d v) : ∃ x, v = .str x := by cases h; exact ⟨_, rfl⟩
end
structure Rs {α : Type} [Inhabited α] (m : Nat) (f : α → List AVal) (v : AVal) (l : List α) : Prop where
  rv : RV m f v l
  off : ∀ M, Off v M
theorem Tr.rs' {α : Type} [Inhabited α] {row : List Lf} {f : α → List AVal} {R : α → Prop} (hrow : ∀ d r, TrR nilHeap nope true row d r → ∃ x, r = f x ∧ R x) {d : Dl} {v : AVal} (h : Tr nilHeap nope true (.sl row) d v) :
    ∃ l : List α, RV row.length f v l ∧ (∀ M, Off v M) ∧ (∀ x ∈ l, R x) ∧ ∃ rows, d = .sl rows ∧ l.length = rows.length := by
  cases h with
  | nil => exact ⟨[], .nil, (fun _ _ _ _ _ h => by cases h), by simp, [], rfl, rfl⟩
  | ms _ _ hp => exact hp.elim
  | @rs row ds i len ex rows m hm0 hlen hro hl hn hm hh =>
    subst hm0; subst hlen
    have hex : ∀ j, j < ds.length → ∃ x : α, rows[i + j]? = some (f x) ∧ R x := by
      intro j hj
      have h1 : rows[i + j]? = some (rows[i + j]'(by omega)) := List.getElem?_eq_getElem _
      have h2 : ds[j]? = some (ds[j]'hj) := List.getElem?_eq_getElem _
      obtain ⟨x, hx, hR⟩ := hrow _ _ ⟨hn j _ h2, hm _ (List.getElem_mem _), fun q f x v g1 g2 g3 => hh j q _ _ f x v h2 h1 g1 g2 g3⟩
      exact ⟨x, by rw [h1, hx], hR⟩
    obtain ⟨g, hg⟩ := Go.Deep.choose_lt hex
    refine ⟨(List.range ds.length).map g, fun s => ?_, (fun _ _ _ _ _ h => by cases h), fun x hx => ?_, ds, rfl, by simp⟩
    · have := TV.rs (σ := s) (m := row.length) (f := id) (ex := ex) hl rfl
      rw [List.map_id] at this
      refine this.map (by simp; omega) fun n hn => ?_
      have hn' : n < ds.length := by simp at hn; omega
      have e1 : ((List.range ds.length).map g).getD n default = g n := by
        rw [List.getD_eq_getElem?_getD, List.getElem?_map, List.getElem?_range hn']; rfl
      have e2 : ((rows.drop i).take ds.length).getD n default = f (g n) := by
        rw [List.getD_eq_getElem?_getD, List.getElem?_take, if_pos hn', List.getElem?_drop, (hg n hn').1]; rfl
      rw [e1, e2]; rfl
    · obtain ⟨j, hj, rfl⟩ := List.mem_map.1 hx
      exact (hg j (by simpa using hj)).2
theorem PutSpec.weak {P : Program} {W W' : Nat → AHeap → AVal → AVal → Prop} {put x : AVal} {A : List Int} {B : List ByteArray} (h : PutSpec P W put x A B) (hw : ∀ H s nv sv, W' H s nv sv → W H s nv sv) : PutSpec P W' put x A B :=
  fun s H b nv sv ns ss w => h s H b nv sv ns ss (hw _ _ _ _ w)
theorem PutsAll.weak {P : Program} {W W' : Nat → AHeap → AVal → AVal → Prop} (hw : ∀ H s nv sv, W' H s nv sv → W H s nv sv) {row : List AVal} {r : List (Nat × Bool × Nat × FuncId)} {A : List Int} {B : List ByteArray} (h : PutsAll P W row r A B) : PutsAll P W' row r A B := by
  induction h with
  | nil => exact .nil
  | cons h hp _ ih => exact .cons h (hp.weak hw) ih
theorem PutsT.args {P : Program} {row : List Lf} {r : List (Nat × Bool × Nat × FuncId)} (h : PutsT P 0 row r) {ds : List Dl} {cs : List AVal} (htr : TrR nilHeap nope true row ds cs) (hz : szDs ds ≤ 1048576) : PB P WTrue cs r 1048576 1048576 := by
  obtain ⟨A, B, a, b, q⟩ := h.spec ds htr.dl (by omega)
  refine ⟨A, B, by omega, by omega, ?_⟩
  have := q nilHeap nope true cs [] rfl htr
  exact this.weak fun H s nv sv _ => ⟨Nat.zero_le _, fun N hp => hp.elim⟩
end Go.Tc
namespace Go.Tc
set_option linter.unusedSimpArgs false
set_option linter.unusedVariables false
theorem ResT.dcons {s : AHeap} {p : Nat → Prop} {t : Bool × List Lf} {ts : List (Bool × List Lf)} {ds : List (List Dl)} {vs : List AVal} (h : ResT s p (t :: ts) ds vs) :
    ∃ d ds' v vs', ds = d :: ds' ∧ vs = v :: vs' ∧ (∃ cs, v = valOf t.1 cs ∧ (t.1 = false → cs.length = 1) ∧ TrR s p false t.2 d cs) ∧ ResT s p ts ds' vs' := by
  match ds, vs, h with
  | d :: ds, v :: vs, h => exact ⟨d, ds, v, vs, rfl, rfl, h.1, h.2⟩
theorem ResT.dnil {s : AHeap} {p : Nat → Prop} {ds : List (List Dl)} {vs : List AVal} (h : ResT s p [] ds vs) : ds = [] ∧ vs = [] := by
  match ds, vs, h with
  | [], [], _ => exact ⟨rfl, rfl⟩
theorem c_nil : ∀ a ∈ ([] : List AVal), Clo a := fun a h => by simp at h
theorem c_cons {a : AVal} {l : List AVal} (h : Clo a) (hl : ∀ b ∈ l, Clo b) : ∀ b ∈ a :: l, Clo b := fun b hb => by
  rcases List.mem_cons.1 hb with rfl | hb
  · exact h
  · exact hl b hb
theorem Clo.part {row : List AVal} (h : ∀ a ∈ row, Clo a) {agg : Bool} {n off : Nat} {v : AVal} (hp : partA agg n off row = some v) : Clo v := by
  simp only [partA] at hp
  cases agg with
  | true =>
    simp only [if_true] at hp
    split at hp
    · cases hp
      exact .agg fun a ha => h a (List.mem_of_mem_drop (List.mem_of_mem_take ha))
    · cases hp
  | false =>
    have : ∃ k : Nat, row[k]? = some v := by
      simp only [Bool.false_eq_true, if_false] at hp
      first
        | exact ⟨off, hp⟩
        | (split at hp
           · exact ⟨_, hp⟩
           · cases hp)
    obtain ⟨k, hk⟩ := this
    exact h v (List.mem_of_getElem? hk)
theorem off_nil {M : Nat} : Off .nilS M := fun _ _ _ _ h => by cases h
theorem valOf_t {cs : List AVal} : valOf true cs = .agg cs := id rfl
theorem valOf_f {c : AVal} : valOf false [c] = c := id rfl
def SmallD (ds : List (List Dl)) : Prop := ∀ d ∈ ds, szDs d ≤ 137438953472
structure BoxOk (s : AHeap) (p : Nat → Prop) (N : Nat) (row : List Lf) : Prop where
  own : p N
  lt : N < s.next
  sh : ∃ m rows c, s.objs N = some (.cells m rows) ∧ (∀ r ∈ rows, r.length = m) ∧ rows[0]? = some c ∧ row.length = m ∧ SpR s p row c
theorem BoxOk.mk1 {s : AHeap} {p : Nat → Prop} {N m : Nat} {row : List Lf} {c : List AVal} (hp : p N) (hl : N < s.next) (ho : s.objs N = some (.cells m [c])) (hm : row.length = m) (h : SpR s p row c) : BoxOk s p N row :=
  ⟨hp, hl, m, [c], c, ho, fun r hr => by rw [List.mem_singleton] at hr; subst hr; rw [h.1, hm], rfl, hm, h⟩
theorem BoxOk.kin {s s' : AHeap} {p p' : Nat → Prop} {N : Nat} {row : List Lf} (h : BoxOk s p N row) (hk : Kin p' s s') : BoxOk s' p N row := by
  obtain ⟨h1, h2, m, rows, c, ho, hm, hc, hl, hs⟩ := h
  refine ⟨h1, Nat.lt_of_lt_of_le h2 hk.nx, ?_⟩
  obtain ⟨rows', ho', hr⟩ : ∃ rows', s'.objs N = some (.cells m rows') ∧ KinR rows rows' := by
    rcases hk.ob N h2 with h1 | ⟨m', r1, r2, g1, g2, g3⟩
    · exact ⟨rows, h1.trans ho, .refl _⟩
    · rw [ho] at g1; cases g1; exact ⟨r2, g2, g3⟩
  have h0 := (List.getElem?_eq_some_iff.1 hc).1
  have hc' : rows'[0]? = some (rows'[0]'(by rw [hr.1]; exact h0)) := List.getElem?_eq_getElem _
  obtain ⟨e1, e2⟩ := hr.2 0 c _ hc hc'
  refine ⟨m, rows', _, ho', fun r' hr' => ?_, hc', hl, hs.kin hk e1 e2⟩
  obtain ⟨j, hj⟩ := List.getElem?_of_mem hr'
  have hjl := (List.getElem?_eq_some_iff.1 hj).1
  have hjr : rows[j]? = some (rows[j]'(by rw [← hr.1]; exact hjl)) := List.getElem?_eq_getElem _
  rw [(hr.2 j _ r' hjr hj).1]
  exact hm _ (List.getElem_mem _)
theorem WipeT.box {P : Program} {f : FuncId} {row : List Lf} (h : WipeT P f row) {s : AHeap} {p : Nat → Prop} {N : Nat} (hb : BoxOk s p N row) : RunV P (.func (.func f) [] []) [.ptr N 0 0] s (fun o s' => (∃ v, o = .ret v) ∧ Kin p s s') := by
  obtain ⟨h1, h2, m, rows, c, ho, hm, hc, hl, hs⟩ := hb
  refine h s p N 0 0 m rows c h1 h2 ho hm hc (by omega) ?_
  rw [List.drop_zero, List.take_of_length_le (by rw [hs.1]; exact Nat.le_refl _)]
  exact hs
def btw (a b : Nat) : Nat → Prop := fun N => a ≤ N ∧ N < b
theorem Kin.done {a b : Nat} {s s' : AHeap} (h : Kin (btw a b) s s') : s.next ≤ s'.next ∧ ∀ M, M < s.next → (M < a ∨ b ≤ M) → s'.objs M = s.objs M :=
  ⟨h.nx, fun M hM hc => h.ot M hM fun ⟨h1, h2⟩ => by omega⟩
theorem TrR.box {s s' : AHeap} {a b : Nat} {row : List Lf} {ds : List Dl} {cs : List AVal} (h : TrR s (fun N => a ≤ N) false row ds cs) (hb : s.next ≤ b) (hn : s.next ≤ s'.next) (hk : ∀ N, a ≤ N → N < s.next → s'.objs N = s.objs N) : SpR s' (btw a b) row cs :=
  (h.keep (p' := btw a b) hn fun N h1 h2 => ⟨hk N h1 h2, h1, by omega⟩).sp
end Go.Tc
namespace Go.Tc
theorem szDs_get {ds : List Dl} : ∀ (i : Nat) {d : Dl}, ds[i]? = some d → szD d ≤ szDs ds := by
  induction ds with
  | nil => intro i d h; simp at h
  | cons x ds ih =>
    intro i d h
    cases i with
    | zero => simp at h; subst h; simp [szDs]
    | succ i => have := ih i (by simpa using h); simp [szDs]; omega
def reps (n : Nat) (v : AVal) : List AVal := List.replicate n v
theorem reps_len {n : Nat} {v : AVal} : (reps n v).length = n := by simp [reps]
theorem reps_eq {α : Type} {n : Nat} {f : α → AVal} {x : α} : reps n (f x) = (List.replicate n x).map f := by simp [reps]
end Go.Tc
