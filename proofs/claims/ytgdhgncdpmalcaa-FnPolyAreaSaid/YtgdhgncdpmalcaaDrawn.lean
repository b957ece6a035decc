/- A region that draws its order, within a round: what holds whatever the order is. -/
import Derived.Test.YtgdhgncdpmalcaaRingRange
namespace Go.Proofs.Ytgdhgncdpmalcaa.Drawn
open Go Go.RowKit
set_option linter.unusedVariables false
set_option linter.unusedSimpArgs false

theorem put_comm {a : Act} {d d' : Option Tmp} {v v' : Value} (h : ∀ t, d = some t → d' ≠ some t) : (a.put d v).put d' v' = (a.put d' v').put d v := by
  cases d with
  | none => rfl
  | some t =>
    cases d' with
    | none => rfl
    | some t' =>
      have ht : t ≠ t' := fun e => h t rfl (by rw [e])
      simp only [Act.put]
      rw [Array.setIfInBounds_comm v v' ht]

/-- The frame behind the operations that are listed. -/
def fill : List (Option Tmp × Value) → List Bool → Act → Act
  | (d, v) :: r, b :: bs, a => fill r bs (if b then a.put d v else a)
  | _, _, a => a

theorem fill_put {d : Option Tmp} {v : Value} : ∀ (vs : List (Option Tmp × Value)) (L : List Bool) (a : Act), (∀ t, d = some t → t ∉ vs.filterMap (·.1)) → fill vs L (a.put d v) = (fill vs L a).put d v
  | [], L, a, _ => by cases L <;> rfl
  | (d', v') :: r, [], a, _ => rfl
  | (d', v') :: r, b :: bs, a, h => by
    simp only [fill]
    have h2 : ∀ t, d = some t → t ∉ r.filterMap (·.1) := fun t e hm => h t e (by cases d' <;> simp_all)
    cases b with
    | false => exact fill_put r bs a h2
    | true =>
      simp only [if_true]
      rw [put_comm (fun t e => by rintro rfl; exact h t e (by simp)), fill_put r bs _ h2]

theorem fill_set : ∀ (vs : List (Option Tmp × Value)) (L : List Bool) (a : Act) (i : Nat) (d : Option Tmp) (v : Value), (vs.filterMap (·.1)).Nodup → vs[i]? = some (d, v) → L[i]? = some false →
    fill vs (L.set i true) a = (fill vs L a).put d v
  | [], _, _, i, _, _, _, h, _ => by simp at h
  | _ :: _, [], _, i, _, _, _, _, h => by simp at h
  | (d', v') :: r, b :: bs, a, 0, d, v, hn, hv, hl => by
    simp only [List.getElem?_cons_zero, Option.some.injEq, Prod.mk.injEq] at hv hl
    obtain ⟨rfl, rfl⟩ := hv
    subst hl
    simp only [List.set_cons_zero, fill, if_true]
    refine fill_put r bs a (fun t e hm => ?_)
    subst e
    simp at hn hm
    obtain ⟨x, hx⟩ := hm
    exact hn.1 x hx
  | (d', v') :: r, b :: bs, a, i + 1, d, v, hn, hv, hl => by
    simp only [List.getElem?_cons_succ] at hv hl
    simp only [List.set_cons_succ, fill]
    exact fill_set r bs _ i d v (by cases d' <;> simp_all) hv hl

theorem eval_put_other {a : Act} {d : Option Tmp} {v : Value} {t : Tmp} (h : d ≠ some t) : (a.put d v).eval (.tmp t) = a.eval (.tmp t) := by
  cases d with
  | none => rfl
  | some t' =>
    have ht : t' ≠ t := fun e => h (by rw [e])
    simp only [Act.put, Act.eval]
    simp [Array.getD_eq_getD_getElem?, Array.getElem?_setIfInBounds_ne ht]
theorem fill_base {t : Tmp} : ∀ (vs : List (Option Tmp × Value)) (L : List Bool) (a : Act), t ∉ vs.filterMap (·.1) → (fill vs L a).eval (.tmp t) = a.eval (.tmp t)
  | [], L, a, _ => by cases L <;> rfl
  | (d', v') :: r, [], a, _ => rfl
  | (d', v') :: r, b :: bs, a, h => by
    simp only [fill]
    rw [fill_base r bs _ (fun hm => h (by cases d' <;> simp_all))]
    cases b with
    | false => rfl
    | true => exact eval_put_other (by rintro rfl; exact h (by simp))
theorem fill_size : ∀ (vs : List (Option Tmp × Value)) (L : List Bool) (a : Act), (fill vs L a).tmps.size = a.tmps.size
  | [], L, a => by cases L <;> rfl
  | (d', v') :: r, [], a => rfl
  | (d', v') :: r, b :: bs, a => by
    simp only [fill]
    rw [fill_size r bs]
    cases b <;> cases d' <;> simp [Act.put]
theorem fill_eval {vs : List (Option Tmp × Value)} {L : List Bool} {a : Act} {j : Nat} {t : Tmp} {v : Value} (hn : (vs.filterMap (·.1)).Nodup) (hv : vs[j]? = some (some t, v)) (hl : L[j]? = some true) (ht : t < a.tmps.size) :
    (fill vs L a).eval (.tmp t) = v := by
  have hj : j < L.length := (List.getElem?_eq_some_iff.1 hl).1
  have e : (L.set j false).set j true = L := by
    rw [List.set_set]
    apply List.ext_getElem? fun k => ?_
    by_cases c : j = k
    · subst c; rw [List.getElem?_set_self hj, hl]
    · rw [List.getElem?_set_ne c]
  have := fill_set vs (L.set j false) a j (some t) v hn hv (by rw [List.getElem?_set_self hj])
  rw [e] at this
  rw [this]
  simp only [Act.put, Act.eval]
  simp [Array.getD_eq_getD_getElem?, fill_size, ht]

theorem eval_tmp (a : Act) (t : Tmp) : a.eval (.tmp t) = a.tmps[t]?.getD undef := by simp [Act.eval]
theorem fill_at {vs : List (Option Tmp × Value)} {L : List Bool} {a : Act} {j : Nat} {t : Tmp} {v : Value} (hn : (vs.filterMap (·.1)).Nodup) (hv : vs[j]? = some (some t, v)) (hl : L[j]? = some true) (ht : t < a.tmps.size) :
    (fill vs L a).tmps[t]?.getD undef = v := by rw [← eval_tmp]; exact fill_eval hn hv hl ht
theorem fill_old {t : Tmp} {v : Value} (vs : List (Option Tmp × Value)) (L : List Bool) (a : Act) (h : t ∉ vs.filterMap (·.1)) (hv : a.tmps[t]?.getD undef = v) : (fill vs L a).tmps[t]?.getD undef = v := by
  rw [← eval_tmp, fill_base vs L a h, eval_tmp]; exact hv

/-- The law: each operation, once those that it must wait for are done, yields its value and keeps what is said of the world. -/
theorem drawn_region {F : Fence} {n : Nat} {P : Program} {id : Nat} {ops : Array Oper} {Q : Exit → Act → World → Prop} {a0 : Act} {w0 : World} (hm : P.follows .mixedOrders = true)
    (hac : ∀ i o, ops[i]? = some o → ∀ e ∈ o.after, Region.binds .any e = true → e.on < i)
    (vs : List (Option Tmp × Value)) (hd : vs.map (·.1) = ops.toList.map (·.dst)) (hn : (vs.filterMap (·.1)).Nodup)
    (S : List Bool → World → Prop) (h0 : S (List.replicate ops.size false) w0.drew)
    (hstep : ∀ (i : Nat) (o : Oper) (v : Value) (L : List Bool) (w : World), ops[i]? = some o → vs[i]? = some (o.dst, v) → L.length = ops.size → L[i]? = some false → (∀ e ∈ o.after, Region.binds .any e = true → L[e.on]? = some true) →
      (∀ (j : Nat) (o' : Oper), ops[j]? = some o' → L[j]? = some true → ∀ e ∈ o'.after, Region.binds .any e = true → L[e.on]? = some true) → S L w →
      ∀ K : Act → World → Prop, (∀ w', S (L.set i true) w' → K ((fill vs L a0).put o.dst v) w') → wpOpIn F n P ops Q i K (fill vs L a0) w)
    (hend : ∀ w, S (List.replicate ops.size true) w → Q .normal (fill vs (List.replicate ops.size true) a0) w) :
    (Code.region id ops true).wpIn F n P Q a0 w0 := by
  refine wpIn_region_any hm ?_
  have hlen : vs.length = ops.size := by have := congrArg List.length hd; simpa using this
  have rdy : ∀ (L : List Bool) (i : Nat), i ∈ Region.ready .any ops L.toArray ↔ ∃ o, ops[i]? = some o ∧ L.getD i true = false ∧ (∀ e ∈ o.after, Region.binds .any e = true → L.getD e.on false = true) := by
    intro L i
    unfold Region.ready
    simp only [List.mem_filter, List.mem_range, Bool.and_eq_true, Array.getD_eq_getD_getElem?, List.getElem?_toArray, ← List.getD_eq_getElem?_getD]
    constructor
    · rintro ⟨hi, h1, h2⟩
      rw [Array.getElem?_eq_getElem hi] at h2 ⊢
      refine ⟨_, rfl, by simpa using h1, fun e he hb => ?_⟩
      simp only [Option.map_some, Option.getD_some] at h2
      have := Array.all_eq_true_iff_forall_mem.1 h2 e he
      simpa [hb] using this
    · rintro ⟨o, ho, h1, h2⟩
      refine ⟨(Array.getElem?_eq_some_iff.1 ho).1, by rw [h1]; rfl, ?_⟩
      rw [ho]
      simp only [Option.map_some, Option.getD_some]
      refine Array.all_eq_true_iff_forall_mem.2 fun e he => ?_
      cases hb : Region.binds .any e with
      | false => simp
      | true => have := h2 e he hb; rw [this]; rfl
  have full : ∀ (L : List Bool), L.length = ops.size → Region.ready .any ops L.toArray = [] → L = List.replicate ops.size true := by
    intro L hl hr
    refine List.eq_replicate_iff.2 ⟨hl, fun b hb => ?_⟩
    have all : ∀ i, i < ops.size → L.getD i false = true := by
      intro i
      induction i using Nat.strongRecOn with
      | _ i ih =>
        intro hi
        apply Classical.byContradiction
        intro hf
        have hi' : i < L.length := by omega
        have : i ∈ Region.ready .any ops L.toArray := (rdy L i).2 ⟨_, Array.getElem?_eq_getElem hi, by simp [List.getD_eq_getElem?_getD, hi'] at hf ⊢; exact hf, fun e he hb' => ih _ (hac i _ (Array.getElem?_eq_getElem hi) e he hb') (by have := hac i _ (Array.getElem?_eq_getElem hi) e he hb'; omega)⟩
        rw [hr] at this
        cases this
    obtain ⟨i, hi, rfl⟩ := List.getElem_of_mem hb
    have := all i (by omega)
    simpa [List.getD_eq_getElem?_getD, hi] using this
  have main : ∀ (fuel : Nat) (L : List Bool) (w : World), L.length = ops.size → L.countP (fun b => !b) ≤ fuel → (∀ (j : Nat) (o' : Oper), ops[j]? = some o' → L[j]? = some true → ∀ e ∈ o'.after, Region.binds .any e = true → L[e.on]? = some true) → S L w → wpAnyIn F n P .any ops Q fuel L.toArray (fill vs L a0) w := by
    intro fuel
    induction fuel with
    | zero =>
      intro L w hl hc hcl hS
      have e : Region.ready .any ops L.toArray = [] := by
        rw [List.eq_nil_iff_forall_not_mem]
        intro i hi
        obtain ⟨o, ho, h1, _⟩ := (rdy L i).1 hi
        have hi' : i < L.length := by rw [hl]; exact (Array.getElem?_eq_some_iff.1 ho).1
        have h3 := List.countP_eq_zero.1 (Nat.le_zero.1 hc) L[i] (List.getElem_mem hi')
        simp [List.getD_eq_getElem?_getD, hi'] at h1
        simp [h1] at h3
      refine ⟨e, ?_⟩
      have := full L hl e
      subst this
      exact hend w hS
    | succ fuel ih =>
      intro L w hl hc hcl hS
      refine ⟨fun e => ?_, fun i hi => ?_⟩
      · have := full L hl e
        subst this
        exact hend w hS
      · obtain ⟨o, ho, h1, h2⟩ := (rdy L i).1 hi
        have hi' : i < L.length := by rw [hl]; exact (Array.getElem?_eq_some_iff.1 ho).1
        have hli : L[i]? = some false := by simp [List.getD_eq_getElem?_getD, hi'] at h1; rw [List.getElem?_eq_getElem hi', h1]
        have hiv : i < vs.length := by omega
        obtain ⟨v, hv⟩ : ∃ v, vs[i]? = some (o.dst, v) := by
          have := congrArg (fun l => l[i]?) hd
          simp only [List.getElem?_map, List.getElem?_eq_getElem hiv, Array.getElem?_toList, ho, Option.map_some, Option.some.injEq] at this
          exact ⟨vs[i].2, by rw [List.getElem?_eq_getElem hiv, ← this]⟩
        have h2' : ∀ e ∈ o.after, Region.binds .any e = true → L[e.on]? = some true := fun e he hb => by
          have := h2 e he hb
          rw [List.getD_eq_getElem?_getD] at this
          cases hq : L[e.on]? with
          | none => rw [hq] at this; cases this
          | some b => rw [hq] at this; exact congrArg some this
        refine hstep i o v L w ho hv hl hli h2' hcl hS _ (fun w' hS' => ?_)
        · rw [← fill_set vs L a0 i o.dst v hn hv hli, List.setIfInBounds_toArray]
          refine ih (L.set i true) w' (by simpa using hl) ?_ (fun j o' ho' hj e he hb => ?_) hS'
          rotate_left
          · by_cases c : i = j
            · subst c
              obtain rfl : o = o' := by rw [ho] at ho'; exact Option.some.inj ho'
              have := h2' e he hb
              by_cases c2 : i = e.on
              · rw [← c2, List.getElem?_set_self hi']
              · rw [List.getElem?_set_ne c2]; exact this
            · rw [List.getElem?_set_ne c] at hj
              by_cases c2 : i = e.on
              · rw [← c2, List.getElem?_set_self hi']
              · rw [List.getElem?_set_ne c2]; exact hcl j o' ho' hj e he hb
          have hc2 : (L.set i true).countP (fun b => !b) + 1 = L.countP (fun b => !b) := by
            rw [List.countP_set hi']
            have hb : L[i] = false := by rw [List.getElem?_eq_getElem hi'] at hli; simpa using hli
            have hp : 0 < L.countP (fun b => !b) := List.countP_pos_iff.2 ⟨L[i], List.getElem_mem hi', by simp [hb]⟩
            simp [hb]; omega
          omega
  have := main ops.size (List.replicate ops.size false) w0.drew (by simp) (by rw [List.countP_replicate]; simp) (fun j o' _ hj => by rw [List.getElem?_replicate] at hj; split at hj <;> simp at hj) h0
  rw [List.toArray_replicate] at this
  have e0 : fill vs (List.replicate ops.size false) a0 = a0 := by
    have : ∀ (vs : List (Option Tmp × Value)) (k : Nat) (a : Act), fill vs (List.replicate k false) a = a := by
      intro vs
      induction vs with
      | nil => intro k a; cases k <;> rfl
      | cons x r ih => intro k a; cases k with
        | zero => rfl
        | succ k => obtain ⟨d, v⟩ := x; simp only [List.replicate_succ, fill]; exact ih k a
    exact this _ _ _
  rw [e0] at this
  exact this
theorem fill_skip : ∀ (vs : List (Option Tmp × Value)) (L : List Bool) (a : Act) (i : Nat) (x : Option Tmp × Value), L[i]? = some false → fill (vs.set i x) L a = fill vs L a
  | [], L, _, _, _, _ => by cases L <;> rfl
  | _ :: _, [], _, i, _, h => by simp at h
  | (d', v') :: r, b :: bs, a, 0, (d, v), h => by
    simp only [List.getElem?_cons_zero, Option.some.injEq] at h
    subst h
    rfl
  | (d', v') :: r, b :: bs, a, i + 1, x, h => by
    simp only [List.getElem?_cons_succ] at h
    simp only [List.set_cons_succ, fill]
    exact fill_skip r bs _ i x h

/-- The law where the values (addresses of new blocks) are known only as the operations are done. -/
theorem drawn_any {F : Fence} {n : Nat} {P : Program} {id : Nat} {ops : Array Oper} {Q : Exit → Act → World → Prop} {a0 : Act} {w0 : World} (hm : P.follows .mixedOrders = true)
    (hac : ∀ i o, ops[i]? = some o → ∀ e ∈ o.after, Region.binds .any e = true → e.on < i)
    (hn : (ops.toList.filterMap (·.dst)).Nodup)
    (V : List Bool → List (Option Tmp × Value) → World → Prop) (hV : ∀ L vs w, V L vs w → vs.map (·.1) = ops.toList.map (·.dst)) (vs0 : List (Option Tmp × Value)) (h0 : V (List.replicate ops.size false) vs0 w0.drew)
    (hstep : ∀ (i : Nat) (o : Oper) (vs : List (Option Tmp × Value)) (L : List Bool) (w : World), ops[i]? = some o → L.length = ops.size → L[i]? = some false → (∀ e ∈ o.after, Region.binds .any e = true → L[e.on]? = some true) →
      (∀ (j : Nat) (o' : Oper), ops[j]? = some o' → L[j]? = some true → ∀ e ∈ o'.after, Region.binds .any e = true → L[e.on]? = some true) → V L vs w →
      ∀ K : Act → World → Prop, (∀ v w', V (L.set i true) (vs.set i (o.dst, v)) w' → K ((fill vs L a0).put o.dst v) w') → wpOpIn F n P ops Q i K (fill vs L a0) w)
    (hend : ∀ vs w, V (List.replicate ops.size true) vs w → Q .normal (fill vs (List.replicate ops.size true) a0) w) :
    (Code.region id ops true).wpIn F n P Q a0 w0 := by
  refine wpIn_region_any hm ?_
  have hlen : ∀ L vs w, V L vs w → vs.length = ops.size := fun L vs w h => by have := congrArg List.length (hV L vs w h); simpa using this
  have rdy : ∀ (L : List Bool) (i : Nat), i ∈ Region.ready .any ops L.toArray ↔ ∃ o, ops[i]? = some o ∧ L.getD i true = false ∧ (∀ e ∈ o.after, Region.binds .any e = true → L.getD e.on false = true) := by
    intro L i
    unfold Region.ready
    simp only [List.mem_filter, List.mem_range, Bool.and_eq_true, Array.getD_eq_getD_getElem?, List.getElem?_toArray, ← List.getD_eq_getElem?_getD]
    constructor
    · rintro ⟨hi, h1, h2⟩
      rw [Array.getElem?_eq_getElem hi] at h2 ⊢
      refine ⟨_, rfl, by simpa using h1, fun e he hb => ?_⟩
      simp only [Option.map_some, Option.getD_some] at h2
      have := Array.all_eq_true_iff_forall_mem.1 h2 e he
      simpa [hb] using this
    · rintro ⟨o, ho, h1, h2⟩
      refine ⟨(Array.getElem?_eq_some_iff.1 ho).1, by rw [h1]; rfl, ?_⟩
      rw [ho]
      simp only [Option.map_some, Option.getD_some]
      refine Array.all_eq_true_iff_forall_mem.2 fun e he => ?_
      cases hb : Region.binds .any e with
      | false => simp
      | true => have := h2 e he hb; rw [this]; rfl
  have full : ∀ (L : List Bool), L.length = ops.size → Region.ready .any ops L.toArray = [] → L = List.replicate ops.size true := by
    intro L hl hr
    refine List.eq_replicate_iff.2 ⟨hl, fun b hb => ?_⟩
    have all : ∀ i, i < ops.size → L.getD i false = true := by
      intro i
      induction i using Nat.strongRecOn with
      | _ i ih =>
        intro hi
        apply Classical.byContradiction
        intro hf
        have hi' : i < L.length := by omega
        have : i ∈ Region.ready .any ops L.toArray := (rdy L i).2 ⟨_, Array.getElem?_eq_getElem hi, by simp [List.getD_eq_getElem?_getD, hi'] at hf ⊢; exact hf, fun e he hb' => ih _ (hac i _ (Array.getElem?_eq_getElem hi) e he hb') (by have := hac i _ (Array.getElem?_eq_getElem hi) e he hb'; omega)⟩
        rw [hr] at this
        cases this
    obtain ⟨i, hi, rfl⟩ := List.getElem_of_mem hb
    have := all i (by omega)
    simpa [List.getD_eq_getElem?_getD, hi] using this
  have main : ∀ (fuel : Nat) (L : List Bool) (vs : List (Option Tmp × Value)) (w : World), L.length = ops.size → L.countP (fun b => !b) ≤ fuel → (∀ (j : Nat) (o' : Oper), ops[j]? = some o' → L[j]? = some true → ∀ e ∈ o'.after, Region.binds .any e = true → L[e.on]? = some true) → V L vs w → wpAnyIn F n P .any ops Q fuel L.toArray (fill vs L a0) w := by
    intro fuel
    induction fuel with
    | zero =>
      intro L vs w hl hc hcl hS
      have e : Region.ready .any ops L.toArray = [] := by
        rw [List.eq_nil_iff_forall_not_mem]
        intro i hi
        obtain ⟨o, ho, h1, _⟩ := (rdy L i).1 hi
        have hi' : i < L.length := by rw [hl]; exact (Array.getElem?_eq_some_iff.1 ho).1
        have h3 := List.countP_eq_zero.1 (Nat.le_zero.1 hc) L[i] (List.getElem_mem hi')
        simp [List.getD_eq_getElem?_getD, hi'] at h1
        simp [h1] at h3
      refine ⟨e, ?_⟩
      have := full L hl e
      subst this
      exact hend vs w hS
    | succ fuel ih =>
      intro L vs w hl hc hcl hS
      refine ⟨fun e => ?_, fun i hi => ?_⟩
      · have := full L hl e
        subst this
        exact hend vs w hS
      · obtain ⟨o, ho, h1, h2⟩ := (rdy L i).1 hi
        have hi' : i < L.length := by rw [hl]; exact (Array.getElem?_eq_some_iff.1 ho).1
        have hli : L[i]? = some false := by simp [List.getD_eq_getElem?_getD, hi'] at h1; rw [List.getElem?_eq_getElem hi', h1]
        have h2' : ∀ e ∈ o.after, Region.binds .any e = true → L[e.on]? = some true := fun e he hb => by
          have := h2 e he hb
          rw [List.getD_eq_getElem?_getD] at this
          cases hq : L[e.on]? with
          | none => rw [hq] at this; cases this
          | some b => rw [hq] at this; exact congrArg some this
        have hnv : (vs.filterMap (·.1)).Nodup := by
          have e := congrArg (fun l => l.filterMap (fun x : Option Tmp => x)) (hV L vs w hS)
          simp only [List.filterMap_map] at e
          have e2 : vs.filterMap (·.1) = ops.toList.filterMap (·.dst) := e
          rw [e2]; exact hn
        have hiv : i < vs.length := by rw [hlen L vs w hS]; omega
        refine hstep i o vs L w ho hl hli h2' hcl hS _ (fun v w' hS' => ?_)
        · have hnv' : ((vs.set i (o.dst, v)).filterMap (·.1)).Nodup := by
            have e := congrArg (fun l => l.filterMap (fun x : Option Tmp => x)) (hV _ _ _ hS')
            simp only [List.filterMap_map] at e
            have e2 : (vs.set i (o.dst, v)).filterMap (·.1) = ops.toList.filterMap (·.dst) := e
            rw [e2]; exact hn
          rw [← fill_skip vs L a0 i (o.dst, v) hli, ← fill_set (vs.set i (o.dst, v)) L a0 i o.dst v hnv' (by rw [List.getElem?_set_self hiv]) hli, List.setIfInBounds_toArray]
          refine ih (L.set i true) (vs.set i (o.dst, v)) w' (by simpa using hl) ?_ (fun j o' ho' hj e he hb => ?_) hS'
          rotate_left
          · by_cases c : i = j
            · subst c
              obtain rfl : o = o' := by rw [ho] at ho'; exact Option.some.inj ho'
              have := h2' e he hb
              by_cases c2 : i = e.on
              · rw [← c2, List.getElem?_set_self hi']
              · rw [List.getElem?_set_ne c2]; exact this
            · rw [List.getElem?_set_ne c] at hj
              by_cases c2 : i = e.on
              · rw [← c2, List.getElem?_set_self hi']
              · rw [List.getElem?_set_ne c2]; exact hcl j o' ho' hj e he hb
          have hc2 : (L.set i true).countP (fun b => !b) + 1 = L.countP (fun b => !b) := by
            rw [List.countP_set hi']
            have hb : L[i] = false := by rw [List.getElem?_eq_getElem hi'] at hli; simpa using hli
            have hp : 0 < L.countP (fun b => !b) := List.countP_pos_iff.2 ⟨L[i], List.getElem_mem hi', by simp [hb]⟩
            simp [hb]; omega
          omega
  have := main ops.size (List.replicate ops.size false) vs0 w0.drew (by simp) (by rw [List.countP_replicate]; simp) (fun j o' _ hj => by rw [List.getElem?_replicate] at hj; split at hj <;> simp at hj) h0
  rw [List.toArray_replicate] at this
  have e0 : fill vs0 (List.replicate ops.size false) a0 = a0 := by
    have : ∀ (vs : List (Option Tmp × Value)) (k : Nat) (a : Act), fill vs (List.replicate k false) a = a := by
      intro vs
      induction vs with
      | nil => intro k a; cases k <;> rfl
      | cons x r ih => intro k a; cases k with
        | zero => rfl
        | succ k => obtain ⟨d, v⟩ := x; simp only [List.replicate_succ, fill]; exact ih k a
    exact this _ _ _
  rw [e0] at this
  exact this
/-- The same, where one operation, the last one, waits for all the others and turns what is said of the world. -/
theorem drawn_last {F : Fence} {n : Nat} {P : Program} {id : Nat} {ops : Array Oper} {Q : Exit → Act → World → Prop} {a0 : Act} {w0 : World} (hm : P.follows .mixedOrders = true)
    (hac : ∀ i o, ops[i]? = some o → ∀ e ∈ o.after, Region.binds .any e = true → e.on < i)
    (m : Nat) (hsz : ops.size = m + 1) (hall : ∀ o, ops[m]? = some o → ∀ j, j < m → ∃ e ∈ o.after, Region.binds .any e = true ∧ e.on = j)
    (vs : List (Option Tmp × Value)) (hd : vs.map (·.1) = ops.toList.map (·.dst)) (hn : (vs.filterMap (·.1)).Nodup)
    (S S' : World → Prop) (h0 : S w0.drew)
    (hstep : ∀ (i : Nat) (o : Oper) (v : Value) (L : List Bool) (w : World), i < m → ops[i]? = some o → vs[i]? = some (o.dst, v) → (∀ e ∈ o.after, Region.binds .any e = true → L[e.on]? = some true) → S w →
      ∀ K : Act → World → Prop, (∀ w', S w' → K ((fill vs L a0).put o.dst v) w') → wpOpIn F n P ops Q i K (fill vs L a0) w)
    (hlast : ∀ (o : Oper) (v : Value) (L : List Bool) (w : World), ops[m]? = some o → vs[m]? = some (o.dst, v) → (∀ j, j < m → L[j]? = some true) → S w →
      ∀ K : Act → World → Prop, (∀ w', S' w' → K ((fill vs L a0).put o.dst v) w') → wpOpIn F n P ops Q m K (fill vs L a0) w)
    (hend : ∀ w, S' w → Q .normal (fill vs (List.replicate ops.size true) a0) w) :
    (Code.region id ops true).wpIn F n P Q a0 w0 := by
  refine drawn_region hm hac vs hd hn (fun L w => if L[m]? = some true then S' w else S w) ?_ ?_ ?_
  · rw [if_neg (by rw [List.getElem?_replicate]; split <;> simp)]; exact h0
  · intro i o v L w ho hv hl hli hpre hcl hS K hK
    by_cases c : i = m
    · subst c
      rw [if_neg (by rw [hli]; simp)] at hS
      refine hlast o v L w ho hv (fun j hj => ?_) hS K (fun w' hS' => hK w' (by rw [List.getElem?_set_self (by omega)]; simpa using hS'))
      obtain ⟨e, he, hb, rfl⟩ := hall o ho j hj
      exact hpre e he hb
    · have him : i < m := by have := (Array.getElem?_eq_some_iff.1 ho).1; omega
      have hLm : ¬ L[m]? = some true := by
        intro hLm
        obtain ⟨om, hom⟩ : ∃ om, ops[m]? = some om := ⟨_, Array.getElem?_eq_getElem (by omega)⟩
        obtain ⟨e, he, hb, h2⟩ := hall om hom i him
        have := hcl m om hom hLm e he hb
        rw [h2, hli] at this
        simp at this
      rw [if_neg hLm] at hS
      refine hstep i o v L w him ho hv hpre hS K (fun w' hS' => hK w' ?_)
      rw [List.getElem?_set_ne c, if_neg hLm]; exact hS'
  · intro w hS
    rw [if_pos (by rw [List.getElem?_replicate]; simp; omega)] at hS
    exact hend w hS

/-- The same, where nothing that is said of the world turns. -/
theorem drawn_same {F : Fence} {n : Nat} {P : Program} {id : Nat} {ops : Array Oper} {Q : Exit → Act → World → Prop} {a0 : Act} {w0 : World} (hm : P.follows .mixedOrders = true)
    (hac : ∀ i o, ops[i]? = some o → ∀ e ∈ o.after, Region.binds .any e = true → e.on < i)
    (vs : List (Option Tmp × Value)) (hd : vs.map (·.1) = ops.toList.map (·.dst)) (hn : (vs.filterMap (·.1)).Nodup)
    (S : World → Prop) (h0 : S w0.drew)
    (hstep : ∀ (i : Nat) (o : Oper) (v : Value) (L : List Bool) (w : World), ops[i]? = some o → vs[i]? = some (o.dst, v) → (∀ e ∈ o.after, Region.binds .any e = true → L[e.on]? = some true) → S w →
      ∀ K : Act → World → Prop, (∀ w', S w' → K ((fill vs L a0).put o.dst v) w') → wpOpIn F n P ops Q i K (fill vs L a0) w)
    (hend : ∀ w, S w → Q .normal (fill vs (List.replicate ops.size true) a0) w) :
    (Code.region id ops true).wpIn F n P Q a0 w0 :=
  drawn_region hm hac vs hd hn (fun _ w => S w) h0 (fun i o v L w ho hv _ _ hpre _ hS K hK => hstep i o v L w ho hv hpre hS K hK) hend

/-- Each operation waits for earlier ones alone. -/
def early (ops : Array Oper) : Bool := (List.range ops.size).all fun i => match ops[i]? with | some o => o.after.all fun e => !Region.binds .any e || decide (e.on < i) | none => true
theorem early_spec {ops : Array Oper} (h : early ops = true) : ∀ i o, ops[i]? = some o → ∀ e ∈ o.after, Region.binds .any e = true → e.on < i := by
  intro i o ho e he hb
  have := List.all_eq_true.1 h i (List.mem_range.2 (Array.getElem?_eq_some_iff.1 ho).1)
  rw [ho] at this
  have := Array.all_eq_true_iff_forall_mem.1 this e he
  simpa [hb] using this
/-- The last one waits for all. -/
def waits (ops : Array Oper) (m : Nat) : Bool := match ops[m]? with | some o => (List.range m).all fun j => o.after.any fun e => Region.binds .any e && e.on == j | none => true
theorem waits_spec {ops : Array Oper} {m : Nat} (h : waits ops m = true) : ∀ o, ops[m]? = some o → ∀ j, j < m → ∃ e ∈ o.after, Region.binds .any e = true ∧ e.on = j := by
  intro o ho j hj
  unfold waits at h
  rw [ho] at h
  have := List.all_eq_true.1 h j (List.mem_range.2 hj)
  obtain ⟨e, he, hb⟩ := Array.any_eq_true'.1 this
  simp only [Bool.and_eq_true, beq_iff_eq] at hb
  exact ⟨e, he, hb.1, hb.2⟩

/-- The frame under a name. -/
theorem act_name {F : Fence} {n : Nat} {P : Program} {c : Code} {Q : Exit → Act → World → Prop} {a : Act} {w : World} (h : ∀ A0, a = A0 → c.wpIn F n P Q A0 w) : c.wpIn F n P Q a w := h a rfl

/-- A fence that lets all in. -/
def WideF (P : Program) (F : Fence) : Prop := (∀ f, F.fn f) ∧ F.depth.isSome = false ∧ ∀ f args w R, Calls P f args w R → CallsIn F 0 P f args w R
theorem wide_plain (P : Program) : WideF P Fence.wide := ⟨fun _ => trivial, rfl, fun _ _ _ _ h => callsIn_wide.2 h⟩
theorem wide_round (P : Program) (r : Nat) : WideF P (Fence.wide.inRound r) := ⟨fun _ => trivial, rfl, fun _ _ _ _ h => CallsIn.inRound r (callsIn_wide.2 h)⟩
section steps
variable {F : Fence} {P : Program} {ops : Array Oper} {Q : Exit → Act → World → Prop} {i : Nat} {o : Oper} {K : Act → World → Prop} {a : Act} {w w' : World} {v : Value}
theorem st_val (hW : WideF P F) (ho : ops[i]? = some o) (hd : ∀ c, o.op ≠ .defer c) (hg : Region.wanted o (yielded ops a.tmps) = true) (hr : (execOp a.eval o).run P w = .ok (.value v) w') (h : K (a.put o.dst v) w') : wpOpIn F 0 P ops Q i K a w := by
  unfold wpOpIn
  rw [ho]
  dsimp only
  rw [if_pos hg]
  refine ⟨fun f _ => hW.1 f, ?_⟩
  rw [Oper.semAt_eq _ _ _ hd, hr]
  exact h
theorem st_skip (hW : WideF P F) (ho : ops[i]? = some o) (hd : ∀ c, o.op ≠ .defer c) (hg : Region.wanted o (yielded ops a.tmps) = true) (hr : (execOp a.eval o).run P w = .ok .skip w') (h : K (a.put o.dst undef) w') : wpOpIn F 0 P ops Q i K a w := by
  unfold wpOpIn
  rw [ho]
  dsimp only
  rw [if_pos hg]
  refine ⟨fun f _ => hW.1 f, ?_⟩
  rw [Oper.semAt_eq _ _ _ hd, hr]
  exact h
theorem st_call {f : FuncId} {args : Array Value} (hW : WideF P F) (ho : ops[i]? = some o) (hd : ∀ c, o.op ≠ .defer c) (hg : Region.wanted o (yielded ops a.tmps) = true) (hr : (execOp a.eval o).run P w = .ok (.enter f args) w)
    (h : Calls P f args w (fun e w'' => e = .returned v ∧ K (a.put o.dst v) w'')) : wpOpIn F 0 P ops Q i K a w := by
  unfold wpOpIn
  rw [ho]
  dsimp only
  rw [if_pos hg]
  refine ⟨fun f _ => hW.1 f, ?_⟩
  rw [Oper.semAt_eq _ _ _ hd, hr]
  refine ⟨fun h0 => (by rw [hW.2.1] at h0; exact absurd h0 (by decide)), (hW.2.2 _ _ _ _ h).mono ?_⟩
  rintro e w'' ⟨rfl, hK⟩
  exact hK
theorem st_unwanted (hW : WideF P F) (ho : ops[i]? = some o) (hg : Region.wanted o (yielded ops a.tmps) = false) (h : K (a.put o.dst undef) w) : wpOpIn F 0 P ops Q i K a w := by
  unfold wpOpIn
  rw [ho]
  dsimp only
  rw [if_neg (by rw [hg]; simp)]
  exact ⟨fun f _ => hW.1 f, h⟩
end steps
/-- New boxes of two numbers each, as far as they are laid (al) and filled (st). -/
structure Boxes (base : Nat) (S : World → Prop) (m : Nat) (al st : Nat → Nat) (P : Nat → Int × Int) (L : List Bool) (B : Nat → Nat) (w : World) : Prop where
  s : S w
  sz : base ≤ w.heap.size
  box : ∀ t, t < m → L[al t]? = some true → base ≤ B t ∧ B t < w.heap.size ∧ w.frozen? ⟨B t, 0, none⟩ = false ∧ w.frozen? ⟨B t, 1, none⟩ = false ∧ (∃ u, w.cell? ⟨B t, 0, none⟩ = some u) ∧ (∃ u, w.cell? ⟨B t, 1, none⟩ = some u) ∧
    (L[st t]? = some true → w.cell? ⟨B t, 0, none⟩ = some (.int .i64 (P t).1) ∧ w.cell? ⟨B t, 1, none⟩ = some (.int .i64 (P t).2))
  ne : ∀ t t', t < m → t' < m → t ≠ t' → L[al t]? = some true → L[al t']? = some true → B t ≠ B t'
section boxes
variable {base : Nat} {S : World → Prop} {m : Nat} {al st : Nat → Nat} {P : Nat → Int × Int} {L : List Bool} {B : Nat → Nat} {w : World}
theorem Boxes.keep (h : Boxes base S m al st P L B w) {i : Nat} (h1 : ∀ t, t < m → al t ≠ i) (h2 : ∀ t, t < m → st t ≠ i) : Boxes base S m al st P (L.set i true) B w :=
  ⟨h.s, h.sz, fun t ht hl => by
    rw [List.getElem?_set_ne (Ne.symm (h1 t ht))] at hl
    obtain ⟨a, b, c, d, e, f, g⟩ := h.box t ht hl
    exact ⟨a, b, c, d, e, f, fun hs => g (by rwa [List.getElem?_set_ne (Ne.symm (h2 t ht))] at hs)⟩,
   fun t t' ht ht' hne a b => h.ne t t' ht ht' hne (by rwa [List.getElem?_set_ne (Ne.symm (h1 t ht))] at a) (by rwa [List.getElem?_set_ne (Ne.symm (h1 t' ht'))] at b)⟩
theorem Boxes.alloc (h : Boxes base S m al st P L B w) {r : Nat} (hr : r < m) (hal : ∀ t, t < m → t ≠ r → al t ≠ al r) (hst : ∀ t, t < m → st t ≠ al r) (hno : L[st r]? ≠ some true) (T : TypeId) (hS : S (w.alloc (.cells #[.int .i64 0, .int .i64 0] T))) :
    Boxes base S m al st P (L.set (al r) true) (fun t => if t = r then w.heap.size else B t) (w.alloc (.cells #[.int .i64 0, .int .i64 0] T)) := by
  refine ⟨hS, by have := h.sz; simp; omega, fun t ht hl => ?_, fun t t' ht ht' hne a b => ?_⟩
  · by_cases c : t = r
    · subst c
      rw [if_pos rfl]
      refine ⟨h.sz, by simp, by simp [go_sem], by simp [go_sem], ⟨.int .i64 0, by simp [go_sem]⟩, ⟨.int .i64 0, by simp [go_sem]⟩, fun hs => ?_⟩
      rw [List.getElem?_set_ne (Ne.symm (hst t ht))] at hs
      exact absurd hs hno
    · rw [if_neg c]
      rw [List.getElem?_set_ne (Ne.symm (hal t ht c))] at hl
      obtain ⟨a, b, c1, d, ⟨u, e⟩, ⟨u', f⟩, g⟩ := h.box t ht hl
      have k := Below.alloc (Below.refl w.heap.size w) (Nat.le_refl _) (.cells #[.int .i64 0, .int .i64 0] T)
      have k0 := k.cell (p := ⟨B t, 0, none⟩) b
      have k1 := k.cell (p := ⟨B t, 1, none⟩) b
      refine ⟨a, by simp; omega, (k.frozen (p := ⟨B t, 0, none⟩) b).trans c1, (k.frozen (p := ⟨B t, 1, none⟩) b).trans d, ⟨u, k0.trans e⟩, ⟨u', k1.trans f⟩, fun hs => ?_⟩
      rw [List.getElem?_set_ne (Ne.symm (hst t ht))] at hs
      obtain ⟨g1, g2⟩ := g hs
      exact ⟨k0.trans g1, k1.trans g2⟩
  · have old : ∀ s, s < m → s ≠ r → (L.set (al r) true)[al s]? = some true → L[al s]? = some true := fun s hs c q => by rwa [List.getElem?_set_ne (Ne.symm (hal s hs c))] at q
    by_cases c : t = r <;> by_cases c' : t' = r
    · omega
    · rw [if_pos c, if_neg c']; have := (h.box t' ht' (old t' ht' c' b)).2.1; omega
    · rw [if_neg c, if_pos c']; have := (h.box t ht (old t ht c a)).2.1; omega
    · rw [if_neg c, if_neg c']; exact h.ne t t' ht ht' hne (old t ht c a) (old t' ht' c' b)
theorem Boxes.store (h : Boxes base S m al st P L B w) {r : Nat} (hr : r < m) (hst : ∀ t, t < m → t ≠ r → st t ≠ st r) (hal : ∀ t, t < m → al t ≠ st r) (hl : L[al r]? = some true)
    (hS : ∀ w' p v, base ≤ p.block → S w' → S (w'.setCell p v)) :
    Boxes base S m al st P (L.set (st r) true) B ((w.setCell ⟨B r, 0, none⟩ (.int .i64 (P r).1)).setCell ⟨B r, 1, none⟩ (.int .i64 (P r).2)) := by
  obtain ⟨a0, b0, c0, d0, ⟨u0, e0⟩, ⟨u1, e1⟩, _⟩ := h.box r hr hl
  refine ⟨hS _ _ _ a0 (hS _ _ _ a0 h.s), by simpa using h.sz, fun t ht hlt => ?_, fun t t' ht ht' hne a b => h.ne t t' ht ht' hne (by rwa [List.getElem?_set_ne (Ne.symm (hal t ht))] at a) (by rwa [List.getElem?_set_ne (Ne.symm (hal t' ht'))] at b)⟩
  rw [List.getElem?_set_ne (Ne.symm (hal t ht))] at hlt
  obtain ⟨a, b, c, d, ⟨u, e⟩, ⟨u', f⟩, g⟩ := h.box t ht hlt
  by_cases q : t = r
  · subst q
    have k0 : ((w.setCell ⟨B t, 0, none⟩ (.int .i64 (P t).1)).setCell ⟨B t, 1, none⟩ (.int .i64 (P t).2)).cell? ⟨B t, 0, none⟩ = some (.int .i64 (P t).1) := by
      rw [World.cell?_setCell_other _ _ _ _ (by intro z; injection z with z1 z2; exact absurd z2 (by decide))]
      exact World.cell?_setCell_same _ _ _ e
    have k1 : ((w.setCell ⟨B t, 0, none⟩ (.int .i64 (P t).1)).setCell ⟨B t, 1, none⟩ (.int .i64 (P t).2)).cell? ⟨B t, 1, none⟩ = some (.int .i64 (P t).2) :=
      World.cell?_setCell_same _ _ _ (u := u') (by rw [World.cell?_setCell_other _ _ _ _ (by intro z; injection z with z1 z2; exact absurd z2 (by decide))]; exact f)
    exact ⟨a, by simpa using b, by simpa using c, by simpa using d, ⟨_, k0⟩, ⟨_, k1⟩, fun _ => ⟨k0, k1⟩⟩
  · have ne := h.ne r t hr ht (Ne.symm q) hl hlt
    have k : ∀ o, ((w.setCell ⟨B r, 0, none⟩ (.int .i64 (P r).1)).setCell ⟨B r, 1, none⟩ (.int .i64 (P r).2)).cell? ⟨B t, o, none⟩ = w.cell? ⟨B t, o, none⟩ := fun o => by
      rw [World.cell?_setCell_other _ _ _ _ (by intro z; injection z with z1 z2; exact ne z1), World.cell?_setCell_other _ _ _ _ (by intro z; injection z with z1 z2; exact ne z1)]
    refine ⟨a, by simpa using b, by simpa using c, by simpa using d, ⟨u, (k 0).trans e⟩, ⟨u', (k 1).trans f⟩, fun hs => ?_⟩
    rw [List.getElem?_set_ne (Ne.symm (hst t ht q))] at hs
    obtain ⟨g1, g2⟩ := g hs
    exact ⟨(k 0).trans g1, (k 1).trans g2⟩
theorem Boxes.start (hS : S w) (hsz : base ≤ w.heap.size) (n : Nat) : Boxes base S m al st P (List.replicate n false) B w := by
  have no : ∀ i : Nat, (List.replicate n false)[i]? ≠ some true := fun i => by rw [List.getElem?_replicate]; split <;> simp
  exact ⟨hS, hsz, fun t _ hl => absurd hl (no _), fun t t' _ _ _ a _ => absurd a (no _)⟩
end boxes
theorem KeepsFrom.of_below {B : Nat} {w w' : World} (h : Below w.heap.size w w') : KeepsFrom B w w' :=
  ⟨h.size, fun k o _ hk _ => (h.block k (Array.getElem?_eq_some_iff.1 hk).1).trans hk⟩
end Go.Proofs.Ytgdhgncdpmalcaa.Drawn
