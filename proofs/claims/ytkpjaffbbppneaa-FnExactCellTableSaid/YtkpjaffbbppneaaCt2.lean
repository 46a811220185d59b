/- Regions that draw their order: the theorem's last part. -/
import Derived.WalkKit
import Derived.Orders
import Derived.Laws.StructEq
import Derived.Test.YtkpjaffbbppneaaRows
import Derived.ProofKit
import Derived.Test.YtkpjaffbbppneaaCt1
set_option linter.unusedSimpArgs false
set_option linter.unusedVariables false
set_option linter.unusedSectionVars false
namespace Go.Proofs.Ytkpjaffbbppneaa
open Go Go.RowKit

theorem countP_lt {p p' : Nat → Bool} : ∀ (l : List Nat) (x : Nat), x ∈ l → p x = true → p' x = false → (∀ y, p' y = true → p y = true) → (l.filter p').length < (l.filter p).length
  | [], x, h, _, _, _ => by simp at h
  | y :: r, x, h, h1, h2, h3 => by
    have le : ∀ r : List Nat, (r.filter p').length ≤ (r.filter p).length := by
      intro r
      induction r with
      | nil => simp
      | cons z r ih =>
        simp only [List.filter_cons]
        by_cases hz : p' z = true
        · rw [if_pos hz, if_pos (h3 z hz)]; simp; exact ih
        · rw [if_neg hz]; split
          · simp; omega
          · exact ih
    simp only [List.filter_cons]
    by_cases hxy : x = y
    · subst hxy
      rw [if_neg (by simp [h2]), if_pos h1]
      have := le r; simp; omega
    · have hm : x ∈ r := by simpa [hxy] using h
      have ih := countP_lt r x hm h1 h2 h3
      by_cases hz : p' y = true
      · rw [if_pos hz, if_pos (h3 y hz)]; simp; exact ih
      · rw [if_neg hz]; split
        · simp; omega
        · exact ih

section
variable {P : Program} {N : Nat} {W : List (Option Tmp)} {ext : Bool} {ds : List (Tmp × Tmp)} {K : Env → List AO → Prop} {l : List Oper} {E : Nat → Env} {M : Nat → List AO} {V : Nat → AV}

/-- What has run is closed under what it waited for. -/
def DC (l : List Oper) (S : Nat → Bool) : Prop := ∀ (j : Nat) (o : Oper), l[j]? = some o → S j = true → ∀ e ∈ o.after.toList, bnd e = true → S e.on = true

theorem reach_ready (S : Nat → Bool) (hdc : DC l S) (j : Nat) (o : Oper) (ho : l[j]? = some o) (hp : ∀ e ∈ o.after.toList, bnd e = true → S e.on = true) (i : Nat) (h : ((bmGo l []).getD j 0).testBit i = true) : S i = true :=
  bm_sound (S := fun i => S i = true) l hdc l [] (by simp) (by simp) (by simp) j o ho (by have := (List.getElem?_eq_some_iff.1 ho).1; simpa using this) hp i h

theorem reach_in (S : Nat → Bool) (hdc : DC l S) (j : Nat) (o : Oper) (ho : l[j]? = some o) (hj : S j = true) (i : Nat) (h : ((bmGo l []).getD j 0).testBit i = true) : S i = true :=
  reach_ready S hdc j o ho (hdc j o ho hj) i h

/-- An operation that may run now finds its operands as the order of the text gives them. -/
theorem slots_agree (hk : chk P W ext ds l = true) (h : Dt P N W ext l.toArray K l E M V) (S : Nat → Bool) (hdc : DC l S) (i : Nat) (o : Oper) (ho : l[i]? = some o) (hi : S i = false) (hp : ∀ e ∈ o.after.toList, bnd e = true → S e.on = true)
    (t : Tmp) (ht : t ∈ o.looksAt l.toArray) : eS l E V S l.length t = E i t := by
  have hil := (List.getElem?_eq_some_iff.1 ho).1
  rw [← eS_before h i l.length (by omega) (by omega)]
  refine eS_congr _ _ t l.length fun j hj hd => ?_
  have hoj : l[j]? = some l[j] := List.getElem?_eq_getElem hj
  have hd' : l[j].dst = some t := by simpa [dOf, hoj] using hd
  by_cases hlt : j < i
  · have hr := chk_pairs hk j i _ o hlt hoj ho
    rcases hr with hr | ⟨hr, _⟩
    · rw [reach_ready S hdc i o ho hp j hr]; simp [hlt]
    · simp [dataDep, hd', ht] at hr
  · by_cases hje : j = i
    · subst hje; simp [hi]
    · have hr := chk_pairs hk i j o _ (by omega) ho hoj
      have hS : S j = false := by
        rcases hr with hr | ⟨hr, _⟩
        · cases hc : S j with
          | false => rfl
          | true => have := reach_in S hdc j _ hoj hc i hr; rw [hi] at this; simp at this
        · simp [dataDep, hd', ht] at hr
      rw [hS]; simp; omega

theorem env_next (hk : chk P W ext ds l = true) (S S' : Nat → Bool) (hdc : DC l S) (i : Nat) (o : Oper) (ho : l[i]? = some o) (hi : S i = false) (hS : ∀ j, S' j = (S j || j == i)) :
    eS l E V S' l.length = putE (eS l E V S l.length) o.dst (V i) := by
  have hil := (List.getElem?_eq_some_iff.1 ho).1
  have hd : dOf l i = o.dst := by simp [dOf, ho]
  rw [← hd]
  refine eS_add S S' i l.length hil hS fun j t h1 h2 h3 h4 => ?_
  have hoj : l[j]? = some l[j] := List.getElem?_eq_getElem h2
  rw [hd] at h3
  have hd' : l[j].dst = some t := by simpa [dOf, hoj] using h4
  rcases chk_pairs hk i j o _ h1 ho hoj with hr | ⟨hr, _⟩
  · cases hc : S j with
    | false => rfl
    | true => have := reach_in S hdc j _ hoj hc i hr; rw [hi] at this; simp at this
  · simp [dataDep, h3, hd'] at hr

theorem wOf_at {i : Nat} {o : Oper} (ho : l[i]? = some o) : wOf P W l i = isW P W o := by simp [wOf, ho]

theorem w_order (hk : chk P W ext ds l = true) (i j : Nat) (x y : Oper) (hij : i < j) (hx : l[i]? = some x) (hy : l[j]? = some y) (wx : isW P W x = true) (wy : isW P W y = true) : ((bmGo l []).getD j 0).testBit i = true := by
  rcases chk_pairs hk i j x y hij hx hy with hr | ⟨_, hr⟩
  · exact hr
  · simp [memOk, wx, wy] at hr

/-- The memory that an operation finds, and leaves. -/
theorem mem_step (hk : chk P W ext ds l = true) (h : Dt P N W ext l.toArray K l E M V) (S S' : Nat → Bool) (hdc : DC l S) (i : Nat) (o : Oper) (ho : l[i]? = some o) (hi : S i = false) (hp : ∀ e ∈ o.after.toList, bnd e = true → S e.on = true)
    (hS : ∀ j, S' j = (S j || j == i)) (hne : ∀ i j x y t a t' b z, l[i]? = some x → l[j]? = some y → x.op = .load t (.tmp a) → y.op = .store t' (.tmp b) z → (a, b) ∈ ds → ptrNe (E i a) (E j b)) :
    (M (i + 1) = M i → mS P W l M S' l.length = mS P W l M S l.length) ∧
    (OpF P W ext (E i) o (M i) (V i) (M (i + 1)) → OpF P W ext (E i) o (mS P W l M S l.length) (V i) (mS P W l M S' l.length)) := by
  have hil := (List.getElem?_eq_some_iff.1 ho).1
  by_cases hw : isW P W o = true
  · -- it writes: all that write ahead of it have run, none behind it
    have iff1 : ∀ j, j < l.length → wOf P W l j = true → (S j = true ↔ j < i) := by
      intro j hj hwj
      have hoj : l[j]? = some l[j] := List.getElem?_eq_getElem hj
      rw [wOf_at hoj] at hwj
      constructor
      · intro hSj
        by_cases h1 : j < i
        · exact h1
        · by_cases h2 : j = i
          · subst h2; rw [hi] at hSj; simp at hSj
          · have := reach_in S hdc j _ hoj hSj i (w_order hk i j o _ (by omega) ho hoj hw hwj)
            rw [hi] at this; simp at this
      · intro hlt
        exact reach_ready S hdc i o ho hp j (w_order hk j i _ o hlt hoj ho hwj hw)
    have iff2 : ∀ j, j < l.length → wOf P W l j = true → (S' j = true ↔ j < i + 1) := by
      intro j hj hwj
      rw [hS]
      have := iff1 j hj hwj
      by_cases hji : j = i
      · subst hji; simp
      · simp [hji]; rw [this]; omega
    have e1 := mS_upto h S i l.length (Nat.le_refl _) iff1
    have e2 := mS_upto h S' (i + 1) l.length (Nat.le_refl _) iff2
    rw [Nat.min_eq_right (by omega)] at e1 e2
    rw [e1, e2]
    exact ⟨fun e => e, fun e => e⟩
  · have hw' : isW P W o = false := by simpa using hw
    -- it does not write: the writers that have run are the first ones
    have same : ∀ q, (∀ j, j < l.length → wOf P W l j = true → (S j = true ↔ j < q)) → mS P W l M S' l.length = mS P W l M S l.length := by
      intro q hq
      rw [mS_upto h S q l.length (Nat.le_refl _) hq, mS_upto h S' q l.length (Nat.le_refl _) fun j hj hwj => ?_]
      rw [hS]
      have hji : j ≠ i := by
        intro e; subst e; rw [wOf_at ho, hw'] at hwj; simp at hwj
      simp [hji]; exact hq j hj hwj
    have hq : ∃ q, q ≤ l.length ∧ ∀ j, j < l.length → wOf P W l j = true → (S j = true ↔ j < q) := by
      rcases first_missing S (wOf P W l) l.length with h1 | ⟨j0, h1, h2, h3, h4⟩
      · exact ⟨l.length, Nat.le_refl _, fun j hj hwj => ⟨fun _ => hj, fun _ => h1 j hj hwj⟩⟩
      · refine ⟨j0, by omega, fun j hj hwj => ⟨fun hSj => ?_, fun hlt => h4 j hlt hwj⟩⟩
        have hoj : l[j]? = some l[j] := List.getElem?_eq_getElem hj
        have hoj0 : l[j0]? = some l[j0] := List.getElem?_eq_getElem h1
        by_cases hlt : j < j0
        · exact hlt
        · by_cases he : j = j0
          · subst he; rw [h3] at hSj; simp at hSj
          · rw [wOf_at hoj] at hwj; rw [wOf_at hoj0] at h2
            have := reach_in S hdc j _ hoj hSj j0 (w_order hk j0 j _ _ (by omega) hoj0 hoj h2 hwj)
            rw [h3] at this; simp at this
    obtain ⟨q, hql, hq⟩ := hq
    have e0 := same q hq
    have e1 := mS_upto h S q l.length (Nat.le_refl _) hq
    rw [Nat.min_eq_right hql] at e1
    refine ⟨fun _ => e0, fun hf => ?_⟩
    rw [e0, e1]
    have hMi : M (i + 1) = M i := M_same h i hil (by rw [wOf_at ho]; exact hw')
    rw [hMi] at hf
    by_cases hqi : q ≤ i
    · have down : ∀ d j, j + d = i → q ≤ j → OpF P W ext (E i) o (M j) (V i) (M j) := by
        intro d
        induction d with
        | zero => intro j hj _; have : j = i := by omega
                  subst this; exact hf
        | succ d ih =>
          intro j hj hqj
          have h2 := ih (j + 1) (by omega) (by omega)
          have hoj : l[j]? = some l[j] := List.getElem?_eq_getElem (by omega)
          by_cases hwj : wOf P W l j = true
          · obtain ⟨b, _, hb1, hb2, _⟩ := h.op j _ hoj
            cases b with
            | false => rw [(hb1 rfl).2] at h2; exact h2
            | true =>
              have hSj : S j = false := by
                cases hc : S j with
                | false => rfl
                | true => have := (hq j (by omega) hwj).1 hc; omega
              rw [wOf_at hoj] at hwj
              rcases chk_pairs hk j i _ o (by omega) hoj ho with hr | ⟨_, hr⟩
              · have := reach_ready S hdc i o ho hp j hr; rw [hSj] at this; simp at this
              · exact h2.under (hb2 rfl) hw' hwj hr (fun t a t' b z e1 e2 hm => hne i j _ _ t a t' b z ho hoj e1 e2 hm)
          · rw [M_same h j (by omega) (by simpa using hwj)] at h2; exact h2
      exact down (i - q) q (by omega) (Nat.le_refl _)
    · have up : ∀ d, i + d ≤ q → OpF P W ext (E i) o (M (i + d)) (V i) (M (i + d)) := by
        intro d
        induction d with
        | zero => intro _; exact hf
        | succ d ih =>
          intro hd
          have h2 := ih (by omega)
          have hoj : l[i + d]? = some l[i + d] := List.getElem?_eq_getElem (by omega)
          by_cases hwj : wOf P W l (i + d) = true
          · obtain ⟨b, _, hb1, hb2, _⟩ := h.op (i + d) _ hoj
            cases b with
            | false => show OpF P W ext (E i) o (M (i + d + 1)) (V i) (M (i + d + 1)); rw [(hb1 rfl).2]; exact h2
            | true =>
              have hSj : S (i + d) = true := (hq (i + d) (by omega) hwj).2 (by omega)
              have hd0 : d ≠ 0 := by
                intro e; subst e; rw [Nat.add_zero] at hSj; rw [hi] at hSj; simp at hSj
              rw [wOf_at hoj] at hwj
              rcases chk_pairs hk i (i + d) o _ (by omega) ho hoj with hr | ⟨_, hr⟩
              · have := reach_in S hdc (i + d) _ hoj hSj i hr; rw [hi] at this; simp at this
              · exact h2.over (hb2 rfl) hw' hwj hr (fun t a t' b z e1 e2 hm => hne i (i + d) _ _ t a t' b z ho hoj e1 e2 hm)
          · show OpF P W ext (E i) o (M (i + d + 1)) (V i) (M (i + d + 1))
            rw [M_same h (i + d) (by omega) (by simpa using hwj)]; exact h2
      have := up (q - i) (by omega)
      rwa [show i + (q - i) = q by omega] at this

theorem any_sound (hk : chk P W ext ds l = true) (h : Dt P N W ext l.toArray K l E M V) (hne : ∀ i j x y t a t' b z, l[i]? = some x → l[j]? = some y → x.op = .load t (.tmp a) → y.op = .store t' (.tmp b) z → (a, b) ∈ ds → ptrNe (E i a) (E j b)) {B0 : Nat} {w0 : World} {ρe : List Place} {Q : Exit → Act → World → Prop} (hQ : ∀ env m a w, St N B0 w0 ρe env m a w → K env m → Q .normal a w) :
    ∀ (fuel : Nat) (listed : Array Bool) (a : Act) (w : World), listed.size = l.length → ((List.range l.length).filter fun i => !listed.getD i false).length ≤ fuel → DC l (fun i => listed.getD i false) →
      St N B0 w0 ρe (eS l E V (fun i => listed.getD i false) l.length) (mS P W l M (fun i => listed.getD i false) l.length) a w → wpAny P .any l.toArray Q fuel listed a w := by
  have done : ∀ (listed : Array Bool) (a : Act) (w : World), (∀ i, i < l.length → listed.getD i false = true) → St N B0 w0 ρe (eS l E V (fun i => listed.getD i false) l.length) (mS P W l M (fun i => listed.getD i false) l.length) a w → Q .normal a w := by
    intro listed a w hall hst
    rw [eS_all h _ l.length (Nat.le_refl _) hall, mS_upto h _ l.length l.length (Nat.le_refl _) (fun j hj _ => ⟨fun _ => hj, fun _ => hall j hj⟩), Nat.min_self] at hst
    exact hQ _ _ a w hst h.fin
  have notready : ∀ (listed : Array Bool), listed.size = l.length → Region.ready .any l.toArray listed = [] → ∀ i, i < l.length → listed.getD i false = true := by
    intro listed hsz hr i
    induction i using Nat.strongRecOn with
    | _ i ih =>
      intro hi
      cases hc : listed.getD i false with
      | true => rfl
      | false =>
        exfalso
        have ho : l[i]? = some l[i] := List.getElem?_eq_getElem hi
        have hm : i ∈ Region.ready .any l.toArray listed := by
          rw [mem_ready]
          refine ⟨?_, l[i], by simp, fun e he hb => ?_⟩
          · rw [Array.getD_eq_getD_getElem?] at hc ⊢
            rw [Array.getElem?_eq_getElem (by omega)] at hc ⊢
            simpa using hc
          · have hlt := chk_edges hk i _ ho e (by simpa using he) hb
            exact ih e.on hlt (by omega)
        rw [hr] at hm; simp at hm
  intro fuel
  induction fuel with
  | zero =>
    intro listed a w hsz hcnt hdc hst
    have hall : ∀ i, i < l.length → listed.getD i false = true := by
      intro i hi
      have he := List.eq_nil_of_length_eq_zero (Nat.le_zero.1 hcnt)
      rw [List.filter_eq_nil_iff] at he
      have := he i (List.mem_range.2 hi)
      simpa using this
    refine ⟨?_, done listed a w hall hst⟩
    apply List.eq_nil_iff_forall_not_mem.2
    intro i hm
    rw [mem_ready] at hm
    obtain ⟨h1, o, ho, _⟩ := hm
    have hi : i < l.length := by
      have := (List.getElem?_eq_some_iff.1 (show l[i]? = some o by simpa using ho)).1; exact this
    have h2 := hall i hi
    rw [Array.getD_eq_getD_getElem?, Array.getElem?_eq_getElem (by omega)] at h1 h2
    simp at h1 h2; rw [h1] at h2; simp at h2
  | succ fuel ih =>
    intro listed a w hsz hcnt hdc hst
    refine ⟨fun hr => done listed a w (notready listed hsz hr) hst, fun i hm => ?_⟩
    rw [mem_ready] at hm
    obtain ⟨h1, o, ho', hp'⟩ := hm
    have ho : l[i]? = some o := by simpa using ho'
    have hil := (List.getElem?_eq_some_iff.1 ho).1
    have hi : listed.getD i false = false := by
      rw [Array.getD_eq_getD_getElem?, Array.getElem?_eq_getElem (by omega)] at h1 ⊢
      simpa using h1
    have hp : ∀ e ∈ o.after.toList, bnd e = true → listed.getD e.on false = true := fun e he hb => hp' e (by simpa using he) hb
    have hS : ∀ j, (listed.setIfInBounds i true).getD j false = (listed.getD j false || j == i) := by
      intro j
      rw [Array.getD_eq_getD_getElem?, Array.getD_eq_getD_getElem?]
      by_cases hji : j = i
      · subst hji; simp [hsz, hil]
      · rw [Array.getElem?_setIfInBounds_ne (fun e => hji e.symm)]; simp [hji]
    have hdc' : DC l (fun j => (listed.setIfInBounds i true).getD j false) := by
      intro j oj hoj hj e he hb
      simp only [hS, Bool.or_eq_true, beq_iff_eq] at hj ⊢
      rcases hj with hj | hj
      · exact .inl (hdc j oj hoj hj e he hb)
      · subst hj; rw [ho] at hoj; simp at hoj; subst hoj
        exact .inl (hp e he hb)
    have hcnt' : ((List.range l.length).filter fun j => !(listed.setIfInBounds i true).getD j false).length ≤ fuel := by
      have := countP_lt (p := fun j => !listed.getD j false) (p' := fun j => !(listed.setIfInBounds i true).getD j false) (List.range l.length) i (List.mem_range.2 hil) (by simp [hi]) (by simp only [hS]; simp) (fun y hy => by simp only [hS] at hy; simp at hy ⊢; exact hy.1)
      omega
    have henv := env_next (E := E) (V := V) hk (fun i => listed.getD i false) (fun j => (listed.setIfInBounds i true).getD j false) hdc i o ho hi hS
    have hmem := mem_step hk h (fun i => listed.getD i false) (fun j => (listed.setIfInBounds i true).getD j false) hdc i o ho hi hp hS hne
    obtain ⟨b, hb, hf, ht, hd, _⟩ := h.op i o ho
    have hagree := slots_agree hk h (fun i => listed.getD i false) hdc i o ho hi hp
    have hwant : awant l.toArray (eS l E V (fun i => listed.getD i false) l.length) o = some b := by
      rw [← hb]
      unfold awant
      cases hg : o.guard with
      | none => rfl
      | some jw =>
        obtain ⟨j, want⟩ := jw
        simp only
        cases hdj : (l.toArray[j]?).bind (·.dst) with
        | none => rfl
        | some d =>
          simp only
          rw [hagree d (by simp only [Oper.looksAt, hg, hdj]; simp)]
    have next : ∀ (m' : List AO) (ρ : List Place) (u : Value) (w' : World), Sim B0 w0 ρ m' w' → ER ρ (eS l E V (fun i => listed.getD i false) l.length) a.tmps → Ext ρe ρ → VR ρ (V i) u →
        m' = mS P W l M (fun j => (listed.setIfInBounds i true).getD j false) l.length → wpAny P .any l.toArray Q fuel (listed.setIfInBounds i true) (a.put o.dst u) w' := by
      intro m' ρ u w' hs he hx hv hm
      refine ih _ _ _ (by simp [hsz]) hcnt' hdc' ?_
      rw [henv, ← hm]
      have hput : aput N (eS l E V (fun i => listed.getD i false) l.length) o.dst (V i) (fun env' => env' = putE (eS l E V (fun i => listed.getD i false) l.length) o.dst (V i)) := by
        unfold aput
        cases hdo : o.dst with
        | none => simp [putE]
        | some d => simp only; exact ⟨hd d hdo, rfl⟩
      obtain ⟨env', h6, h7⟩ := hst.put hs he hx hv hput
      rw [← h7]; exact h6
    obtain ⟨⟨ρ, hs, he, hx⟩, hsz', hdf⟩ := id hst
    unfold wpOp
    rw [show l.toArray[i]? = some o by simpa using ho]
    simp only
    rw [awant_sound he hwant]
    cases b with
    | true =>
      rw [if_pos rfl]
      have hop := (hmem.2 (ht rfl)).congr (env' := eS l E V (fun i => listed.getD i false) l.length) (fun x hx => by
        cases x with
        | tmp t => exact hagree t (by simp only [Oper.looksAt, List.mem_append, List.mem_filterMap]; exact .inl ⟨.tmp t, by simpa using hx, rfl⟩)
        | _ => rfl)
      refine .inl (astep_sound hst hop.astep fun v m' ρ u w' g1 g2 g3 g4 g5 => ?_)
      obtain ⟨rfl, rfl⟩ := g5
      exact next _ ρ u w' g1 g2 g3 g4 rfl
    | false =>
      rw [if_neg (by simp)]
      obtain ⟨hv, hm⟩ := hf rfl
      exact next _ ρ undef w hs he hx (by rw [hv]; simp [VR]) (hmem.1 hm).symm

/-- A region that draws its order, run once in the order of the text. -/
theorem ADraw.tx {n id : Nat} {env : Env} {m : List AO} (W : List (Option Tmp)) (ext : Bool) (ds : List (Tmp × Tmp)) (hm : P.follows .mixedOrders = true) (hk : chk P W ext ds l = true)
    (h : awpOps P N (some (W, ext)) l.toArray (fun env m => (∀ p ∈ ds, ptrNe (env p.1) (env p.2)) ∧ K env m) l env m) : ADraw P N n id l.toArray K env m := by
  intro B0 w0 ρe a w Q _ hst hQ0
  obtain ⟨E, M, V, e0, m0, hdt⟩ := extract l env m h
  have hQ : ∀ env m a w, St N B0 w0 ρe env m a w → ((∀ p ∈ ds, ptrNe (env p.1) (env p.2)) ∧ K env m) → Q .normal a w := fun env m a w h1 h2 => hQ0 env m a w h1 h2.2
  have stay : ∀ (i : Nat) (x : Oper) (t : Tmp), l[i]? = some x → (∀ j y, i ≤ j → l[j]? = some y → y.dst ≠ some t) → ∀ d, i + d ≤ l.length → E (i + d) t = E i t := by
    intro i x t _ hs d
    induction d with
    | zero => intro _; rfl
    | succ d ih =>
      intro hd
      have ho : l[i + d]? = some l[i + d] := List.getElem?_eq_getElem (by omega)
      obtain ⟨b, _, _, _, _, he⟩ := hdt.op (i + d) _ ho
      show E (i + d + 1) t = E i t
      rw [he, putE_at, if_neg (hs _ _ (by omega) ho)]
      exact ih (by omega)
  have hne : ∀ i j x y t a t' b z, l[i]? = some x → l[j]? = some y → x.op = .load t (.tmp a) → y.op = .store t' (.tmp b) z → (a, b) ∈ ds → ptrNe (E i a) (E j b) := by
    intro i j x y t a t' b z hx hy e1 e2 hp
    have hds : ds ≠ [] := List.ne_nil_of_mem hp
    have hi := (List.getElem?_eq_some_iff.1 hx).1
    have hj := (List.getElem?_eq_some_iff.1 hy).1
    have h1 := stay i x a hx (fun k u hk2 hu => (chk_ds hk hds i k x u hk2 hx hu).1 t a e1) (l.length - i) (by omega)
    have h2 := stay j y b hy (fun k u hk2 hu => (chk_ds hk hds j k y u hk2 hy hu).2 t' b z e2) (l.length - j) (by omega)
    rw [show i + (l.length - i) = l.length by omega] at h1
    rw [show j + (l.length - j) = l.length by omega] at h2
    have := hdt.fin.1 _ hp
    rw [← h1, ← h2]; exact this
  refine wp_region_any hm ?_
  have hst' : St N B0 w0 ρe env m a { w with drawn := w.drawn + 1 } := by
    obtain ⟨⟨ρ, hs, he, hx⟩, hsz, hdf⟩ := hst
    exact ⟨⟨ρ, hs.drew, he, hx⟩, hsz, hdf⟩
  have hfalse : ∀ i, (Array.replicate l.toArray.size false).getD i false = false := by
    intro i
    rw [Array.getD_eq_getD_getElem?, Array.getElem?_replicate]
    split <;> rfl
  refine any_sound hk hdt hne hQ l.toArray.size _ a _ (by simp) ?_ (fun j o ho hj => by simp only [hfalse] at hj; simp at hj) ?_
  · refine Nat.le_trans (List.length_filter_le _ _) (by simp)
  · have e1 : ∀ k, eS l E V (fun i => (Array.replicate l.toArray.size false).getD i false) k = E 0 := by
      intro k
      induction k with
      | zero => rfl
      | succ k ih => simp only [eS]; rw [if_neg (by rw [hfalse]; simp)]; exact ih
    have e2 : ∀ k, mS P W l M (fun i => (Array.replicate l.toArray.size false).getD i false) k = M 0 := by
      intro k
      induction k with
      | zero => rfl
      | succ k ih => simp only [mS]; rw [if_neg (by rw [hfalse]; simp)]; exact ih
    rw [e1, e2, e0, m0]; exact hst'

end

/-- What stands behind a region that was run with calls of one outcome. -/
def DK (c : Cx) (k : List It) : AX → Env → List AO → Prop
  | .normal, env, m => go c k env m
  | _, _, _ => False

theorem DK_normal (c : Cx) (k : List It) (env : Env) (m : List AO) : DK c k .normal env m = go c k env m := rfl

/-- Slots that point at two objects, pair by pair. -/
def sepA : List (Tmp × Tmp) → Env → Prop
  | [], _ => True
  | (a, b) :: r, env => ptrNe (env a) (env b) ∧ sepA r env
theorem sepA_nil (env : Env) : sepA [] env = True := rfl
theorem sepA_cons (a b : Tmp) (r : List (Tmp × Tmp)) (env : Env) : sepA ((a, b) :: r) env = (ptrNe (env a) (env b) ∧ sepA r env) := rfl
theorem sepA_iff (env : Env) : ∀ ds : List (Tmp × Tmp), sepA ds env = ∀ p ∈ ds, ptrNe (env p.1) (env p.2)
  | [] => by simp [sepA]
  | (a, b) :: r => by simp only [sepA, sepA_iff env r, List.mem_cons, forall_eq_or_imp]

/-- .. with some slots to be seen to point at two objects. -/
def DK2 (ds : List (Tmp × Tmp)) (c : Cx) (k : List It) : AX → Env → List AO → Prop
  | .normal, env, m => sepA ds env ∧ go c k env m
  | _, _, _ => False

theorem DK2_normal (ds : List (Tmp × Tmp)) (c : Cx) (k : List It) (env : Env) (m : List AO) : DK2 ds c k .normal env m = (sepA ds env ∧ go c k env m) := rfl

theorem go_drawn2 {c : Cx} {k : List It} {env : Env} {m : List AO} {id : Nat} {l : List Oper} (W : List (Option Tmp)) (ext : Bool) (ds : List (Tmp × Tmp)) (hm : c.P.follows .mixedOrders = true) (hk : chk c.P W ext ds l = true)
    (h : go ⟨c.P, c.N, c.n, some (W, ext), DK2 ds c k⟩ [.ops l.toArray l] env m) : go c (.code (.region id l.toArray true) :: k) env m := by
  refine go_draw (ADraw.tx W ext ds hm hk ?_)
  simp only [go, DK2_normal, sepA_iff] at h
  exact h

theorem go_drawn {c : Cx} {k : List It} {env : Env} {m : List AO} {id : Nat} {l : List Oper} (W : List (Option Tmp)) (ext : Bool) (hm : c.P.follows .mixedOrders = true) (hk : chk c.P W ext [] l = true)
    (h : go ⟨c.P, c.N, c.n, some (W, ext), DK c k⟩ [.ops l.toArray l] env m) : go c (.code (.region id l.toArray true) :: k) env m := by
  refine go_draw (ADraw.tx W ext [] hm hk ?_)
  simp only [go, DK_normal] at h
  have e : (fun env m => (∀ p ∈ ([] : List (Tmp × Tmp)), ptrNe (env p.1) (env p.2)) ∧ go c k env m) = fun env m => go c k env m := by
    funext env m; simp
  rw [e]; exact h

theorem ptrNe_pp (a o g b o' g' : Nat) : ptrNe (.ptr a o g) (.ptr b o' g') = (a ≠ b) := by
  simp only [ptrNe, AV.ptr.injEq, eq_iff_iff]
  constructor
  · rintro ⟨_, _, _, _, _, _, ⟨rfl, _⟩, ⟨rfl, _⟩, h⟩; exact h
  · intro h; exact ⟨_, _, _, _, _, _, ⟨rfl, rfl, rfl⟩, ⟨rfl, rfl, rfl⟩, h⟩
end Go.Proofs.Ytkpjaffbbppneaa

/- Regions that draw their order, with new objects: what a step does where other objects are otherwise; holes. -/
namespace Go.Proofs.Ytkpjaffbbppneaa
open Go Go.RowKit

section
variable {P : Program}

theorem read_frame (op : Op) (ev : Operand → AV) (m m2 : List AO) (v : AV) (hc : cls P op = .read) (hf : ∀ x, obX op = some x → ∀ a, objOf (ev x) = some a → ∀ g, content m2 a g = content m a g) (h : aop P op ev m = some (v, m)) : aop P op ev m2 = some (v, m2) := by
  have key : ∀ {o o2 : Option AV}, (∀ x, o = some x → o2 = some x) → o.map (·, m) = some (v, m) → o2.map (·, m2) = some (v, m2) := by
    intro o o2 hx ho
    simp only [Option.map_eq_some_iff, Prod.mk.injEq] at ho ⊢
    obtain ⟨x, hx', e, _⟩ := ho; exact ⟨x, hx x hx', e, trivial⟩
  cases op <;> simp only [cls] at hc <;> try (simp at hc; done)
  case load ty x =>
    simp only [aop] at h ⊢
    refine key (fun y hy => ?_) h
    have hx := hf x rfl
    generalize ev x = z at hy hx ⊢
    cases z <;> simp only [aLoad] at hy ⊢ <;> try (simp at hy; done)
    rename_i a o g
    rw [hx a rfl g]; exact hy
  case convert s d x =>
    simp only [aop] at h ⊢
    refine key (fun y hy => ?_) h
    have hx := hf x rfl
    unfold aConv at hy ⊢
    split at hy
    · simp_all
    · rename_i _ _ _ e sz by_ ze sz' by' ze' a o len g h1 h2 h3
      split at hy
      · rename_i _ _ sz2 by2 ze2 xs h4 hcc
        simp only [h1, h2, h3, h4, hx a (by rw [h3]; rfl) g, hcc]; exact hy
      · simp at hy
    · simp at hy
  case call c =>
    obtain ⟨cal, args, tys⟩ := c
    cases cal <;> try (simp at hc; done)
    rename_i b
    cases b <;> simp at hc

theorem store_frame {t : TypeId} {x y : Operand} {ev : Operand → AV} {m m' : List AO} {v : AV} (h : aop P (.store t x y) ev m = some (v, m')) :
    ∃ a X, objOf (ev x) = some a ∧ a < m.length ∧ m' = m.set a X ∧ (m[a]?).map AO.shp = some X.shp ∧ v = .s undef ∧ ∀ m2 : List AO, m2[a]? = m[a]? → aop P (.store t x y) ev m2 = some (v, m2.set a X) := by
  simp only [aop, Option.map_eq_some_iff, Prod.mk.injEq] at h
  obtain ⟨m1, hm, hv, rfl⟩ := h
  unfold aStore at hm
  split at hm
  · rename_i _ a o g hg
    split at hm
    · rename_i _ _ xs g' z i h1 h2
      split at hm
      · rename_i hif
        simp only [Option.some.injEq] at hm; subst hm
        refine ⟨a, _, by rw [hg]; rfl, (List.getElem?_eq_some_iff.1 h1).1, rfl, ?_, hv.symm, fun m2 e => ?_⟩
        · rw [h1]; simp [AO.shp, splice_eq, spl_length]
        · simp only [aop, Option.map_eq_some_iff, Prod.mk.injEq]
          refine ⟨_, ?_, hv, rfl⟩
          unfold aStore
          rw [hg]
          simp only [e, h1, h2]
          rw [if_pos hif]
      · simp at hm
    · simp at hm
  · simp at hm

/-- What a new object's address looks like. -/
def pv : Option Nat → Nat → AV
  | none, r => .ptr r 0 0
  | some len, r => .slice r 0 len 0
theorem objOf_pv (q : Option Nat) (r : Nat) : objOf (pv q r) = some r := by cases q <;> rfl

theorem push_frame (op : Op) (ev : Operand → AV) (m m' : List AO) (v : AV) (hc : cls P op = .push) (h : aop P op ev m = some (v, m')) :
    ∃ xs z q, m' = m ++ [.cells xs 0 z] ∧ v = pv q m.length ∧ ∀ m2 : List AO, aop P op ev m2 = some (pv q m2.length, m2 ++ [.cells xs 0 z]) := by
  have hnew : ∀ xs, aNew m xs = some (v, m') → m' = m ++ [.cells xs 0 1] ∧ v = pv none m.length ∧ ∀ m2 : List AO, aNew m2 xs = some (pv none m2.length, m2 ++ [.cells xs 0 1]) := by
    intro xs hx
    unfold aNew at hx ⊢
    split at hx
    · rename_i hif
      simp at hx; exact ⟨hx.2.symm, hx.1.symm, fun m2 => by rw [if_pos hif]; rfl⟩
    · simp at hx
  cases op <;> simp only [cls] at hc <;> try (simp at hc; done)
  case alloc e =>
    simp only [aop] at h ⊢
    split at h
    · rename_i i hi
      obtain ⟨h1, h2, h3⟩ := hnew _ h
      exact ⟨_, _, _, h1, h2, h3⟩
    · simp at h
  case box e x =>
    simp only [aop] at h ⊢
    obtain ⟨h1, h2, h3⟩ := hnew _ h
    exact ⟨_, _, _, h1, h2, h3⟩
  case buildSlice t n ps =>
    simp only [aop] at h ⊢
    unfold aBuildSlice at h ⊢
    split at h <;> try (simp at h; done)
    rename_i e sz by_ ze hi
    split at h <;> try (simp at h; done)
    rename_i i hie
    split at h <;> try (simp at h; done)
    rename_i hif
    split at h <;> try (simp at h; done)
    rename_i xs hx
    simp at h; obtain ⟨h1, h2⟩ := h
    refine ⟨xs, i.size, some n, h2.symm, h1.symm, fun m2 => ?_⟩
    rw [if_pos hif]; rfl
  case makeSlice t x y =>
    simp only [aop] at h ⊢
    unfold aMakeSlice at h ⊢
    split at h <;> try (simp at h; done)
    rename_i l c hx hy
    split at h <;> try (simp at h; done)
    rename_i e sz by_ ze hi
    split at h <;> try (simp at h; done)
    rename_i i hie
    split at h <;> try (simp at h; done)
    rename_i hif
    simp at h; obtain ⟨h1, h2⟩ := h
    refine ⟨_, _, some l.toNat, h2.symm, h1.symm, fun m2 => ?_⟩
    rw [if_pos hif]; rfl
  case convert s t x => split at hc <;> simp at hc
  case call c =>
    obtain ⟨cal, args, tys⟩ := c
    cases cal <;> try (simp at hc; done)
    rename_i b
    cases b <;> simp at hc

/-! What a new object refers to. -/
theorem scs_mem {L : Nat} : ∀ {xs : List AV}, (∀ x ∈ xs, x.sc L = true) → scs L xs = true
  | [], _ => by simp [scs]
  | x :: xs, h => by simp only [scs, Bool.and_eq_true]; exact ⟨h x (by simp), scs_mem fun y hy => h y (by simp [hy])⟩
theorem scs_get {L : Nat} : ∀ {xs : List AV}, scs L xs = true → ∀ x ∈ xs, x.sc L = true
  | [], _, x, hx => by simp at hx
  | y :: xs, h, x, hx => by
    simp only [scs, Bool.and_eq_true] at h
    rcases List.mem_cons.1 hx with rfl | hx
    · exact h.1
    · exact scs_get h.2 x hx
theorem scs_cs {L : Nat} {x : AV} (h : x.sc L = true) : scs L x.cs = true := by
  cases x <;> simp only [AV.cs] <;> first | (simp only [scs, Bool.and_true]; exact h) | (simp only [AV.sc] at h; exact h)
theorem scs_spl {L : Nat} : ∀ (ys xs : List AV) (o : Nat), scs L xs = true → scs L ys = true → scs L (spl xs o ys) = true
  | [], xs, o, h, _ => by simpa [spl] using h
  | y :: ys, xs, o, h, hy => by
    simp only [scs, Bool.and_eq_true] at hy
    simp only [spl]
    refine scs_spl ys _ _ (scs_mem fun x hx => ?_) hy.2
    rcases List.mem_or_eq_of_mem_set hx with hx | rfl
    · exact scs_get h x hx
    · exact hy.1
theorem scs_fill {L : Nat} {pl : Nat → Option (Nat × Nat)} : ∀ (ps : List (Nat × AV)) (xs ys : List AV), scs L xs = true → (∀ p ∈ ps, p.2.sc L = true) → fillA pl xs ps = some ys → scs L ys = true
  | [], xs, ys, h, _, hf => by simp [fillA] at hf; subst hf; exact h
  | (i, v) :: ps, xs, ys, h, hp, hf => by
    simp only [fillA] at hf
    split at hf
    · simp at hf
    · split at hf
      · refine scs_fill ps _ ys ?_ (fun p h' => hp p (by simp [h'])) hf
        rw [splice_eq]
        exact scs_spl _ _ _ h (scs_cs (hp (i, v) (by simp)))
      · simp at hf
theorem scs_zero {L : Nat} (z : List Value) : scs L (z.map AV.s) = true := scs_mem fun x hx => by obtain ⟨y, _, rfl⟩ := List.mem_map.1 hx; simp [AV.sc]
theorem scs_zrep {L n : Nat} {z : List AV} (h : scs L z = true) : scs L (zrep n z) = true := by
  refine scs_mem fun x hx => ?_
  simp only [zrep, List.mem_flatten, List.mem_replicate] at hx
  obtain ⟨l, ⟨_, rfl⟩, hx⟩ := hx
  exact scs_get h x hx

theorem push_sc (op : Op) (ev : Operand → AV) (m : List AO) (v : AV) (xs : List AV) (z : Nat) (hc : cls P op = .push) (hev : ∀ x, (ev x).sc m.length = true) (h : aop P op ev m = some (v, m ++ [.cells xs 0 z])) : scs m.length xs = true := by
  have hz : ∀ {t : TypeId} {i : TI}, mkTI P t = some i → scs m.length i.zero = true := by
    intro t i hi
    obtain ⟨ti, d, z, e1, e2, e3, rfl⟩ := mkTI_spec hi
    exact scs_zero _
  have hnew : ∀ ys, aNew m ys = some (v, m ++ [.cells xs 0 z]) → ys = xs := by
    intro ys hx
    unfold aNew at hx
    split at hx
    · simp at hx; exact hx.2.1
    · simp at hx
  cases op <;> simp only [cls] at hc <;> try (simp at hc; done)
  case alloc e =>
    simp only [aop] at h
    split at h
    · rename_i i hi
      rw [← hnew _ h]; exact hz hi
    · simp at h
  case box e x =>
    simp only [aop] at h
    rw [← hnew _ h]; exact scs_cs (hev x)
  case buildSlice t n ps =>
    simp only [aop] at h
    unfold aBuildSlice at h
    split at h <;> try (simp at h; done)
    split at h <;> try (simp at h; done)
    rename_i i hie
    split at h <;> try (simp at h; done)
    split at h <;> try (simp at h; done)
    rename_i ys hx
    simp at h
    rw [← h.2.1]
    refine scs_fill _ _ _ (scs_zrep (hz hie)) (fun p hp => ?_) hx
    obtain ⟨a, _, rfl⟩ := List.mem_map.1 hp
    exact hev _
  case makeSlice t x y =>
    simp only [aop] at h
    unfold aMakeSlice at h
    split at h <;> try (simp at h; done)
    split at h <;> try (simp at h; done)
    split at h <;> try (simp at h; done)
    rename_i i hie
    split at h <;> try (simp at h; done)
    simp at h
    rw [← h.2.1]; exact scs_zrep (hz hie)
  case convert s t x => split at hc <;> simp at hc
  case call c =>
    obtain ⟨cal, args, tys⟩ := c
    cases cal <;> try (simp at hc; done)
    rename_i b
    cases b <;> simp at hc
end

/-! Holes: places kept for objects to come. -/
section
variable {P : Program} {B0 : Nat} {w0 w : World} {ρ : List Place} {m : List AO}

def hole : Place := ⟨0, 0, 0, 0, -1⟩

theorem Sim.holes (h : Sim B0 w0 ρ m w) (k : Nat) : Sim B0 w0 (ρ ++ List.replicate k hole) (m ++ List.replicate k .dead) w := by
  have key : ∀ (i : Nat) (o : AO) (p : Place), (m ++ List.replicate k .dead)[i]? = some o → (ρ ++ List.replicate k hole)[i]? = some p → (m[i]? = some o ∧ ρ[i]? = some p) ∨ (o = .dead ∧ p = hole) := by
    intro i o p ho hp
    by_cases hi : i < m.length
    · rw [List.getElem?_append_left hi] at ho
      rw [List.getElem?_append_left (by rw [h.len]; exact hi)] at hp
      exact .inl ⟨ho, hp⟩
    · rw [List.getElem?_append_right (by omega)] at ho
      rw [List.getElem?_append_right (by rw [h.len]; omega)] at hp
      exact .inr ⟨List.eq_of_mem_replicate (List.mem_of_getElem? ho), List.eq_of_mem_replicate (List.mem_of_getElem? hp)⟩
  refine ⟨h.below, h.le, by simp [h.len], fun i o p ho hp => ?_, fun i j o o' p q ho ho' w1 w2 hij hp hq => ?_⟩
  · rcases key i o p ho hp with ⟨h1, h2⟩ | ⟨rfl, rfl⟩
    · exact (h.obj i o p h1 h2).ext (Ext.append _ _)
    · rfl
  · rcases key i o p ho hp with ⟨h1, h2⟩ | ⟨rfl, rfl⟩
    · rcases key j o' q ho' hq with ⟨h3, h4⟩ | ⟨rfl, rfl⟩
      · exact h.inj i j o o' p q h1 h3 w1 w2 hij h2 h4
      · simp [AO.isOwn] at w2
    · simp [AO.isOwn] at w1

/-- The last object put into a hole. -/
theorem Sim.fill {X : List AV} {z r : Nat} (h : Sim B0 w0 ρ (m ++ [.cells X 0 z]) w) (hr : m[r]? = some .dead) (hcl : Closed m) (hX : scs m.length X = true) :
    ∃ p, ρ[m.length]? = some p ∧ p.gen = 0 ∧ Ext (ρ.take m.length) ((ρ.take m.length).set r p) ∧ Sim B0 w0 ((ρ.take m.length).set r p) (m.set r (.cells X 0 z)) w := by
  have hl := h.len
  simp only [List.length_append, List.length_cons, List.length_nil] at hl
  have hrl := (List.getElem?_eq_some_iff.1 hr).1
  have ht := h.trunc hcl
  have hX1 : (m ++ [.cells X 0 z])[m.length]? = some (.cells X 0 z) := by simp
  obtain ⟨p, hp⟩ := h.place hX1
  have hor := h.obj _ _ _ hX1 hp
  obtain ⟨q, hq⟩ := ht.place hr
  have hqg : q.gen = -1 := ht.obj r _ q hr hq
  obtain ⟨a1, a2, a3, a4, cs, e, a5, a6, a7, a8⟩ := hor
  have hx : Ext (ρ.take m.length) ((ρ.take m.length).set r p) := Ext.bump hq (by rw [hqg, a3]; decide)
  refine ⟨p, hp, a3, hx, ht.below, ht.le, by simp; omega, fun i o p1 ho hp1 => ?_, fun i j o o' p1 q1 ho ho' w1 w2 hij hp1 hq1 => ?_⟩
  · by_cases hi : r = i
    · subst hi
      rw [List.getElem?_set_self hrl] at ho
      rw [List.getElem?_set_self (by simp; omega)] at hp1
      simp at ho hp1; subst ho; subst hp1
      exact ⟨a1, a2, a3, a4, cs, e, a5, a6, a7, VRs.ext hx _ _ (VRs.take _ _ _ a8 hX)⟩
    · rw [List.getElem?_set_ne hi] at ho hp1
      exact (ht.obj i o p1 ho hp1).ext hx
  · have key : ∀ (i : Nat) (o : AO) (p1 : Place), (m.set r (.cells X 0 z))[i]? = some o → ((ρ.take m.length).set r p)[i]? = some p1 → o.isOwn = true → ∃ i', (i' = if i = r then m.length else i) ∧ (m ++ [.cells X 0 z])[i']? = some o ∧ ρ[i']? = some p1 := by
      intro i o p1 ho hp1 w1
      by_cases hi : r = i
      · subst hi
        rw [List.getElem?_set_self hrl] at ho
        rw [List.getElem?_set_self (by simp; omega)] at hp1
        simp at ho hp1; subst ho; subst hp1
        exact ⟨_, rfl, by simp, by simpa using hp⟩
      · rw [List.getElem?_set_ne hi] at ho hp1
        have hil := (List.getElem?_eq_some_iff.1 ho).1
        rw [List.getElem?_take, if_pos hil] at hp1
        exact ⟨i, by rw [if_neg (fun e => hi e.symm)], by rw [List.getElem?_append_left hil]; exact ho, hp1⟩
    obtain ⟨i', e1, k1, k2⟩ := key i o p1 ho hp1 w1
    obtain ⟨j', e2, k3, k4⟩ := key j o' q1 ho' hq1 w2
    have hil := (List.getElem?_eq_some_iff.1 ho).1
    have hjl := (List.getElem?_eq_some_iff.1 ho').1
    simp at hil hjl
    refine h.inj i' j' o o' p1 q1 k1 k3 w1 w2 ?_ k2 k4
    rw [e1, e2]
    split <;> split <;> omega

/-- A new object, made in a hole. -/
theorem push_at (h : Sim B0 w0 ρ m w) {r : Nat} (hr : m[r]? = some .dead) {o : Oper} {ev : Operand → AV} {e : Operand → Value} (hev : ∀ x, VR ρ (ev x) (e x)) (hc : cls P o.op = .push) {X : List AV} {z : Nat} {q : Option Nat} (ha : aop P o.op ev m = some (pv q m.length, m ++ [.cells X 0 z])) :
    ∃ w' ρ' u, ((execOp e o).run P w = .ok (.value u) w' ∨ ((execOp e o).run P w = .ok .skip w' ∧ u = undef)) ∧ Sim B0 w0 ρ' (m.set r (.cells X 0 z)) w' ∧ Ext ρ ρ' ∧ VR ρ' (pv q r) u := by
  have hl := h.len
  have hrl := (List.getElem?_eq_some_iff.1 hr).1
  obtain ⟨w', ρ1, u, h1, h2, h3, h4⟩ := aop_sound h hev ha
  have hX := push_sc o.op ev m _ X z hc (fun x => by rw [← hl]; exact VR.sc _ _ (hev x)) ha
  obtain ⟨p, hp, hg, hx, hs⟩ := h2.fill hr h.closed hX
  refine ⟨w', _, u, h1, hs, (h3.take m.length (by omega)).trans hx, ?_⟩
  have hself : ((ρ1.take m.length).set r p)[r]? = some p := List.getElem?_set_self (by
    have := h2.len; simp at this; simp; omega)
  cases q with
  | none =>
    simp only [pv, VR] at h4 ⊢
    obtain ⟨p', hp', r1, r2, r3⟩ := h4
    rw [hp] at hp'; simp at hp'; subst hp'
    exact ⟨p, hself, r1, r2, r3⟩
  | some len =>
    simp only [pv, VR] at h4 ⊢
    obtain ⟨p', hp', r1, r2, r3⟩ := h4
    rw [hp] at hp'; simp at hp'; subst hp'
    exact ⟨p, hself, r1, r2, r3⟩

end
end Go.Proofs.Ytkpjaffbbppneaa

/- Regions that draw their order, with new objects in any order. -/
namespace Go.Proofs.Ytkpjaffbbppneaa
open Go Go.RowKit

def objNe (x y : AV) : Prop := ∀ a b, objOf x = some a → objOf y = some b → a ≠ b

def obT (op : Op) : Option Tmp := match obX op with
  | some (.tmp t) => some t
  | _ => none
def ot (P : Program) (o : Oper) : Option Tmp := match cls P o.op with
  | .shape | .read | .store => obT o.op
  | .push => o.dst
  | _ => none

def dsHas (ds : List (Tmp × Tmp)) : Option Tmp → Option Tmp → Bool
  | some a, some b => ds.contains (a, b) || ds.contains (b, a)
  | _, _ => false

def lookC : Cl → Bool
  | .shape | .read => true
  | _ => false
def memC : Cl → Bool
  | .shape | .read | .store | .push => true
  | _ => false
def sepFree : Cl → Cl → Bool
  | .shape, .store | .store, .shape | .push, .push => true
  | a, b => !memC a || !memC b || (lookC a && lookC b)
def sepOk (P : Program) (ds : List (Tmp × Tmp)) (x y : Oper) : Bool := sepFree (cls P x.op) (cls P y.op) || dsHas ds (ot P x) (ot P y)

def okC (P : Program) (o : Oper) : Bool := match cls P o.op with
  | .pure | .call => true
  | .shape | .read => (obT o.op).isSome
  | .store => (obT o.op).isSome && o.guard.isNone
  | .push => o.dst.isSome && o.guard.isNone
  | .other => false

def chk3 (P : Program) (ds : List (Tmp × Tmp)) (l : List Oper) : Bool :=
  let b := bmGo l []
  (l.zipIdx.all fun (o, i) => o.after.toList.all fun e => !bnd e || decide (e.on < i)) &&
  (l.all (okC P) &&
  ((l.zipIdx.all fun (x, i) => match ot P x with
    | none => true
    | some t => (l.drop (if cls P x.op = .push then i + 1 else i)).all fun y => y.dst != some t) &&
  (l.zipIdx.all fun (y, j) => (l.take j).zipIdx.all fun (x, i) => (b.getD j 0).testBit i || (!dataDep l.toArray x y && sepOk P ds x y))))

section
variable {P : Program} {ds : List (Tmp × Tmp)} {l : List Oper}

theorem chk3_edges (h : chk3 P ds l = true) : ∀ (i : Nat) (o : Oper), l[i]? = some o → ∀ e ∈ o.after.toList, bnd e = true → e.on < i := by
  intro i o ho e he hb
  simp only [chk3, Bool.and_eq_true, List.all_eq_true] at h
  have hm : (o, i) ∈ l.zipIdx := by
    rw [List.mem_iff_getElem?]; exact ⟨i, by simp [ho]⟩
  have := h.1 (o, i) hm e he
  simp [hb] at this; exact this
theorem chk3_ok (h : chk3 P ds l = true) {i : Nat} {o : Oper} (ho : l[i]? = some o) : okC P o = true := by
  simp only [chk3, Bool.and_eq_true, List.all_eq_true] at h
  exact h.2.1 o (List.mem_of_getElem? ho)
theorem chk3_once (h : chk3 P ds l = true) {i j : Nat} {x y : Oper} {t : Tmp} (hx : l[i]? = some x) (hy : l[j]? = some y) (ht : ot P x = some t) (hij : (if cls P x.op = .push then i + 1 else i) ≤ j) : y.dst ≠ some t := by
  simp only [chk3, Bool.and_eq_true, List.all_eq_true] at h
  have hm : (x, i) ∈ l.zipIdx := by
    rw [List.mem_iff_getElem?]; exact ⟨i, by simp [hx]⟩
  have h1 := h.2.2.1 (x, i) hm
  simp only [ht, List.all_eq_true] at h1
  have hd : y ∈ l.drop (if cls P x.op = .push then i + 1 else i) := by
    rw [List.mem_iff_getElem?]; exact ⟨j - (if cls P x.op = .push then i + 1 else i), by rw [List.getElem?_drop, Nat.add_sub_cancel' hij]; exact hy⟩
  simpa using h1 y hd
theorem chk3_pairs (h : chk3 P ds l = true) : ∀ (i j : Nat) (x y : Oper), i < j → l[i]? = some x → l[j]? = some y → ((bmGo l []).getD j 0).testBit i = true ∨ (dataDep l.toArray x y = false ∧ sepOk P ds x y = true) := by
  intro i j x y hij hx hy
  simp only [chk3, Bool.and_eq_true, List.all_eq_true] at h
  have hm : (y, j) ∈ l.zipIdx := by
    rw [List.mem_iff_getElem?]; exact ⟨j, by simp [hy]⟩
  have hm2 : (x, i) ∈ (l.take j).zipIdx := by
    rw [List.mem_iff_getElem?]; exact ⟨i, by simp [hx, hij]⟩
  have := h.2.2.2 (y, j) hm (x, i) hm2
  simp only [Bool.or_eq_true, Bool.and_eq_true, Bool.not_eq_true'] at this
  exact this
end

section
variable {P : Program} {N : Nat} {ds : List (Tmp × Tmp)} {K : Env → List AO → Prop} {l : List Oper} {E : Nat → Env} {M : Nat → List AO} {V : Nat → AV}

/-- An operation that may run now finds its operands as the order of the text gives them. -/
theorem slots_agree3 (hk : chk3 P ds l = true) (h : Dt P N [] true l.toArray K l E M V) (S : Nat → Bool) (hdc : DC l S) (i : Nat) (o : Oper) (ho : l[i]? = some o) (hi : S i = false) (hp : ∀ e ∈ o.after.toList, bnd e = true → S e.on = true)
    (t : Tmp) (ht : t ∈ o.looksAt l.toArray) : eS l E V S l.length t = E i t := by
  have hil := (List.getElem?_eq_some_iff.1 ho).1
  rw [← eS_before h i l.length (by omega) (by omega)]
  refine eS_congr _ _ t l.length fun j hj hd => ?_
  have hoj : l[j]? = some l[j] := List.getElem?_eq_getElem hj
  have hd' : l[j].dst = some t := by simpa [dOf, hoj] using hd
  by_cases hlt : j < i
  · have hr := chk3_pairs hk j i _ o hlt hoj ho
    rcases hr with hr | ⟨hr, _⟩
    · rw [reach_ready S hdc i o ho hp j hr]; simp [hlt]
    · simp [dataDep, hd', ht] at hr
  · by_cases hje : j = i
    · subst hje; simp [hi]
    · have hr := chk3_pairs hk i j o _ (by omega) ho hoj
      have hS : S j = false := by
        rcases hr with hr | ⟨hr, _⟩
        · cases hc : S j with
          | false => rfl
          | true => have := reach_in S hdc j _ hoj hc i hr; rw [hi] at this; simp at this
        · simp [dataDep, hd', ht] at hr
      rw [hS]; simp; omega

theorem env_next3 (hk : chk3 P ds l = true) (S S' : Nat → Bool) (hdc : DC l S) (i : Nat) (o : Oper) (ho : l[i]? = some o) (hi : S i = false) (hS : ∀ j, S' j = (S j || j == i)) :
    eS l E V S' l.length = putE (eS l E V S l.length) o.dst (V i) := by
  have hil := (List.getElem?_eq_some_iff.1 ho).1
  have hd : dOf l i = o.dst := by simp [dOf, ho]
  rw [← hd]
  refine eS_add S S' i l.length hil hS fun j t h1 h2 h3 h4 => ?_
  have hoj : l[j]? = some l[j] := List.getElem?_eq_getElem h2
  rw [hd] at h3
  have hd' : l[j].dst = some t := by simpa [dOf, hoj] using h4
  rcases chk3_pairs hk i j o _ h1 ho hoj with hr | ⟨hr, _⟩
  · cases hc : S j with
    | false => rfl
    | true => have := reach_in S hdc j _ hoj hc i hr; rw [hi] at this; simp at this
  · simp [dataDep, h3, hd'] at hr

/-! What each step does, in the order of the text. -/

def at' (m : List AO) (o : Nat) : AO := (m[o]?).getD .dead

theorem call_any {env : Env} {o : Oper} {m m' : List AO} {v : AV} (hc : cls P o.op = .call) (h : OpF P [] true env o m v m') : m' = m ∧ ∀ m2 : List AO, OpF P [] true env o m2 v m2 := by
  obtain ⟨d, op, t, pos, af, g⟩ := o
  obtain ⟨fv, args, tys, rfl⟩ := cls_call hc
  simp only [OpF] at h ⊢
  obtain ⟨f, caps, hf, h⟩ := h
  rw [if_neg (by simp)] at h
  refine ⟨h.1, fun m2 => ⟨f, caps, hf, ?_⟩⟩
  rw [if_neg (by simp)]
  exact ⟨trivial, h.2⟩

inductive Stp (P : Program) (E : Nat → Env) (M : Nat → List AO) (V : Nat → AV) (i : Nat) (o : Oper) : Prop
  | quiet (h : M (i + 1) = M i) (hc : cls P o.op = .pure ∨ cls P o.op = .call ∨ cls P o.op = .shape ∨ cls P o.op = .read)
  | store (t : Tmp) (a : Nat) (X : AO) (hc : cls P o.op = .store) (ht : obT o.op = some t) (ha : objOf (E i t) = some a) (hlt : a < (M i).length) (hm : M (i + 1) = (M i).set a X) (hs : ((M i)[a]?).map AO.shp = some X.shp)
  | push (d : Tmp) (xs : List AV) (z : Nat) (q : Option Nat) (hc : cls P o.op = .push) (hd : o.dst = some d) (hm : M (i + 1) = M i ++ [.cells xs 0 z]) (hv : V i = pv q (M i).length)

theorem obT_X {op : Op} {t : Tmp} (h : obT op = some t) : obX op = some (.tmp t) := by
  unfold obT at h
  split at h
  · rename_i t' e; simp at h; subst h; exact e
  · simp at h

theorem stp (hk : chk3 P ds l = true) (h : Dt P N [] true l.toArray K l E M V) {i : Nat} {o : Oper} (ho : l[i]? = some o) : Stp P E M V i o := by
  have hok := chk3_ok hk ho
  obtain ⟨b, hb, hf, ht, _⟩ := h.op i o ho
  unfold okC at hok
  have guard : o.guard.isNone = true → b = true := by
    intro hg
    unfold awant at hb
    cases hgg : o.guard with
    | none => rw [hgg] at hb; simpa using hb.symm
    | some x => rw [hgg] at hg; simp at hg
  have quiet : (cls P o.op = .pure ∨ cls P o.op = .call ∨ cls P o.op = .shape ∨ cls P o.op = .read) → Stp P E M V i o := by
    intro hc
    refine .quiet ?_ hc
    cases b with
    | false => exact (hf rfl).2
    | true =>
      refine (ht rfl).same ?_
      rcases hc with hc | hc | hc | hc <;> simp [isW, hc]
  cases hc : cls P o.op with
  | pure => exact quiet (.inl hc)
  | call => exact quiet (.inr (.inl hc))
  | shape => exact quiet (.inr (.inr (.inl hc)))
  | read => exact quiet (.inr (.inr (.inr hc)))
  | store =>
    simp only [hc, Bool.and_eq_true] at hok
    obtain ⟨t, hot⟩ := Option.isSome_iff_exists.1 hok.1
    have hop := ht (guard hok.2)
    rw [OpF.of_aop (by rw [hc]; simp)] at hop
    obtain ⟨ty, x, y, e⟩ := cls_store hc
    have hX := obT_X hot
    rw [e] at hop hX
    simp only [obX, Option.some.injEq] at hX
    subst hX
    obtain ⟨a, X, h1, h2, h3, h4, h5, h6⟩ := store_frame hop
    exact .store t a X hc hot h1 h2 h3 h4
  | push =>
    simp only [hc, Bool.and_eq_true] at hok
    obtain ⟨d, hd⟩ := Option.isSome_iff_exists.1 hok.1
    have hop := ht (guard hok.2)
    rw [OpF.of_aop (by rw [hc]; simp)] at hop
    obtain ⟨xs, z, q, h1, h2, h3⟩ := push_frame _ _ _ _ _ hc hop
    exact .push d xs z q hc hd h1 h2
  | other => simp [hc] at hok

/-- The object that a step changes. -/
def tg (P : Program) (l : List Oper) (E : Nat → Env) (M : Nat → List AO) (i : Nat) : Option Nat := match l[i]? with
  | none => none
  | some o => match cls P o.op with
    | .store => (obT o.op).bind fun t => objOf (E i t)
    | .push => some (M i).length
    | _ => none

theorem tg_of {i : Nat} {o : Oper} (ho : l[i]? = some o) : tg P l E M i = match cls P o.op with
    | .store => (obT o.op).bind fun t => objOf (E i t)
    | .push => some (M i).length
    | _ => none := by simp only [tg, ho]

theorem M_at (hk : chk3 P ds l = true) (h : Dt P N [] true l.toArray K l E M V) {i : Nat} (hi : i < l.length) {a : Nat} (ha : tg P l E M i ≠ some a) : at' (M (i + 1)) a = at' (M i) a := by
  have ho : l[i]? = some l[i] := List.getElem?_eq_getElem hi
  rw [tg_of ho] at ha
  cases stp hk h ho with
  | quiet h1 => rw [h1]
  | store t b X hc ht hb hlt hm hs =>
    rw [hc] at ha
    simp only [ht, Option.bind_some, hb, ne_eq, Option.some.injEq] at ha
    rw [hm, at', List.getElem?_set_ne ha, at']
  | push d xs z q hc hd hm hv =>
    rw [hc] at ha
    simp only [ne_eq, Option.some.injEq] at ha
    rw [hm, at', at']
    by_cases hlt : a < (M i).length
    · rw [List.getElem?_append_left hlt]
    · rw [List.getElem?_eq_none (by simp; omega), List.getElem?_eq_none (by omega)]

theorem M_len (hk : chk3 P ds l = true) (h : Dt P N [] true l.toArray K l E M V) {i : Nat} (hi : i < l.length) : (M i).length ≤ (M (i + 1)).length := by
  have ho : l[i]? = some l[i] := List.getElem?_eq_getElem hi
  cases stp hk h ho with
  | quiet h1 => rw [h1]; exact Nat.le_refl _
  | store t b X hc ht hb hlt hm hs => rw [hm]; simp
  | push d xs z q hc hd hm hv => rw [hm]; simp

theorem M_le (hk : chk3 P ds l = true) (h : Dt P N [] true l.toArray K l E M V) {i : Nat} : ∀ d, i + d ≤ l.length → (M i).length ≤ (M (i + d)).length
  | 0, _ => Nat.le_refl _
  | d + 1, hd => Nat.le_trans (M_le hk h d (by omega)) (M_len hk h (by omega))

theorem M_shp (hk : chk3 P ds l = true) (h : Dt P N [] true l.toArray K l E M V) {i : Nat} (hi : i < l.length) {a : Nat} (ha : a < (M i).length) : (at' (M (i + 1)) a).shp = (at' (M i) a).shp := by
  have ho : l[i]? = some l[i] := List.getElem?_eq_getElem hi
  cases stp hk h ho with
  | quiet h1 => rw [h1]
  | store t b X hc ht hb hlt hm hs =>
    rw [hm, at', at']
    by_cases e : b = a
    · subst e
      rw [List.getElem?_set_self hlt]
      rw [List.getElem?_eq_getElem hlt] at hs ⊢
      simp at hs; simp [hs]
    · rw [List.getElem?_set_ne e]
  | push d xs z q hc hd hm hv => rw [hm, at', at', List.getElem?_append_left ha]

theorem M_shps (hk : chk3 P ds l = true) (h : Dt P N [] true l.toArray K l E M V) {i a : Nat} (ha : a < (M i).length) : ∀ d, i + d ≤ l.length → (at' (M (i + d)) a).shp = (at' (M i) a).shp
  | 0, _ => rfl
  | d + 1, hd => by
    have := M_le hk h d (show i + d ≤ l.length by omega)
    have e := M_shp hk h (i := i + d) (by omega) (a := a) (by omega)
    rw [← M_shps hk h ha d (by omega), ← e]; rfl

/-- The objects when some steps have run: each as its last step left it. -/
def cS (P : Program) (l : List Oper) (E : Nat → Env) (M : Nat → List AO) (S : Nat → Bool) : Nat → Nat → AO
  | 0, a => at' (M 0) a
  | k + 1, a => if S k = true ∧ tg P l E M k = some a then at' (M (k + 1)) a else cS P l E M S k a

theorem cS_congr (S S' : Nat → Bool) (a : Nat) : ∀ k, (∀ j, j < k → tg P l E M j = some a → S j = S' j) → cS P l E M S k a = cS P l E M S' k a
  | 0, _ => rfl
  | k + 1, h => by
    have ih := cS_congr S S' a k fun j hj => h j (by omega)
    simp only [cS]
    by_cases hd : tg P l E M k = some a
    · rw [h k (by omega) hd, ih]
    · rw [if_neg (fun e => hd e.2), if_neg (fun e => hd e.2), ih]

theorem cS_before (hk : chk3 P ds l = true) (h : Dt P N [] true l.toArray K l E M V) (a i : Nat) : ∀ k, i ≤ k → k ≤ l.length → cS P l E M (fun j => decide (j < i)) k a = at' (M i) a
  | 0, hi, _ => by
    have : i = 0 := by omega
    subst this; rfl
  | k + 1, hi, hkl => by
    by_cases he : i = k + 1
    · subst he
      have all : ∀ n, n ≤ k + 1 → cS P l E M (fun j => decide (j < k + 1)) n a = at' (M n) a := by
        intro n
        induction n with
        | zero => intro _; rfl
        | succ n ih =>
          intro hn
          simp only [cS]
          by_cases ht : tg P l E M n = some a
          · rw [if_pos ⟨by simp; omega, ht⟩]
          · rw [if_neg (fun e => ht e.2), ih (by omega)]
            exact (M_at hk h (by omega) ht).symm
      exact all (k + 1) (Nat.le_refl _)
    · simp only [cS]
      rw [if_neg (by simp; omega)]
      exact cS_before hk h a i k (by omega) (by omega)

/-- An object that is there has its shape. -/
theorem cS_shp (hk : chk3 P ds l = true) (h : Dt P N [] true l.toArray K l E M V) (S : Nat → Bool) (a : Nat) : ∀ k, k ≤ l.length → (∀ p o, p < k → l[p]? = some o → cls P o.op = .push → (M p).length = a → S p = true) → (cS P l E M S k a).shp = (at' (M k) a).shp
  | 0, _, _ => rfl
  | k + 1, hkl, hp => by
    have ho : l[k]? = some l[k] := List.getElem?_eq_getElem (by omega)
    have ih := cS_shp hk h S a k (by omega) fun p o hpk => hp p o (by omega)
    simp only [cS]
    split
    · rfl
    · rename_i hn
      rw [ih]
      by_cases ht : tg P l E M k = some a
      · have hS : ¬ S k = true := fun e => hn ⟨e, ht⟩
        rw [tg_of ho] at ht
        cases stp hk h ho with
        | quiet h1 hc => rcases hc with hc | hc | hc | hc <;> rw [hc] at ht <;> simp at ht
        | store t b X hc hot hb hlt hm hs =>
          rw [hc] at ht
          simp only [hot, Option.bind_some, hb, Option.some.injEq] at ht
          subst ht
          exact (M_shp hk h (by omega) hlt).symm
        | push d xs z q hc hd hm hv =>
          rw [hc] at ht
          simp only [Option.some.injEq] at ht
          exact absurd (hp k _ (by omega) ho hc ht) hS
      · rw [M_at hk h (by omega) ht]

end
end Go.Proofs.Ytkpjaffbbppneaa

/- Regions that draw their order, with new objects in any order: the theorem. -/
namespace Go.Proofs.Ytkpjaffbbppneaa
open Go Go.RowKit

section
variable {P : Program} {N : Nat} {ds : List (Tmp × Tmp)} {K : Env → List AO → Prop} {l : List Oper} {E : Nat → Env} {M : Nat → List AO} {V : Nat → AV}

/-- The object that a step comes to. -/
def oo (P : Program) (E : Nat → Env) (M : Nat → List AO) (i : Nat) (o : Oper) : Option Nat := match cls P o.op with
  | .shape | .read | .store => (obT o.op).bind fun t => objOf (E i t)
  | .push => some (M i).length
  | _ => none

theorem E_stay (h : Dt P N [] true l.toArray K l E M V) (i : Nat) (t : Tmp) (hs : ∀ j y, i ≤ j → l[j]? = some y → y.dst ≠ some t) : ∀ d, i + d ≤ l.length → E (i + d) t = E i t
  | 0, _ => rfl
  | d + 1, hd => by
    have ho : l[i + d]? = some l[i + d] := List.getElem?_eq_getElem (by omega)
    obtain ⟨b, _, _, _, _, he⟩ := h.op (i + d) _ ho
    show E (i + d + 1) t = E i t
    rw [he, putE_at, if_neg (hs _ _ (by omega) ho)]
    exact E_stay h i t hs d (by omega)

theorem end_obj (hk : chk3 P ds l = true) (h : Dt P N [] true l.toArray K l E M V) {i : Nat} {o : Oper} {t : Tmp} (ho : l[i]? = some o) (ht : ot P o = some t) : objOf (E l.length t) = oo P E M i o := by
  have hi := (List.getElem?_eq_some_iff.1 ho).1
  have once := fun j y (hij : (if cls P o.op = .push then i + 1 else i) ≤ j) (hy : l[j]? = some y) => chk3_once hk ho hy ht hij
  have look : cls P o.op ≠ .push → E l.length t = E i t := by
    intro hc
    rw [if_neg hc] at once
    have := E_stay h i t once (l.length - i) (by omega)
    rwa [show i + (l.length - i) = l.length by omega] at this
  unfold ot at ht
  unfold oo
  cases hc : cls P o.op with
  | pure => simp [hc] at ht
  | call => simp [hc] at ht
  | other => simp [hc] at ht
  | shape => rw [hc] at ht; simp only at ht; rw [look (by rw [hc]; simp), ht]; rfl
  | read => rw [hc] at ht; simp only at ht; rw [look (by rw [hc]; simp), ht]; rfl
  | store => rw [hc] at ht; simp only at ht; rw [look (by rw [hc]; simp), ht]; rfl
  | push =>
    rw [hc] at ht
    simp only at ht
    rw [hc, if_pos rfl] at once
    have h1 := E_stay h (i + 1) t once (l.length - (i + 1)) (by omega)
    rw [show i + 1 + (l.length - (i + 1)) = l.length by omega] at h1
    obtain ⟨b, _, _, _, _, he⟩ := h.op i _ ho
    rw [h1, he, putE_at, if_pos ht]
    cases stp hk h ho with
    | quiet h1 h2 => rcases h2 with h2 | h2 | h2 | h2 <;> rw [hc] at h2 <;> simp at h2
    | store t b X hc2 => rw [hc] at hc2; simp at hc2
    | push d xs z q hc2 hd hm hv => rw [hv, objOf_pv]

theorem conflict (hk : chk3 P ds l = true) (h : Dt P N [] true l.toArray K l E M V) (hsep : ∀ p ∈ ds, objNe (E l.length p.1) (E l.length p.2)) {i j a : Nat} {x y : Oper} (hij : i < j) (hx : l[i]? = some x) (hy : l[j]? = some y)
    (hf : sepFree (cls P x.op) (cls P y.op) = false) (ha : oo P E M i x = some a) (hb : oo P E M j y = some a) : ((bmGo l []).getD j 0).testBit i = true := by
  rcases chk3_pairs hk i j x y hij hx hy with hr | ⟨_, hr⟩
  · exact hr
  · exfalso
    simp only [sepOk, hf, Bool.false_or] at hr
    unfold dsHas at hr
    split at hr
    · rename_i s t hs ht
      have e1 := end_obj hk h hx hs
      have e2 := end_obj hk h hy ht
      rw [ha] at e1; rw [hb] at e2
      simp only [Bool.or_eq_true, List.contains_iff_mem] at hr
      rcases hr with hr | hr
      · exact hsep _ hr a a e1 e2 rfl
      · exact hsep _ hr a a e2 e1 rfl
    · simp at hr

theorem tg_oo {j a : Nat} {y : Oper} (hy : l[j]? = some y) (ht : tg P l E M j = some a) : (cls P y.op = .store ∨ cls P y.op = .push) ∧ oo P E M j y = some a := by
  rw [tg_of hy] at ht
  unfold oo
  cases hc : cls P y.op <;> rw [hc] at ht <;> simp at ht
  · exact ⟨.inr rfl, by simp [ht]⟩
  · exact ⟨.inl rfl, by simpa using ht⟩

theorem M_lt_push (hk : chk3 P ds l = true) (h : Dt P N [] true l.toArray K l E M V) {i j : Nat} {o : Oper} (ho : l[i]? = some o) (hc : cls P o.op = .push) (hij : i < j) (hj : j ≤ l.length) : (M i).length < (M j).length := by
  have h1 := M_le hk h (i := i + 1) (j - (i + 1)) (by omega)
  rw [show i + 1 + (j - (i + 1)) = j by omega] at h1
  cases stp hk h ho with
  | quiet h1 h2 => rcases h2 with h2 | h2 | h2 | h2 <;> rw [hc] at h2 <;> simp at h2
  | store t b X hc2 => rw [hc] at hc2; simp at hc2
  | push d xs z q hc2 hd hm hv => rw [hm] at h1; simp at h1; omega

theorem M_lt_store (hk : chk3 P ds l = true) (h : Dt P N [] true l.toArray K l E M V) {i a : Nat} {o : Oper} (ho : l[i]? = some o) (hc : cls P o.op = .store) (ha : oo P E M i o = some a) : a < (M i).length := by
  cases stp hk h ho with
  | quiet h1 h2 => rcases h2 with h2 | h2 | h2 | h2 <;> rw [hc] at h2 <;> simp at h2
  | store t b X hc2 hot hb hlt hm hs =>
    unfold oo at ha
    rw [hc] at ha
    simp only [hot, Option.bind_some, hb, Option.some.injEq] at ha
    omega
  | push d xs z q hc2 => rw [hc] at hc2; simp at hc2

/-- Which of the steps that change an object have run when one that comes to it may run. -/
theorem before3 (hk : chk3 P ds l = true) (h : Dt P N [] true l.toArray K l E M V) (hsep : ∀ p ∈ ds, objNe (E l.length p.1) (E l.length p.2)) (S : Nat → Bool) (hdc : DC l S) {i a : Nat} {o : Oper} (ho : l[i]? = some o) (hi : S i = false)
    (hp : ∀ e ∈ o.after.toList, bnd e = true → S e.on = true) (hc : cls P o.op = .read ∨ cls P o.op = .store ∨ cls P o.op = .push) (ha : oo P E M i o = some a) {j : Nat} (hj : j < l.length) (ht : tg P l E M j = some a) : S j = true ↔ j < i := by
  have hy : l[j]? = some l[j] := List.getElem?_eq_getElem hj
  have hil := (List.getElem?_eq_some_iff.1 ho).1
  obtain ⟨hcy, hb⟩ := tg_oo hy ht
  have pp : cls P o.op = .push → cls P l[j].op = .push → j = i := by
    intro h1 h2
    simp only [oo, h1, Option.some.injEq] at ha
    simp only [oo, h2, Option.some.injEq] at hb
    rcases Nat.lt_trichotomy j i with hlt | e | hlt
    · have := M_lt_push hk h hy h2 hlt (by omega); omega
    · exact e
    · have := M_lt_push hk h ho h1 hlt (by omega); omega
  constructor
  · intro hS
    rcases Nat.lt_trichotomy j i with hlt | e | hlt
    · exact hlt
    · subst e; rw [hi] at hS; simp at hS
    · exfalso
      have hf : sepFree (cls P o.op) (cls P l[j].op) = false ∨ (cls P o.op = .push ∧ cls P l[j].op = .push) := by
        rcases hc with hc | hc | hc <;> rcases hcy with hcy | hcy <;> rw [hc, hcy] <;> simp [sepFree, memC, lookC]
      rcases hf with hf | ⟨h1, h2⟩
      · have := reach_in S hdc j _ hy hS i (conflict hk h hsep hlt ho hy hf ha hb)
        rw [hi] at this; simp at this
      · have := pp h1 h2; omega
  · intro hlt
    have hf : sepFree (cls P l[j].op) (cls P o.op) = false ∨ (cls P o.op = .push ∧ cls P l[j].op = .push) := by
      rcases hc with hc | hc | hc <;> rcases hcy with hcy | hcy <;> rw [hc, hcy] <;> simp [sepFree, memC, lookC]
    rcases hf with hf | ⟨h1, h2⟩
    · exact reach_ready S hdc i o ho hp j (conflict hk h hsep hlt hy ho hf hb ha)
    · have := pp h1 h2; omega

def memS (P : Program) (l : List Oper) (E : Nat → Env) (M : Nat → List AO) (S : Nat → Bool) : List AO := (List.range (M l.length).length).map (cS P l E M S l.length)

theorem memS_len (S : Nat → Bool) : (memS P l E M S).length = (M l.length).length := by simp [memS]
theorem memS_at (S : Nat → Bool) {a : Nat} (ha : a < (M l.length).length) : (memS P l E M S)[a]? = some (cS P l E M S l.length a) := by simp [memS, ha]
theorem at_get {m : List AO} {a : Nat} (ha : a < m.length) : m[a]? = some (at' m a) := by simp [at', ha]

theorem memS_upd (hk : chk3 P ds l = true) (h : Dt P N [] true l.toArray K l E M V) (S S' : Nat → Bool) {i a : Nat} (hil : i < l.length) (hS : ∀ j, S' j = (S j || j == i)) (ht : tg P l E M i = some a) (hb : ∀ j, j < l.length → tg P l E M j = some a → (S j = true ↔ j < i)) :
    memS P l E M S' = (memS P l E M S).set a (at' (M (i + 1)) a) := by
  apply List.ext_getElem?
  intro a'
  by_cases hlt : a' < (M l.length).length
  · rw [memS_at S' hlt]
    by_cases e : a = a'
    · subst e
      rw [List.getElem?_set_self (by rw [memS_len]; exact hlt)]
      congr 1
      rw [← cS_before hk h a (i + 1) l.length (by omega) (Nat.le_refl _)]
      refine cS_congr _ _ a l.length fun j hj htj => ?_
      rw [hS]
      have hbj := hb j hj htj
      by_cases hji : j = i
      · subst hji; simp
      · by_cases hSj : S j = true
        · have h1 := hbj.1 hSj
          rw [hSj]; simp; omega
        · have h1 : ¬ j < i := fun hlt => hSj (hbj.2 hlt)
          have h2 : S j = false := by simpa using hSj
          have h3 : (j == i) = false := by simpa using hji
          have h4 : decide (j < i + 1) = false := by simp; omega
          rw [h2, h3, h4]; rfl
    · rw [List.getElem?_set_ne e, memS_at S hlt]
      congr 1
      refine cS_congr _ _ a' l.length fun j hj htj => ?_
      rw [hS]
      have : j ≠ i := by
        intro hji; subst hji; rw [ht] at htj; simp at htj; exact e htj
      simp [this]
  · rw [List.getElem?_eq_none (by rw [memS_len]; omega), List.getElem?_eq_none (by rw [List.length_set, memS_len]; omega)]

theorem memS_same (S S' : Nat → Bool) {i : Nat} (hS : ∀ j, S' j = (S j || j == i)) (ht : tg P l E M i = none) : memS P l E M S' = memS P l E M S := by
  simp only [memS]
  refine List.map_congr_left fun a _ => cS_congr _ _ a l.length fun j hj htj => ?_
  rw [hS]
  have : j ≠ i := by intro hji; subst hji; rw [ht] at htj; simp at htj
  simp [this]

theorem memS_none (hk : chk3 P ds l = true) (h : Dt P N [] true l.toArray K l E M V) (S : Nat → Bool) (hS : ∀ j, S j = false) : memS P l E M S = M 0 ++ List.replicate ((M l.length).length - (M 0).length) .dead := by
  have hle := M_le hk h (i := 0) l.length (by omega)
  rw [Nat.zero_add] at hle
  apply List.ext_getElem?
  intro a
  by_cases hlt : a < (M l.length).length
  · rw [memS_at S hlt, cS_congr S (fun j => decide (j < 0)) a l.length (fun j hj _ => by simp [hS]), cS_before hk h a 0 l.length (by omega) (Nat.le_refl _)]
    by_cases h0 : a < (M 0).length
    · rw [List.getElem?_append_left h0, at_get h0]
    · rw [List.getElem?_append_right (by omega), List.getElem?_replicate, if_pos (by omega), at', List.getElem?_eq_none (by omega)]; rfl
  · rw [List.getElem?_eq_none (by rw [memS_len]; omega), List.getElem?_eq_none (by simp; omega)]

theorem memS_all (hk : chk3 P ds l = true) (h : Dt P N [] true l.toArray K l E M V) (S : Nat → Bool) (hS : ∀ j, j < l.length → S j = true) : memS P l E M S = M l.length := by
  apply List.ext_getElem?
  intro a
  by_cases hlt : a < (M l.length).length
  · rw [memS_at S hlt, cS_congr S (fun j => decide (j < l.length)) a l.length (fun j hj _ => by simp [hS j hj, hj]), cS_before hk h a l.length l.length (Nat.le_refl _) (Nat.le_refl _), at_get hlt]
  · rw [List.getElem?_eq_none (by rw [memS_len]; omega), List.getElem?_eq_none (by omega)]

end
end Go.Proofs.Ytkpjaffbbppneaa

/- Regions that draw their order, with new objects in any order: the theorem's last part. -/
namespace Go.Proofs.Ytkpjaffbbppneaa
open Go Go.RowKit

section
variable {P : Program} {N : Nat} {ds : List (Tmp × Tmp)} {K : Env → List AO → Prop} {l : List Oper} {E : Nat → Env} {M : Nat → List AO} {V : Nat → AV}

theorem looksAt_operand {o : Oper} {t : Tmp} (h : Operand.tmp t ∈ o.op.operands) : t ∈ o.looksAt l.toArray := by
  simp only [Oper.looksAt, List.mem_append, List.mem_filterMap]
  exact .inl ⟨.tmp t, by simpa using h, rfl⟩

/-- A quiet step does the same where the objects that it comes to are the same. -/
theorem quiet_step (hk : chk3 P ds l = true) (h : Dt P N [] true l.toArray K l E M V) (hsep : ∀ p ∈ ds, objNe (E l.length p.1) (E l.length p.2)) (S : Nat → Bool) (hdc : DC l S) {i : Nat} {o : Oper} (ho : l[i]? = some o) (hi : S i = false)
    (hp : ∀ e ∈ o.after.toList, bnd e = true → S e.on = true) (hc : cls P o.op = .pure ∨ cls P o.op = .call ∨ cls P o.op = .shape ∨ cls P o.op = .read) (hop : OpF P [] true (E i) o (M i) (V i) (M i)) : OpF P [] true (E i) o (memS P l E M S) (V i) (memS P l E M S) := by
  have hil := (List.getElem?_eq_some_iff.1 ho).1
  have hle := M_le hk h (i := i) (l.length - i) (by omega)
  rw [show i + (l.length - i) = l.length by omega] at hle
  rcases hc with hc | hc | hc | hc
  · rw [OpF.of_aop (by rw [hc]; simp)] at hop ⊢
    exact aop_pure _ _ _ _ _ hc hop
  · exact (call_any hc hop).2 _
  · rw [OpF.of_aop (by rw [hc]; simp)] at hop ⊢
    have hok := chk3_ok hk ho
    simp only [okC, hc] at hok
    obtain ⟨t, ht⟩ := Option.isSome_iff_exists.1 hok
    have hX := obT_X ht
    have shp : ∀ a, objOf (E i t) = some a → a < (M i).length → ((M i)[a]?).map AO.shp = ((memS P l E M S)[a]?).map AO.shp := by
      intro a ha hlt
      have hoo : oo P E M i o = some a := by simp only [oo, hc, ht, Option.bind_some, ha]
      rw [memS_at S (by omega), at_get hlt]
      simp only [Option.map_some, Option.some.injEq]
      rw [cS_shp hk h S a l.length (Nat.le_refl _) fun p o' hp' ho' hc' hl => ?_]
      · have := M_shps hk h hlt (l.length - i) (by omega)
        rw [show i + (l.length - i) = l.length by omega] at this
        exact this.symm
      · have hoo' : oo P E M p o' = some a := by simp only [oo, hc', hl]
        rcases Nat.lt_trichotomy p i with hlt2 | e | hlt2
        · exact reach_ready S hdc i o ho hp p (conflict hk h hsep hlt2 ho' ho (by rw [hc, hc']; rfl) hoo' hoo)
        · subst e; rw [ho] at ho'; simp at ho'; subst ho'; rw [hc] at hc'; simp at hc'
        · have := M_le hk h (i := i) (p - i) (by omega)
          rw [show i + (p - i) = p by omega] at this
          omega
    have inb : ∀ a g xs, content (M i) a g = some xs → a < (M i).length := by
      intro a g xs hx
      unfold content at hx
      cases h1 : (M i)[a]? with
      | none => simp [h1] at hx
      | some o => exact (List.getElem?_eq_some_iff.1 h1).1
    refine shape_step _ _ _ _ _ hc (fun x hx a g xs ha hcont => ?_) (fun x hx a g xs ha hcont => ?_) hop
    · rw [hX] at hx; simp at hx; subst hx
      exact content_shp1 (shp a ha (inb a g xs hcont)) hcont
    · rw [hX] at hx; simp at hx; subst hx
      exact (rowz_shp1 (shp a ha (inb a g xs hcont))).symm
  · rw [OpF.of_aop (by rw [hc]; simp)] at hop ⊢
    have hok := chk3_ok hk ho
    simp only [okC, hc] at hok
    obtain ⟨t, ht⟩ := Option.isSome_iff_exists.1 hok
    have hX := obT_X ht
    refine read_frame _ _ _ _ _ hc (fun x hx a ha g => ?_) hop
    rw [hX] at hx; simp at hx; subst hx
    have hoo : oo P E M i o = some a := by
      simp only [oo, hc, ht, Option.bind_some]; exact ha
    have e1 : cS P l E M S l.length a = at' (M i) a := by
      rw [← cS_before hk h a i l.length (by omega) (Nat.le_refl _)]
      refine cS_congr _ _ a l.length fun j hj htj => ?_
      have := before3 hk h hsep S hdc ho hi hp (.inl hc) hoo hj htj
      cases hSj : S j <;> simp [hSj] at this ⊢ <;> omega
    by_cases hlt : a < (M i).length
    · simp only [content, memS_at S (show a < (M l.length).length by omega), e1, at_get hlt]
    · have e2 : content (M i) a g = none := by simp only [content, List.getElem?_eq_none (show (M i).length ≤ a by omega)]
      rw [e2]
      by_cases hlt2 : a < (M l.length).length
      · simp only [content, memS_at S hlt2, e1, at', List.getElem?_eq_none (show (M i).length ≤ a by omega), Option.getD_none]
      · simp only [content, List.getElem?_eq_none (show (memS P l E M S).length ≤ a by rw [memS_len]; omega)]

theorem any_sound3 (hk : chk3 P ds l = true) (h : Dt P N [] true l.toArray K l E M V) (hsep : ∀ p ∈ ds, objNe (E l.length p.1) (E l.length p.2)) {B0 : Nat} {w0 : World} {ρe : List Place} {Q : Exit → Act → World → Prop} (hQ : ∀ env m a w, St N B0 w0 ρe env m a w → K env m → Q .normal a w) :
    ∀ (fuel : Nat) (listed : Array Bool) (a : Act) (w : World), listed.size = l.length → ((List.range l.length).filter fun i => !listed.getD i false).length ≤ fuel → DC l (fun i => listed.getD i false) →
      St N B0 w0 ρe (eS l E V (fun i => listed.getD i false) l.length) (memS P l E M (fun i => listed.getD i false)) a w → wpAny P .any l.toArray Q fuel listed a w := by
  have done : ∀ (listed : Array Bool) (a : Act) (w : World), (∀ i, i < l.length → listed.getD i false = true) → St N B0 w0 ρe (eS l E V (fun i => listed.getD i false) l.length) (memS P l E M (fun i => listed.getD i false)) a w → Q .normal a w := by
    intro listed a w hall hst
    rw [eS_all h _ l.length (Nat.le_refl _) hall, memS_all hk h _ hall] at hst
    exact hQ _ _ a w hst h.fin
  have notready : ∀ (listed : Array Bool), listed.size = l.length → Region.ready .any l.toArray listed = [] → ∀ i, i < l.length → listed.getD i false = true := by
    intro listed hsz hr i
    induction i using Nat.strongRecOn with
    | _ i ih =>
      intro hi
      cases hc : listed.getD i false with
      | true => rfl
      | false =>
        exfalso
        have ho : l[i]? = some l[i] := List.getElem?_eq_getElem hi
        have hm : i ∈ Region.ready .any l.toArray listed := by
          rw [mem_ready]
          refine ⟨?_, l[i], by simp, fun e he hb => ?_⟩
          · rw [Array.getD_eq_getD_getElem?] at hc ⊢
            rw [Array.getElem?_eq_getElem (by omega)] at hc ⊢
            simpa using hc
          · have hlt := chk3_edges hk i _ ho e (by simpa using he) hb
            exact ih e.on hlt (by omega)
        rw [hr] at hm; simp at hm
  intro fuel
  induction fuel with
  | zero =>
    intro listed a w hsz hcnt hdc hst
    have hall : ∀ i, i < l.length → listed.getD i false = true := by
      intro i hi
      have he := List.eq_nil_of_length_eq_zero (Nat.le_zero.1 hcnt)
      rw [List.filter_eq_nil_iff] at he
      have := he i (List.mem_range.2 hi)
      simpa using this
    refine ⟨?_, done listed a w hall hst⟩
    apply List.eq_nil_iff_forall_not_mem.2
    intro i hm
    rw [mem_ready] at hm
    obtain ⟨h1, o, ho, _⟩ := hm
    have hi : i < l.length := by
      have := (List.getElem?_eq_some_iff.1 (show l[i]? = some o by simpa using ho)).1; exact this
    have h2 := hall i hi
    rw [Array.getD_eq_getD_getElem?, Array.getElem?_eq_getElem (by omega)] at h1 h2
    simp at h1 h2; rw [h1] at h2; simp at h2
  | succ fuel ih =>
    intro listed a w hsz hcnt hdc hst
    refine ⟨fun hr => done listed a w (notready listed hsz hr) hst, fun i hm => ?_⟩
    rw [mem_ready] at hm
    obtain ⟨h1, o, ho', hp'⟩ := hm
    have ho : l[i]? = some o := by simpa using ho'
    have hil := (List.getElem?_eq_some_iff.1 ho).1
    have hi : listed.getD i false = false := by
      rw [Array.getD_eq_getD_getElem?, Array.getElem?_eq_getElem (by omega)] at h1 ⊢
      simpa using h1
    have hp : ∀ e ∈ o.after.toList, bnd e = true → listed.getD e.on false = true := fun e he hb => hp' e (by simpa using he) hb
    have hS : ∀ j, (listed.setIfInBounds i true).getD j false = (listed.getD j false || j == i) := by
      intro j
      rw [Array.getD_eq_getD_getElem?, Array.getD_eq_getD_getElem?]
      by_cases hji : j = i
      · subst hji; simp [hsz, hil]
      · rw [Array.getElem?_setIfInBounds_ne (fun e => hji e.symm)]; simp [hji]
    have hdc' : DC l (fun j => (listed.setIfInBounds i true).getD j false) := by
      intro j oj hoj hj e he hb
      simp only [hS, Bool.or_eq_true, beq_iff_eq] at hj ⊢
      rcases hj with hj | hj
      · exact .inl (hdc j oj hoj hj e he hb)
      · subst hj; rw [ho] at hoj; simp at hoj; subst hoj
        exact .inl (hp e he hb)
    have hcnt' : ((List.range l.length).filter fun j => !(listed.setIfInBounds i true).getD j false).length ≤ fuel := by
      have := countP_lt (p := fun j => !listed.getD j false) (p' := fun j => !(listed.setIfInBounds i true).getD j false) (List.range l.length) i (List.mem_range.2 hil) (by simp [hi]) (by simp only [hS]; simp) (fun y hy => by simp only [hS] at hy; simp at hy ⊢; exact hy.1)
      omega
    have henv := env_next3 (E := E) (V := V) hk (fun i => listed.getD i false) (fun j => (listed.setIfInBounds i true).getD j false) hdc i o ho hi hS
    obtain ⟨b, hb, hf, ht, hd, _⟩ := h.op i o ho
    have hagree := slots_agree3 hk h (fun i => listed.getD i false) hdc i o ho hi hp
    have hwant : awant l.toArray (eS l E V (fun i => listed.getD i false) l.length) o = some b := by
      rw [← hb]
      unfold awant
      cases hg : o.guard with
      | none => rfl
      | some jw =>
        obtain ⟨j, want⟩ := jw
        simp only
        cases hdj : (l.toArray[j]?).bind (·.dst) with
        | none => rfl
        | some d =>
          simp only
          rw [hagree d (by simp only [Oper.looksAt, hg, hdj]; simp)]
    have heq : ∀ x ∈ o.op.operands, aev (eS l E V (fun i => listed.getD i false) l.length) x = aev (E i) x := by
      intro x hx
      cases x with
      | tmp t => exact hagree t (looksAt_operand hx)
      | _ => rfl
    have next : ∀ (m' : List AO) (ρ : List Place) (u : Value) (w' : World), Sim B0 w0 ρ m' w' → ER ρ (eS l E V (fun i => listed.getD i false) l.length) a.tmps → Ext ρe ρ → VR ρ (V i) u →
        m' = memS P l E M (fun j => (listed.setIfInBounds i true).getD j false) → wpAny P .any l.toArray Q fuel (listed.setIfInBounds i true) (a.put o.dst u) w' := by
      intro m' ρ u w' hs he hx hv hm
      refine ih _ _ _ (by simp [hsz]) hcnt' hdc' ?_
      rw [henv, ← hm]
      have hput : aput N (eS l E V (fun i => listed.getD i false) l.length) o.dst (V i) (fun env' => env' = putE (eS l E V (fun i => listed.getD i false) l.length) o.dst (V i)) := by
        unfold aput
        cases hdo : o.dst with
        | none => simp [putE]
        | some d => simp only; exact ⟨hd d hdo, rfl⟩
      obtain ⟨env', h6, h7⟩ := hst.put hs he hx hv hput
      rw [← h7]; exact h6
    obtain ⟨⟨ρ, hs, he, hx⟩, hsz', hdf⟩ := id hst
    unfold wpOp
    rw [show l.toArray[i]? = some o by simpa using ho]
    simp only
    rw [awant_sound he hwant]
    cases stp hk h ho with
    | quiet hm hc =>
      have htg : tg P l E M i = none := by
        rw [tg_of ho]
        rcases hc with hc | hc | hc | hc <;> rw [hc]
      have hsame := memS_same (P := P) (E := E) (M := M) (fun i => listed.getD i false) (fun j => (listed.setIfInBounds i true).getD j false) hS htg
      cases b with
      | true =>
        rw [if_pos rfl]
        have hop1 := ht rfl
        rw [hm] at hop1
        have hop := (quiet_step hk h hsep (fun i => listed.getD i false) hdc ho hi hp hc hop1).congr heq
        refine .inl (astep_sound hst hop.astep fun v m' ρ u w' g1 g2 g3 g4 g5 => ?_)
        obtain ⟨rfl, rfl⟩ := g5
        exact next _ ρ u w' g1 g2 g3 g4 hsame.symm
      | false =>
        rw [if_neg (by simp)]
        exact next _ ρ undef w hs he hx (by rw [(hf rfl).1]; simp [VR]) hsame.symm
    | store t x X hc hot hob hlt hm hs2 =>
      have hok := chk3_ok hk ho
      simp only [okC, hc, Bool.and_eq_true] at hok
      have hb1 : b = true := by
        unfold awant at hb
        cases hgg : o.guard with
        | none => rw [hgg] at hb; simpa using hb.symm
        | some x => rw [hgg] at hok; simp at hok
      subst hb1
      rw [if_pos rfl]
      have hop := ht rfl
      rw [OpF.of_aop (by rw [hc]; simp)] at hop
      obtain ⟨ty, x', y, eop⟩ := cls_store hc
      have hX := obT_X hot
      rw [eop] at hX
      simp only [obX, Option.some.injEq] at hX
      subst hX
      rw [eop] at hop
      obtain ⟨a', X', k1, k2, k3, k4, k5, k6⟩ := store_frame hop
      have ea : a' = x := by
        have : objOf (E i t) = some a' := k1
        rw [hob] at this; simpa using this.symm
      subst ea
      have hoo : oo P E M i o = some a' := by simp only [oo, hc, hot, Option.bind_some, hob]
      have htg : tg P l E M i = some a' := by rw [tg_of ho, hc]; simp only [hot, Option.bind_some, hob]
      have hLf : a' < (M l.length).length := by
        have := M_le hk h (i := i) (l.length - i) (by omega)
        rw [show i + (l.length - i) = l.length by omega] at this; omega
      have e1 : cS P l E M (fun i => listed.getD i false) l.length a' = at' (M i) a' := by
        rw [← cS_before hk h a' i l.length (by omega) (Nat.le_refl _)]
        refine cS_congr _ _ a' l.length fun j hj htj => ?_
        have := before3 hk h hsep (fun i => listed.getD i false) hdc ho hi hp (.inr (.inl hc)) hoo hj htj
        cases hSj : listed.getD j false <;> simp [hSj] at this ⊢ <;> omega
      have k7 := k6 (memS P l E M (fun i => listed.getD i false)) (by rw [memS_at _ hLf, e1, at_get k2])
      have hupd := memS_upd hk h (fun i => listed.getD i false) (fun j => (listed.setIfInBounds i true).getD j false) hil hS htg fun j hj htj => before3 hk h hsep (fun i => listed.getD i false) hdc ho hi hp (.inr (.inl hc)) hoo hj htj
      have eX : at' (M (i + 1)) a' = X' := by rw [k3, at', List.getElem?_set_self k2]; rfl
      rw [eX] at hupd
      have hop2 : OpF P [] true (E i) o (memS P l E M (fun i => listed.getD i false)) (V i) ((memS P l E M (fun i => listed.getD i false)).set a' X') := by
        rw [OpF.of_aop (by rw [hc]; simp), eop]; exact k7
      refine .inl (astep_sound hst (hop2.congr heq).astep fun v m' ρ u w' g1 g2 g3 g4 g5 => ?_)
      obtain ⟨rfl, rfl⟩ := g5
      exact next _ ρ u w' g1 g2 g3 g4 hupd.symm
    | push d xs z q hc hdst hm hv =>
      have hok := chk3_ok hk ho
      simp only [okC, hc, Bool.and_eq_true] at hok
      have hb1 : b = true := by
        unfold awant at hb
        cases hgg : o.guard with
        | none => rw [hgg] at hb; simpa using hb.symm
        | some x => rw [hgg] at hok; simp at hok
      subst hb1
      rw [if_pos rfl]
      have hop := ht rfl
      rw [OpF.of_aop (by rw [hc]; simp)] at hop
      obtain ⟨xs', z', q', k1, k2, k3⟩ := push_frame _ _ _ _ _ hc hop
      have hoo : oo P E M i o = some (M i).length := by simp only [oo, hc]
      have htg : tg P l E M i = some (M i).length := by rw [tg_of ho, hc]
      have hLf : (M i).length < (M l.length).length := M_lt_push hk h ho hc hil (Nat.le_refl _)
      have hdead : (memS P l E M (fun i => listed.getD i false))[(M i).length]? = some .dead := by
        rw [memS_at _ hLf]
        congr 1
        have e0 : cS P l E M (fun i => listed.getD i false) l.length (M i).length = cS P l E M (fun j => decide (j < i)) l.length (M i).length := by
          refine cS_congr _ _ _ l.length fun j hj htj => ?_
          have := before3 hk h hsep (fun i => listed.getD i false) hdc ho hi hp (.inr (.inr hc)) hoo hj htj
          cases hSj : listed.getD j false <;> simp [hSj] at this ⊢ <;> omega
        rw [e0, cS_before hk h _ i l.length (by omega) (Nat.le_refl _), at', List.getElem?_eq_none (Nat.le_refl _)]; rfl
      have hupd := memS_upd hk h (fun i => listed.getD i false) (fun j => (listed.setIfInBounds i true).getD j false) hil hS htg fun j hj htj => before3 hk h hsep (fun i => listed.getD i false) hdc ho hi hp (.inr (.inr hc)) hoo hj htj
      have eX : at' (M (i + 1)) (M i).length = .cells xs' 0 z' := by rw [k1, at', List.getElem?_concat_length]; rfl
      rw [eX] at hupd
      have k4 := k3 (memS P l E M (fun i => listed.getD i false))
      rw [← aop_congr _ _ _ _ heq] at k4
      obtain ⟨w', ρ', u, r1, r2, r3, r4⟩ := push_at hs hdead he.ev hc k4
      have hnx := next _ ρ' u w' r2 (he.ext r3) (hx.trans r3) (by rw [k2]; exact r4) hupd.symm
      refine .inl ?_
      unfold Oper.wp
      have fin : o.upon P a (fun a w => wpAny P .any l.toArray Q fuel (listed.setIfInBounds i true) a w) Q ((execOp a.eval o).run P w) := by
        rcases r1 with hr | ⟨hr, e⟩
        · rw [hr]; exact hnx
        · rw [hr]; rw [e] at hnx; exact hnx
      obtain ⟨d0, op, ty, pos, af, g⟩ := o
      cases op <;> first | exact fin | (simp [cls] at hc; done)

end
end Go.Proofs.Ytkpjaffbbppneaa

/- Regions that draw their order, with new objects in any order: for the walks. -/
namespace Go.Proofs.Ytkpjaffbbppneaa
open Go Go.RowKit

theorem ADraw.tx3 {P : Program} {N : Nat} {K : Env → List AO → Prop} {l : List Oper} {n id : Nat} {env : Env} {m : List AO} (ds : List (Tmp × Tmp)) (hm : P.follows .mixedOrders = true) (hk : chk3 P ds l = true)
    (h : awpOps P N (some ([], true)) l.toArray (fun env m => (∀ p ∈ ds, objNe (env p.1) (env p.2)) ∧ K env m) l env m) : ADraw P N n id l.toArray K env m := by
  intro B0 w0 ρe a w Q _ hst hQ0
  obtain ⟨E, M, V, e0, m0, hdt⟩ := extract l env m h
  have hQ : ∀ env m a w, St N B0 w0 ρe env m a w → ((∀ p ∈ ds, objNe (env p.1) (env p.2)) ∧ K env m) → Q .normal a w := fun env m a w h1 h2 => hQ0 env m a w h1 h2.2
  refine wp_region_any hm ?_
  have hfalse : ∀ i, (Array.replicate l.toArray.size false).getD i false = false := by
    intro i
    rw [Array.getD_eq_getD_getElem?, Array.getElem?_replicate]
    split <;> rfl
  have hst' : St N B0 w0 ρe env (m ++ List.replicate ((M l.length).length - m.length) .dead) a { w with drawn := w.drawn + 1 } := by
    obtain ⟨⟨ρ, hs, he, hx⟩, hsz, hdf⟩ := hst
    exact ⟨⟨_, hs.drew.holes _, he.ext (Ext.append _ _), hx.trans (Ext.append _ _)⟩, hsz, hdf⟩
  refine any_sound3 hk hdt hdt.fin.1 hQ l.toArray.size _ a _ (by simp) ?_ (fun j o ho hj => by simp only [hfalse] at hj; simp at hj) ?_
  · refine Nat.le_trans (List.length_filter_le _ _) (by simp)
  · have e1 : ∀ k, eS l E V (fun i => (Array.replicate l.toArray.size false).getD i false) k = E 0 := by
      intro k
      induction k with
      | zero => rfl
      | succ k ih => simp only [eS]; rw [if_neg (by rw [hfalse]; simp)]; exact ih
    rw [e1, memS_none hk hdt _ hfalse, e0, m0]; exact hst'

/-- Slots that point at two objects, pair by pair. -/
def sepN : List (Tmp × Tmp) → Env → Prop
  | [], _ => True
  | (a, b) :: r, env => objNe (env a) (env b) ∧ sepN r env
theorem sepN_nil (env : Env) : sepN [] env = True := rfl
theorem sepN_cons (a b : Tmp) (r : List (Tmp × Tmp)) (env : Env) : sepN ((a, b) :: r) env = (objNe (env a) (env b) ∧ sepN r env) := rfl
theorem sepN_iff (env : Env) : ∀ ds : List (Tmp × Tmp), sepN ds env = ∀ p ∈ ds, objNe (env p.1) (env p.2)
  | [] => by simp [sepN]
  | (a, b) :: r => by simp only [sepN, sepN_iff env r, List.mem_cons, forall_eq_or_imp]

def DK3 (ds : List (Tmp × Tmp)) (c : Cx) (k : List It) : AX → Env → List AO → Prop
  | .normal, env, m => sepN ds env ∧ go c k env m
  | _, _, _ => False
theorem DK3_normal (ds : List (Tmp × Tmp)) (c : Cx) (k : List It) (env : Env) (m : List AO) : DK3 ds c k .normal env m = (sepN ds env ∧ go c k env m) := rfl

/-- The pairs of slots that are to point at two objects. -/
def autoDs (P : Program) (l : List Oper) : List (Tmp × Tmp) :=
  let b := bmGo l []
  (l.zipIdx.flatMap fun (y, j) => (l.take j).zipIdx.flatMap fun (x, i) =>
    if (b.getD j 0).testBit i || sepFree (cls P x.op) (cls P y.op) then [] else match ot P x, ot P y with
      | some s, some t => [(s, t)]
      | _, _ => []).eraseDups

theorem go_drawn3 {c : Cx} {k : List It} {env : Env} {m : List AO} {id : Nat} {l : List Oper} (ds : List (Tmp × Tmp)) (hm : c.P.follows .mixedOrders = true) (hk : chk3 c.P ds l = true)
    (h : go ⟨c.P, c.N, c.n, some ([], true), DK3 ds c k⟩ [.ops l.toArray l] env m) : go c (.code (.region id l.toArray true) :: k) env m := by
  refine go_draw (ADraw.tx3 ds hm hk ?_)
  simp only [go, DK3_normal, sepN_iff] at h
  exact h

theorem objNe_pp (a o g b o' g' : Nat) : objNe (.ptr a o g) (.ptr b o' g') = (a ≠ b) := by simp [objNe, objOf]
theorem objNe_ps (a o g b o' n' g' : Nat) : objNe (.ptr a o g) (.slice b o' n' g') = (a ≠ b) := by simp [objNe, objOf]
theorem objNe_sp (a o n g b o' g' : Nat) : objNe (.slice a o n g) (.ptr b o' g') = (a ≠ b) := by simp [objNe, objOf]
theorem objNe_ss (a o n g b o' n' g' : Nat) : objNe (.slice a o n g) (.slice b o' n' g') = (a ≠ b) := by simp [objNe, objOf]
theorem objNe_vx (v : Value) (y : AV) : objNe (.s v) y = True := by simp [objNe, objOf]
theorem objNe_xv (v : Value) (x : AV) : objNe x (.s v) = True := by simp [objNe, objOf]

end Go.Proofs.Ytkpjaffbbppneaa

/- The types of the translation, as the abstract steps read them. -/
namespace Go.Proofs.Ytkpjaffbbppneaa
open Go Go.RowKit

@[simp] theorem ti1 : mkTI Try.prog 1 = some ⟨.other, 1, 8, [.s .nilFunc]⟩ := by kernel_rfl
@[simp] theorem ti2 : mkTI Try.prog 2 = some ⟨.int .i64, 1, 8, [.s (.int .i64 0)]⟩ := by kernel_rfl
@[simp] theorem ti3 : mkTI Try.prog 3 = some ⟨.int .i64, 1, 8, [.s (.int .i64 0)]⟩ := by kernel_rfl
@[simp] theorem ti4 : mkTI Try.prog 4 = some ⟨.bool, 1, 1, [.s (.bool false)]⟩ := by kernel_rfl
@[simp] theorem ti5 : mkTI Try.prog 5 = some ⟨.int .u8, 1, 1, [.s (.int .u8 0)]⟩ := by kernel_rfl
@[simp] theorem ti6 : mkTI Try.prog 6 = some ⟨.int .u8, 1, 1, [.s (.int .u8 0)]⟩ := by kernel_rfl
@[simp] theorem ti7 : mkTI Try.prog 7 = some ⟨.struct [(0, 2), (1, 3), (2, 4), (3, 6)], 4, 24, [.s (.int .i64 0), .s (.int .i64 0), .s (.bool false), .s (.int .u8 0)]⟩ := by kernel_rfl
@[simp] theorem ti8 : mkTI Try.prog 8 = some ⟨.struct [(0, 2), (1, 3), (2, 4), (3, 6)], 4, 24, [.s (.int .i64 0), .s (.int .i64 0), .s (.bool false), .s (.int .u8 0)]⟩ := by kernel_rfl
@[simp] theorem ti9 : mkTI Try.prog 9 = some ⟨.str, 1, 16, [.s (.string ⟨#[]⟩)]⟩ := by kernel_rfl
@[simp] theorem ti10 : mkTI Try.prog 10 = some ⟨.str, 1, 16, [.s (.string ⟨#[]⟩)]⟩ := by kernel_rfl
@[simp] theorem ti11 : mkTI Try.prog 11 = some ⟨.str, 1, 16, [.s (.string ⟨#[]⟩)]⟩ := by kernel_rfl
@[simp] theorem ti12 : mkTI Try.prog 12 = some ⟨.int .u64, 1, 8, [.s (.int .u64 0)]⟩ := by kernel_rfl
@[simp] theorem ti13 : mkTI Try.prog 13 = some ⟨.struct [(0, 9), (1, 12)], 2, 24, [.s (.string ⟨#[]⟩), .s (.int .u64 0)]⟩ := by kernel_rfl
@[simp] theorem ti14 : mkTI Try.prog 14 = some ⟨.struct [(0, 9), (1, 12)], 2, 24, [.s (.string ⟨#[]⟩), .s (.int .u64 0)]⟩ := by kernel_rfl
@[simp] theorem ti15 : mkTI Try.prog 15 = some ⟨.other, 1, 8, [.s (.pointer none)]⟩ := by kernel_rfl
@[simp] theorem ti16 : mkTI Try.prog 16 = some ⟨.other, 1, 8, [.s (.pointer none)]⟩ := by kernel_rfl
@[simp] theorem ti17 : mkTI Try.prog 17 = some ⟨.other, 1, 8, [.s (.pointer none)]⟩ := by kernel_rfl
@[simp] theorem ti18 : mkTI Try.prog 18 = some ⟨.struct [(0, 17)], 1, 8, [.s (.pointer none)]⟩ := by kernel_rfl
@[simp] theorem ti19 : mkTI Try.prog 19 = some ⟨.struct [(0, 17)], 1, 8, [.s (.pointer none)]⟩ := by kernel_rfl
@[simp] theorem ti20 : mkTI Try.prog 20 = some ⟨.other, 1, 16, [.s .nilIface]⟩ := by kernel_rfl
@[simp] theorem ti21 : mkTI Try.prog 21 = some ⟨.int .i32, 1, 4, [.s (.int .i32 0)]⟩ := by kernel_rfl
@[simp] theorem ti22 : mkTI Try.prog 22 = some ⟨.arr 16 5, 16, 16, List.replicate 16 (.s (.int .u8 0))⟩ := by kernel_rfl
@[simp] theorem ti23 : mkTI Try.prog 23 = some ⟨.struct [(0, 2), (1, 22)], 17, 24, [.s (.int .i64 0)] ++ List.replicate 16 (.s (.int .u8 0))⟩ := by kernel_rfl
@[simp] theorem ti24 : mkTI Try.prog 24 = some ⟨.struct [(0, 2), (1, 22)], 17, 24, [.s (.int .i64 0)] ++ List.replicate 16 (.s (.int .u8 0))⟩ := by kernel_rfl
@[simp] theorem ti25 : mkTI Try.prog 25 = some ⟨.slice 41, 1, 24, [.s (.slice none 0 0)]⟩ := by kernel_rfl
@[simp] theorem ti27 : mkTI Try.prog 27 = some ⟨.other, 1, 8, [.s .nilFunc]⟩ := by kernel_rfl
@[simp] theorem ti28 : mkTI Try.prog 28 = some ⟨.struct [(0, 2), (1, 22)], 17, 24, [.s (.int .i64 0)] ++ List.replicate 16 (.s (.int .u8 0))⟩ := by kernel_rfl
@[simp] theorem ti29 : mkTI Try.prog 29 = some ⟨.other, 1, 8, [.s .nilFunc]⟩ := by kernel_rfl
@[simp] theorem ti30 : mkTI Try.prog 30 = some ⟨.other, 1, 8, [.s .nilFunc]⟩ := by kernel_rfl
@[simp] theorem ti31 : mkTI Try.prog 31 = some ⟨.other, 1, 8, [.s .nilFunc]⟩ := by kernel_rfl
@[simp] theorem ti32 : mkTI Try.prog 32 = some ⟨.other, 1, 8, [.s .nilFunc]⟩ := by kernel_rfl
@[simp] theorem ti33 : mkTI Try.prog 33 = some ⟨.other, 1, 8, [.s .nilFunc]⟩ := by kernel_rfl
@[simp] theorem ti34 : mkTI Try.prog 34 = some ⟨.other, 1, 8, [.s .nilFunc]⟩ := by kernel_rfl
@[simp] theorem ti35 : mkTI Try.prog 35 = some ⟨.other, 1, 8, [.s .nilFunc]⟩ := by kernel_rfl
@[simp] theorem ti36 : mkTI Try.prog 36 = some ⟨.other, 1, 8, [.s .nilFunc]⟩ := by kernel_rfl
@[simp] theorem ti37 : mkTI Try.prog 37 = some ⟨.other, 1, 8, [.s .nilFunc]⟩ := by kernel_rfl
@[simp] theorem ti38 : mkTI Try.prog 38 = some ⟨.slice 9, 1, 24, [.s (.slice none 0 0)]⟩ := by kernel_rfl
@[simp] theorem ti39 : mkTI Try.prog 39 = some ⟨.other, 1, 8, [.s .nilFunc]⟩ := by kernel_rfl
@[simp] theorem ti40 : mkTI Try.prog 40 = some ⟨.other, 1, 8, [.s .nilFunc]⟩ := by kernel_rfl
@[simp] theorem ti41 : mkTI Try.prog 41 = some ⟨.slice 2, 1, 24, [.s (.slice none 0 0)]⟩ := by kernel_rfl
@[simp] theorem ti43 : mkTI Try.prog 43 = some ⟨.other, 1, 8, [.s .nilFunc]⟩ := by kernel_rfl
@[simp] theorem ti44 : mkTI Try.prog 44 = some ⟨.other, 1, 8, [.s (.pointer none)]⟩ := by kernel_rfl
@[simp] theorem ti45 : mkTI Try.prog 45 = some ⟨.other, 1, 8, [.s .nilFunc]⟩ := by kernel_rfl
@[simp] theorem ti46 : mkTI Try.prog 46 = some ⟨.other, 1, 8, [.s .nilFunc]⟩ := by kernel_rfl
@[simp] theorem ti47 : mkTI Try.prog 47 = some ⟨.other, 1, 8, [.s .nilFunc]⟩ := by kernel_rfl
@[simp] theorem ti48 : mkTI Try.prog 48 = some ⟨.other, 1, 8, [.s .nilFunc]⟩ := by kernel_rfl
@[simp] theorem ti49 : mkTI Try.prog 49 = some ⟨.other, 1, 8, [.s .nilFunc]⟩ := by kernel_rfl
@[simp] theorem ti50 : mkTI Try.prog 50 = some ⟨.other, 1, 8, [.s .nilFunc]⟩ := by kernel_rfl
@[simp] theorem ti51 : mkTI Try.prog 51 = some ⟨.other, 1, 8, [.s .nilFunc]⟩ := by kernel_rfl
@[simp] theorem ti52 : mkTI Try.prog 52 = some ⟨.other, 1, 8, [.s .nilFunc]⟩ := by kernel_rfl
@[simp] theorem ti53 : mkTI Try.prog 53 = some ⟨.other, 1, 8, [.s .nilFunc]⟩ := by kernel_rfl
@[simp] theorem ti54 : mkTI Try.prog 54 = some ⟨.slice 28, 1, 24, [.s (.slice none 0 0)]⟩ := by kernel_rfl
@[simp] theorem ti55 : mkTI Try.prog 55 = some ⟨.other, 1, 8, [.s .nilFunc]⟩ := by kernel_rfl
@[simp] theorem ti56 : mkTI Try.prog 56 = some ⟨.other, 1, 8, [.s .nilFunc]⟩ := by kernel_rfl
@[simp] theorem ti58 : mkTI Try.prog 58 = some ⟨.other, 1, 8, [.s .nilFunc]⟩ := by kernel_rfl
@[simp] theorem ti59 : mkTI Try.prog 59 = some ⟨.other, 1, 8, [.s .nilFunc]⟩ := by kernel_rfl
@[simp] theorem ti60 : mkTI Try.prog 60 = some ⟨.other, 1, 8, [.s .nilFunc]⟩ := by kernel_rfl
@[simp] theorem ti61 : mkTI Try.prog 61 = some ⟨.slice 3, 1, 24, [.s (.slice none 0 0)]⟩ := by kernel_rfl
@[simp] theorem ti62 : mkTI Try.prog 62 = some ⟨.other, 1, 8, [.s .nilFunc]⟩ := by kernel_rfl
@[simp] theorem ti64 : mkTI Try.prog 64 = some ⟨.other, 1, 8, [.s .nilFunc]⟩ := by kernel_rfl
@[simp] theorem ti65 : mkTI Try.prog 65 = some ⟨.other, 1, 8, [.s .nilFunc]⟩ := by kernel_rfl
@[simp] theorem ti66 : mkTI Try.prog 66 = some ⟨.other, 1, 8, [.s .nilFunc]⟩ := by kernel_rfl
@[simp] theorem ti67 : mkTI Try.prog 67 = some ⟨.other, 1, 8, [.s .nilFunc]⟩ := by kernel_rfl
@[simp] theorem ti68 : mkTI Try.prog 68 = some ⟨.other, 1, 8, [.s .nilFunc]⟩ := by kernel_rfl
@[simp] theorem ti69 : mkTI Try.prog 69 = some ⟨.other, 1, 8, [.s .nilFunc]⟩ := by kernel_rfl
@[simp] theorem ti71 : mkTI Try.prog 71 = some ⟨.other, 1, 8, [.s .nilFunc]⟩ := by kernel_rfl
@[simp] theorem ti72 : mkTI Try.prog 72 = some ⟨.other, 1, 8, [.s .nilFunc]⟩ := by kernel_rfl
@[simp] theorem ti73 : mkTI Try.prog 73 = some ⟨.other, 1, 8, [.s .nilFunc]⟩ := by kernel_rfl
@[simp] theorem ti74 : mkTI Try.prog 74 = some ⟨.other, 1, 8, [.s .nilFunc]⟩ := by kernel_rfl
@[simp] theorem ti75 : mkTI Try.prog 75 = some ⟨.other, 1, 8, [.s .nilFunc]⟩ := by kernel_rfl
@[simp] theorem ti77 : mkTI Try.prog 77 = some ⟨.other, 1, 8, [.s .nilFunc]⟩ := by kernel_rfl
@[simp] theorem ti78 : mkTI Try.prog 78 = some ⟨.slice 5, 1, 24, [.s (.slice none 0 0)]⟩ := by kernel_rfl
@[simp] theorem ti79 : mkTI Try.prog 79 = some ⟨.other, 1, 8, [.s .nilFunc]⟩ := by kernel_rfl
@[simp] theorem ti80 : mkTI Try.prog 80 = some ⟨.arr 8 2, 8, 64, List.replicate 8 (.s (.int .i64 0))⟩ := by kernel_rfl
@[simp] theorem ti82 : mkTI Try.prog 82 = some ⟨.other, 1, 8, [.s .nilFunc]⟩ := by kernel_rfl
@[simp] theorem ti83 : mkTI Try.prog 83 = some ⟨.arr 8 4, 8, 8, List.replicate 8 (.s (.bool false))⟩ := by kernel_rfl
@[simp] theorem ti85 : mkTI Try.prog 85 = some ⟨.other, 1, 8, [.s .nilFunc]⟩ := by kernel_rfl
@[simp] theorem ti86 : mkTI Try.prog 86 = some ⟨.other, 1, 8, [.s (.pointer none)]⟩ := by kernel_rfl
@[simp] theorem ti87 : mkTI Try.prog 87 = some ⟨.other, 1, 8, [.s .nilFunc]⟩ := by kernel_rfl
@[simp] theorem ti88 : mkTI Try.prog 88 = some ⟨.other, 1, 8, [.s .nilFunc]⟩ := by kernel_rfl
@[simp] theorem ti89 : mkTI Try.prog 89 = some ⟨.other, 1, 8, [.s .nilFunc]⟩ := by kernel_rfl
@[simp] theorem ti90 : mkTI Try.prog 90 = some ⟨.other, 1, 8, [.s (.pointer none)]⟩ := by kernel_rfl
@[simp] theorem ti91 : mkTI Try.prog 91 = some ⟨.struct [(0, 44), (1, 44), (2, 83), (10, 89)], 11, 32, [.s (.pointer none), .s (.pointer none)] ++ List.replicate 8 (.s (.bool false)) ++ [.s .nilFunc]⟩ := by kernel_rfl
@[simp] theorem ti92 : mkTI Try.prog 92 = some ⟨.struct [(0, 44), (1, 44), (2, 83), (10, 89)], 11, 32, [.s (.pointer none), .s (.pointer none)] ++ List.replicate 8 (.s (.bool false)) ++ [.s .nilFunc]⟩ := by kernel_rfl
@[simp] theorem ti93 : mkTI Try.prog 93 = some ⟨.other, 1, 8, [.s .nilFunc]⟩ := by kernel_rfl
@[simp] theorem ti94 : mkTI Try.prog 94 = some ⟨.struct [(0, 17), (1, 17), (2, 17), (3, 9)], 4, 40, [.s (.pointer none), .s (.pointer none), .s (.pointer none), .s (.string ⟨#[]⟩)]⟩ := by kernel_rfl
@[simp] theorem ti95 : mkTI Try.prog 95 = some ⟨.struct [(0, 17), (1, 17), (2, 17), (3, 9)], 4, 40, [.s (.pointer none), .s (.pointer none), .s (.pointer none), .s (.string ⟨#[]⟩)]⟩ := by kernel_rfl
@[simp] theorem ti96 : mkTI Try.prog 96 = some ⟨.arr 0 16, 0, 0, []⟩ := by kernel_rfl
@[simp] theorem ti97 : mkTI Try.prog 97 = some ⟨.struct [(0, 96)], 0, 0, []⟩ := by kernel_rfl
@[simp] theorem ti98 : mkTI Try.prog 98 = some ⟨.struct [(0, 96)], 0, 0, []⟩ := by kernel_rfl
@[simp] theorem ti99 : mkTI Try.prog 99 = some ⟨.int .u32, 1, 4, [.s (.int .u32 0)]⟩ := by kernel_rfl
@[simp] theorem ti100 : mkTI Try.prog 100 = some ⟨.int .u8, 1, 1, [.s (.int .u8 0)]⟩ := by kernel_rfl
@[simp] theorem ti101 : mkTI Try.prog 101 = some ⟨.int .u8, 1, 1, [.s (.int .u8 0)]⟩ := by kernel_rfl
@[simp] theorem ti102 : mkTI Try.prog 102 = some ⟨.other, 1, 8, [.s .nilFunc]⟩ := by kernel_rfl
@[simp] theorem ti103 : mkTI Try.prog 103 = some ⟨.other, 1, 8, [.s (.pointer none)]⟩ := by kernel_rfl
@[simp] theorem ti104 : mkTI Try.prog 104 = some ⟨.int .i32, 1, 4, [.s (.int .i32 0)]⟩ := by kernel_rfl
@[simp] theorem ti105 : mkTI Try.prog 105 = some ⟨.int .i32, 1, 4, [.s (.int .i32 0)]⟩ := by kernel_rfl
@[simp] theorem ti106 : mkTI Try.prog 106 = some ⟨.struct [(0, 12), (1, 12), (2, 99), (3, 100), (4, 5), (5, 5), (6, 101), (7, 102), (8, 103), (9, 104), (10, 105)], 11, 48, [.s (.int .u64 0), .s (.int .u64 0), .s (.int .u32 0), .s (.int .u8 0), .s (.int .u8 0), .s (.int .u8 0), .s (.int .u8 0), .s .nilFunc, .s (.pointer none), .s (.int .i32 0), .s (.int .i32 0)]⟩ := by kernel_rfl
@[simp] theorem ti107 : mkTI Try.prog 107 = some ⟨.struct [(0, 12), (1, 12), (2, 99), (3, 100), (4, 5), (5, 5), (6, 101), (7, 102), (8, 103), (9, 104), (10, 105)], 11, 48, [.s (.int .u64 0), .s (.int .u64 0), .s (.int .u32 0), .s (.int .u8 0), .s (.int .u8 0), .s (.int .u8 0), .s (.int .u8 0), .s .nilFunc, .s (.pointer none), .s (.int .i32 0), .s (.int .i32 0)]⟩ := by kernel_rfl
@[simp] theorem ti108 : mkTI Try.prog 108 = some ⟨.other, 1, 8, [.s (.pointer none)]⟩ := by kernel_rfl

end Go.Proofs.Ytkpjaffbbppneaa

/- Words for abstract values: numbers, diagrams; what the walks need of them. -/
namespace Go.Proofs.Ytkpjaffbbppneaa
open Go Go.RowKit

abbrev I (n : Int) : AV := .s (.int .i64 n)
abbrev U8 (n : Int) : AV := .s (.int .u8 n)
abbrev B (b : Bool) : AV := .s (.bool b)
abbrev Str (s : List UInt8) : AV := .s (.string ⟨s.toArray⟩)

/-- The mates of a diagram, as an array's cells. -/
def mts (f : Nat → Int) : List AV := (List.range 16).map fun i => U8 (f i)
/-- A diagram's cells. -/
def dg (n : Int) (f : Nat → Int) : List AV := I n :: mts f
def fset (f : Nat → Int) (i : Nat) (v : Int) : Nat → Int := fun j => if j = i then v else f j

@[simp] theorem mts_len (f : Nat → Int) : (mts f).length = 16 := by simp [mts]
@[simp] theorem dg_len (n : Int) (f : Nat → Int) : (dg n f).length = 17 := by simp [dg]
@[simp] theorem mts_all (f : Nat → Int) : (mts f).all AV.one = true := by simp [mts, AV.one, Value.oneCell']
@[simp] theorem dg_all (n : Int) (f : Nat → Int) : (dg n f).all AV.one = true := by simp only [dg, List.all_cons, mts_all]; rfl
@[simp] theorem dg_0 (n : Int) (f : Nat → Int) : (dg n f)[0]? = some (I n) := rfl
theorem mts_at (f : Nat → Int) {i : Nat} (h : i < 16) : (mts f)[i]? = some (U8 (f i)) := by simp [mts, h]
theorem dg_at (n : Int) (f : Nat → Int) {i : Nat} (h : i < 16) : (dg n f)[1 + i]? = some (U8 (f i)) := by
  rw [dg, Nat.add_comm, List.getElem?_cons_succ, mts_at f h]
@[simp] theorem dg_set0 (n k : Int) (f : Nat → Int) : (dg n f).set 0 (I k) = dg k f := rfl
@[simp] theorem mts_set (f : Nat → Int) (i : Nat) (v : Int) : (mts f).set i (U8 v) = mts (fset f i v) := by
  apply List.ext_getElem?
  intro j
  by_cases hj : j < 16
  · rw [mts_at _ hj, List.getElem?_set]
    by_cases h : i = j
    · subst h; simp [fset, hj]
    · rw [if_neg h, mts_at _ hj]; simp [fset]; intro e; exact absurd e.symm h
  · rw [List.getElem?_eq_none (by simp; omega), List.getElem?_eq_none (by simp; omega)]
@[simp] theorem dg_set (n : Int) (f : Nat → Int) (i : Nat) (v : Int) : (dg n f).set (1 + i) (U8 v) = dg n (fset f i v) := by
  rw [dg, Nat.add_comm, List.set_cons_succ, mts_set, dg]
@[simp] theorem dg_take (n : Int) (f : Nat → Int) : (dg n f).take 17 = dg n f := List.take_of_length_le (by simp)
@[simp] theorem dg_drop (n : Int) (f : Nat → Int) : (dg n f).drop 1 = mts f := rfl
@[simp] theorem dg_tail (n : Int) (f : Nat → Int) : (dg n f).tail = mts f := rfl
@[simp] theorem mts_take (f : Nat → Int) : (mts f).take 16 = mts f := List.take_of_length_le (by simp)
@[simp] theorem splice_one (xs : List AV) (o : Nat) (y : AV) : splice xs o [y] = xs.set o y := by rw [splice_eq]; rfl
theorem splice_full {xs ys : List AV} (h : xs.length = ys.length) : splice xs 0 ys = ys := by simp [splice, h]
@[simp] theorem splice_dg (n n' : Int) (f f' : Nat → Int) : splice (dg n f) 0 (dg n' f') = dg n' f' := by simp [splice]
@[simp] theorem splice_mts (f f' : Nat → Int) : splice (mts f) 0 (mts f') = mts f' := by simp [splice]
@[simp] theorem dg_zero : AV.s (.int .i64 0) :: List.replicate 16 (AV.s (.int .u8 0)) = dg 0 (fun _ => 0) := rfl
@[simp] theorem mts_zero : List.replicate 16 (AV.s (.int .u8 0)) = mts (fun _ => 0) := rfl
@[simp] theorem dg_fold (n : Int) (f : Nat → Int) : AV.s (.int .i64 n) :: mts f = dg n f := rfl
@[simp] theorem mts_sc (L : Nat) (f : Nat → Int) : scs L (mts f) = true := by
  have : ∀ l : List Nat, scs L (l.map fun i => U8 (f i)) = true := by
    intro l; induction l with
    | nil => rfl
    | cons a l ih => simp [scs, AV.sc]; simpa using ih
  exact this _
@[simp] theorem dg_sc (L : Nat) (n : Int) (f : Nat → Int) : scs L (dg n f) = true := by simp only [dg, scs, mts_sc]; rfl

theorem zrep_zero (z : List AV) : zrep 0 z = [] := rfl
theorem zrep_succ0 (n : Nat) (z : List AV) : zrep (n + 1) z = z ++ zrep n z := rfl
theorem zrep_one (n : Nat) (v : AV) : zrep n [v] = List.replicate n v := by
  induction n with
  | zero => rfl
  | succ n ih => rw [zrep_succ0, ih]; rfl

theorem mkE_cons (s : Nat) (v : AV) (r : List (Nat × AV)) (t : Nat) : mkE ((s, v) :: r) t = if t = s then v else mkE r t := rfl
theorem mkE_nil (t : Nat) : mkE [] t = .any := rfl

theorem LK_exit (c : Cx) (k : List It) {α : Type} (S : α → Env) (M : α → List AO) (μ : α → Nat) (x : α) (id : Nat) (env : Env) (m : List AO) : LK c k S M μ x (.exit id) env m = goX c id k env m := rfl
theorem LK_ret (c : Cx) (k : List It) {α : Type} (S : α → Env) (M : α → List AO) (μ : α → Nat) (x : α) (env : Env) (m : List AO) : LK c k S M μ x .ret env m = c.K .ret env m := rfl

theorem aev_tmp (env : Env) (t : Tmp) : aev env (.tmp t) = env t := rfl
theorem aev_const (env : Env) (v : Value) : aev env (.const v) = aconst v := rfl
theorem aev_func (env : Env) (f : FuncId) : aev env (.func f) = .fn f [] := rfl

/-- A byte of a text. -/
def sb (s : List UInt8) (k : Nat) : Int := ((s.getD k 0).toNat : Int)
theorem sb_bd (s : List UInt8) (k : Nat) : 0 ≤ sb s k ∧ sb s k ≤ 255 := by
  have := (s.getD k 0).toNat_lt
  unfold sb; omega
theorem sb_eq (s : List UInt8) (k : Nat) : (((⟨s.toArray⟩ : ByteArray).data.toList.getD k 0).toNat : Int) = sb s k := rfl
theorem str_size (s : List UInt8) : (⟨s.toArray⟩ : ByteArray).size = s.length := by simp [ByteArray.size]

theorem aBin_ii (P : Program) (op : BinOp) (t : TypeId) (k k' : IntKind) (a b : Int) : aBin P op t (.s (.int k a)) (.s (.int k' b)) = (abin op (.int k a) (.int k' b)).map AV.s := rfl
theorem aBin_ss (P : Program) (op : BinOp) (t : TypeId) (a b : ByteArray) : aBin P op t (.s (.string a)) (.s (.string b)) = (abin op (.string a) (.string b)).map AV.s := rfl
theorem aBin_bb (P : Program) (op : BinOp) (t : TypeId) (a b : Bool) : aBin P op t (.s (.bool a)) (.s (.bool b)) = (match mkTI P t with
    | some { d := .bool, .. } => (abin op (.bool a) (.bool b)).map AV.s
    | _ => none) := rfl

/-! A call met in a walk. -/
section
variable {c : Cx} {k : List It} {env : Env} {m : List AO} {all : Array Oper} {rest : List Oper} {dst : Option Tmp} {f : FuncId} {args : List AV}
theorem goCall_n (hD : c.D = none) (h : ACalls c.P f args m fun v m' => goP c dst v all rest k env m') : goCall c f args dst all rest k env m := by
  unfold goCall aC; rw [hD]; exact h
theorem goCall_q {v : AV} (hD : c.D = some ([], false)) (h : ACalls c.P f args m fun v' m'' => v' = v ∧ m'' = m) (h2 : goP c dst v all rest k env m) : goCall c f args dst all rest k env m := by
  unfold goCall aC; rw [hD]; simp; exact ⟨v, h, h2⟩
theorem goCall_e {v : AV} (hD : c.D = some ([], true)) (h : ∀ m2, ACalls c.P f args m2 fun v' m'' => v' = v ∧ m'' = m2) (h2 : goP c dst v all rest k env m) : goCall c f args dst all rest k env m := by
  unfold goCall aC; rw [hD]; simp; exact ⟨v, h, h2⟩
end

theorem wrap8_id {x : Int} (h1 : 0 ≤ x) (h2 : x ≤ 255) : IntKind.u8.wrap x = x := by
  simp [IntKind.wrap, IntKind.bits, IntKind.signed]; omega
theorem tdiv_pos {a b : Int} (h : 0 ≤ a) (_hb : 0 < b) : a.tdiv b = a / b := Int.tdiv_eq_ediv_of_nonneg h
theorem tmod_pos {a b : Int} (h : 0 ≤ a) (_hb : 0 < b) : a.tmod b = a % b := Int.tmod_eq_emod_of_nonneg h

theorem closed_app {m l : List AO} (hm : Closed m) (hl : ∀ o ∈ l, o.sc (m.length + l.length) = true) (mono : ∀ o ∈ m, o.sc m.length = true → o.sc (m.length + l.length) = true) : Closed (m ++ l) := by
  intro o ho
  rw [List.length_append]
  rcases List.mem_append.1 ho with h | h
  · exact mono o h (hm o h)
  · exact hl o h

mutual
theorem AV.sc_mono {L L' : Nat} (h : L ≤ L') : ∀ x : AV, x.sc L = true → x.sc L' = true
  | .any, _ => by simp [AV.sc]
  | .s _, _ => by simp [AV.sc]
  | .ptr a _ _, k => by simp [AV.sc] at k ⊢; omega
  | .slice a _ _ _, k => by simp [AV.sc] at k ⊢; omega
  | .mp a, k => by simp [AV.sc] at k ⊢; omega
  | .fn _ cs, k => by simp only [AV.sc] at k ⊢; exact scs_mono h cs k
  | .agg cs, k => by simp only [AV.sc] at k ⊢; exact scs_mono h cs k
  | .tup cs, k => by simp only [AV.sc] at k ⊢; exact scs_mono h cs k
theorem scs_mono {L L' : Nat} (h : L ≤ L') : ∀ xs : List AV, scs L xs = true → scs L' xs = true
  | [], _ => by simp [scs]
  | x :: xs, k => by simp [scs] at k ⊢; exact ⟨AV.sc_mono h x k.1, scs_mono h xs k.2⟩
end

theorem AO.sc_mono {L L' : Nat} (h : L ≤ L') (o : AO) (k : o.sc L = true) : o.sc L' = true := by
  cases o with
  | dead => rfl
  | cells xs g z => exact scs_mono h xs k
  | ro xs z => exact scs_mono h xs k
  | amap es =>
    simp only [AO.sc, List.all_eq_true, Bool.and_eq_true] at k ⊢
    exact fun e he => ⟨AV.sc_mono h _ (k e he).1, AV.sc_mono h _ (k e he).2⟩

/-- Memory that refers to nothing beyond itself, with objects added. -/
theorem Closed.app {m l : List AO} (hm : Closed m) (hl : ∀ o ∈ l, o.sc (m.length + l.length) = true) : Closed (m ++ l) :=
  closed_app hm hl fun o _ h => AO.sc_mono (by omega) o h

/-- A list that is mapped to plain values refers to nothing. -/
theorem scs_map {α : Type} (L : Nat) (f : α → Value) (l : List α) : scs L (l.map fun x => AV.s (f x)) = true := by
  induction l with
  | nil => rfl
  | cons a l ih => simp [scs, AV.sc]; simpa using ih
theorem all_map {α : Type} (f : α → Value) (hf : ∀ x, (f x).oneCell' = true) (l : List α) : (l.map fun x => AV.s (f x)).all AV.one = true := by
  simp [AV.one, hf]

/-- A round's end: slots forgotten, objects behind the named ones dropped. -/
theorem Wk.cut {n : Nat} {env : Env} {m0 mm M : List AO} {l : List (Nat × AV)} (h t : List AO) (hm : mm = m0 ++ h ++ t) (hM : M = m0 ++ h) (hE : allE env l) (hn : n ≤ m0.length) (hc : Closed (m0 ++ h)) (hs : allS (m0.length + h.length) l = true) : Wk n env mm (mkE l) M := by
  subst hm; subst hM
  exact Wk.drop hE (by simp; omega) hc (by rw [List.length_append]; exact hs)
theorem Wk.same {n : Nat} {env : Env} {mm M : List AO} {l : List (Nat × AV)} (e : M = mm) (hE : allE env l) : Wk n env mm (mkE l) M := by
  subst e; exact Wk.keep hE
theorem dropE {n : Nat} {mm : List AO} (m tl : List AO) (e : mm = m ++ tl) {v : AV} {K : AV → List AO → Prop} (hn : n ≤ m.length) (hc : Closed m) (hv : v.sc m.length = true) (h : K v m) : ∃ m', Trunc n mm v m' ∧ K v m' := by
  subst e; exact dropTo m tl hn hc hv h
theorem Closed.u8 {m : List AO} (hm : Closed m) (l : List Int) (g z : Nat) : Closed (m ++ [.cells (l.map U8) g z]) :=
  hm.app fun o ho => by simp at ho; subst ho; exact scs_map _ (fun n => .int .u8 n) l
theorem Closed.i64 {m : List AO} (hm : Closed m) (l : List Int) (g z : Nat) : Closed (m ++ [.cells (l.map I) g z]) :=
  hm.app fun o ho => by simp at ho; subst ho; exact scs_map _ (fun n => .int .i64 n) l
theorem take_len {α : Type} {l : List α} {k : Nat} (h : l.length = k) : l.take k = l := List.take_of_length_le (by omega)

/-! The walk's equations, for 'simp'. -/
attribute [simp] go_nil go_inBlock go_skip go_exit go_ret go_region_lit go_seq go_block goX_nil goX_code goX_ops goX_same goX_other go_cond goB_true goB_false go_ops_nil go_op go_opg goW_true goW_false goO_move goO_assign goO_call goF_fn goV_some goP_none goP_some goO_pick goO_alloc goO_box goO_build goO_buildSlice goO_load goO_store goO_nilCheck goO_bin goO_un goO_convert goO_makeFunc goO_makeSlice goO_slice goO_fieldAddr goO_field goO_indexAddr goO_index goO_extract goO_builtin gD gWant undef aop aev_tmp aev_const aev_func aconst upd_app env0 env0_nil env0_cons aBin_ii aBin_ss aBin_bb abin aend ares aone wrap_id get_loc0 get_loc set_loc0 set_loc cont_loc0 cont_loc cont_here cont_next row_loc0 row_loc row_here row_next TI.isAgg aLoad aStore aNew aFieldAddr aIndexAddr aIndex aPart aField aLen aUn aConv aAppend aBuildSlice aMakeSlice aBuild aSlice AV.cs AV.one Value.oneCell' if_pos if_neg List.getElem?_cons_zero List.getElem?_cons_succ fillA zrep_zero zrep_succ0 zrep_one List.set_cons_zero List.set_cons_succ List.length_cons List.length_nil mkE_cons mkE_nil allE DK_normal LK_exit LK_ret dg_at mts_at sb_eq str_size aBound Option.map_none Option.map_some aMin aMax DK2_normal ptrNe_pp sepA_nil sepA_cons DK3_normal sepN_nil sepN_cons objNe_pp objNe_ps objNe_sp objNe_ss objNe_vx objNe_xv

end Go.Proofs.Ytkpjaffbbppneaa

/- Small functions of both sides. -/
namespace Go.Proofs.Ytkpjaffbbppneaa
open Go Go.RowKit

theorem in_c (n lo hi : Int) (m : List AO) (K : AV → List AO → Prop) (hk : K (B (decide (lo ≤ n) && decide (n ≤ hi))) m) : ACalls Try.prog 48 [I n, I lo, I hi] m K := by
  refine ACalls.enter Try.func48 rfl rfl Try.ntmps48 (congrArg Array.toList Try.results48) (by simp) fun hc => ?_
  by_cases h : lo ≤ n <;> simp (disch := omega) [h] at hk ⊢ <;> exact keep hk

theorem l01In_c (n lo hi : Int) (m : List AO) (K : AV → List AO → Prop) (hk : K (B (decide (lo ≤ n) && decide (n ≤ hi))) m) : ACalls Try.prog 39 [I n, I lo, I hi] m K := by
  refine ACalls.enter Try.func39 rfl rfl Try.ntmps39 (congrArg Array.toList Try.results39) (by simp) fun hc => ?_
  by_cases h : lo ≤ n <;> simp (disch := omega) [h] at hk ⊢ <;> exact keep hk

def plc (n i : Int) : Int := if i < n then i else 3 * n - 1 - i

theorem placeOf_c (n i : Int) (m : List AO) (K : AV → List AO → Prop) (h0 : 0 ≤ n) (h1 : n ≤ 8) (h2 : 0 ≤ i) (h3 : i ≤ 255) (hk : K (I (plc n i)) m) : ACalls Try.prog 63 [I n, I i] m K := by
  refine ACalls.enter Try.func63 rfl rfl Try.ntmps63 (congrArg Array.toList Try.results63) (by simp) fun hc => ?_
  unfold plc at hk
  by_cases h : i < n <;> simp (disch := omega) [h] at hk ⊢ <;> exact keep hk

theorem l01Place_c (n i : Int) (m : List AO) (K : AV → List AO → Prop) (h0 : 0 ≤ n) (h1 : n ≤ 8) (h2 : 0 ≤ i) (h3 : i ≤ 255) (hk : K (I (plc n i)) m) : ACalls Try.prog 58 [I n, I i] m K := by
  refine ACalls.enter Try.func58 rfl rfl Try.ntmps58 (congrArg Array.toList Try.results58) (by simp) fun hc => ?_
  unfold plc at hk
  by_cases h : i < n <;> simp (disch := omega) [h] at hk ⊢ <;> exact keep hk

theorem n_c (a : Nat) (n : Int) (f : Nat → Int) (m : List AO) (K : AV → List AO → Prop) (h : content m a 0 = some (dg n f)) (hk : K (I n) m) : ACalls Try.prog 16 [.ptr a 0 0] m K := by
  refine ACalls.enter Try.func16 rfl rfl Try.ntmps16 (congrArg Array.toList Try.results16) (by simp) fun hc => ?_
  simp (disch := omega) [h]
  exact keep hk

end Go.Proofs.Ytkpjaffbbppneaa

/- Texts of diagrams, both sides. -/
namespace Go.Proofs.Ytkpjaffbbppneaa
open Go Go.RowKit

theorem content_lt {m : List AO} {a g : Nat} {xs : List AV} (h : content m a g = some xs) : a < m.length := by
  unfold content at h
  cases h1 : m[a]? with
  | none => simp [h1] at h
  | some o => exact (List.getElem?_eq_some_iff.1 h1).1

def uby (l : List Int) : List UInt8 := l.map fun n => UInt8.ofNat n.toNat
@[simp] theorem bytesOf_u8 (l : List Int) : bytesOf (l.map U8) = some (uby l) := by
  induction l with
  | nil => rfl
  | cons a l ih => simp [bytesOf, ih, uby]

/-- The sign at a place of a diagram's text. -/
def sg (n : Int) (f : Nat → Int) (k : Nat) : Int := if (k : Int) < plc n (f (plc n k).toNat) then 40 else 41
def txs (n : Int) (f : Nat → Int) (k : Nat) : List Int := (List.range k).map (sg n f)
theorem txs_succ (n : Int) (f : Nat → Int) (k : Nat) : txs n f (k + 1) = txs n f k ++ [sg n f k] := by simp [txs, List.range_succ]
@[simp] theorem txs_len (n : Int) (f : Nat → Int) (k : Nat) : (txs n f k).length = k := by simp [txs]

theorem text_c (a : Nat) (n : Int) (f : Nat → Int) (m : List AO) (K : AV → List AO → Prop) (h : content m a 0 = some (dg n f)) (h0 : 0 ≤ n) (h1 : n ≤ 8) (hf : ∀ i, 0 ≤ f i ∧ f i ≤ 255) (hk : K (Str (uby (txs n f (2 * n).toNat))) m) : ACalls Try.prog 50 [.ptr a 0 0] m K := by
  refine ACalls.enter Try.func50 rfl rfl Try.ntmps50 (congrArg Array.toList Try.results50) (by simp) fun hc => ?_
  have ha : a < m.length := content_lt h
  simp (disch := omega)
  refine goCall_n rfl (n_c a n f m _ h ?_)
  simp (disch := omega)
  refine go_loop (α := {k : Nat // (k:Int) ≤ 2*n}) (fun k => mkE [(0,.ptr a 0 0),(3,I n),(4,.slice m.length 0 k.1 k.1),(10,I (2*n)),(11,I k.1)]) (fun k => m ++ [.cells ((txs n f k.1).map U8) k.1 1]) (fun k => (2*n).toNat - k.1) ⟨0, by omega⟩ (Wk.keep ?_) (fun ⟨k,hk2⟩ => ?_)
  · simp (disch := omega)
  by_cases hc : (k : Int) < 2 * n
  · have hp : 0 ≤ plc n k ∧ plc n k < 16 := by unfold plc; split <;> omega
    have hq := hf (plc n k).toNat
    simp (disch := omega) [hc]
    refine go_drawn [] false (by kernel_rfl) (by kernel_rfl) ?_
    simp (disch := omega)
    refine goCall_q rfl (placeOf_c n k _ _ h0 h1 (by omega) (by omega) ⟨rfl, rfl⟩) ?_
    simp (disch := omega) [cont_old _ ha, h]
    refine goCall_q rfl (placeOf_c n _ _ _ h0 h1 hq.1 hq.2 ⟨rfl, rfl⟩) ?_
    have e : sg n f k = if (k : Int) < plc n (f (plc n k).toNat) then 40 else 41 := rfl
    have tk : List.take k ((txs n f k).map U8) = (txs n f k).map U8 := take_len (by simp)
    have fin : ∀ env v, sg n f k = v → allE env [(0,.ptr a 0 0),(3,I n),(4,.slice m.length 0 (k + 1) (k + 1)),(10,I (2*n)),(11,I (k + 1))] → Wk m.length env (m ++ [AO.cells ((txs n f k).map U8 ++ [U8 v]) (k + 1) 1, .cells [U8 v] 0 1])
        (mkE [(0,.ptr a 0 0),(3,I n),(4,.slice m.length 0 (k + 1) (k + 1)),(10,I (2*n)),(11,I (k + 1 : Nat))]) (m ++ [.cells ((txs n f (k + 1)).map U8) (k + 1) 1]) := fun env v hv he =>
      Wk.cut [.cells ((txs n f (k + 1)).map U8) (k + 1) 1] [.cells [U8 v] 0 1] (by simp [txs_succ, hv]) rfl (by simpa using he) (Nat.le_refl _) (Closed.u8 ‹_› _ _ _) (by simp [allS, AV.sc]; omega)
    by_cases hd : (k : Int) < plc n (f (plc n k).toNat)
    · rw [if_pos hd] at e
      simp (disch := omega) [hd, tk]
      exact ⟨⟨k + 1, by omega⟩, fin _ _ e (by simp (disch := omega)), by simp; omega⟩
    · rw [if_neg hd] at e
      simp (disch := omega) [hd, tk]
      exact ⟨⟨k + 1, by omega⟩, fin _ _ e (by simp (disch := omega)), by simp; omega⟩
  · have e : k = (2 * n).toNat := by omega
    have tk : List.take k ((txs n f k).map U8) = (txs n f k).map U8 := take_len (by simp)
    simp (disch := omega) [hc, tk, bytesOf_u8]
    rw [e]
    exact drop ‹_› rfl hk

end Go.Proofs.Ytkpjaffbbppneaa

/- Rows of numbers; the matching of brackets, as a plain function. -/
namespace Go.Proofs.Ytkpjaffbbppneaa
open Go Go.RowKit

/-- A row of numbers. -/
def arr (N : Nat) (f : Nat → Int) : List AV := (List.range N).map fun i => I (f i)
@[simp] theorem arr_len (N : Nat) (f : Nat → Int) : (arr N f).length = N := by simp [arr]
theorem arr_at {N : Nat} (f : Nat → Int) {i : Nat} (h : i < N) : (arr N f)[i]? = some (I (f i)) := by simp [arr, h]
@[simp] theorem arr_set (N : Nat) (f : Nat → Int) (i : Nat) (v : Int) : (arr N f).set i (I v) = arr N (fset f i v) := by
  apply List.ext_getElem?
  intro j
  by_cases hj : j < N
  · rw [arr_at _ hj, List.getElem?_set]
    by_cases h : i = j
    · subst h; simp [fset, hj]
    · rw [if_neg h, arr_at _ hj]; simp [fset]; intro e; exact absurd e.symm h
  · rw [List.getElem?_eq_none (by simp; omega), List.getElem?_eq_none (by simp; omega)]
theorem arr_zero (N : Nat) : List.replicate N (AV.s (.int .i64 0)) = arr N fun _ => 0 := by
  apply List.ext_getElem?
  intro j
  by_cases hj : j < N
  · rw [arr_at _ hj]; simp [hj]
  · rw [List.getElem?_eq_none (by simp; omega), List.getElem?_eq_none (by simp; omega)]
@[simp] theorem arr_sc (L N : Nat) (f : Nat → Int) : scs L (arr N f) = true := scs_map L (fun i => .int .i64 (f i)) _
@[simp] theorem arr_all (N : Nat) (f : Nat → Int) : (arr N f).all AV.one = true := all_map (fun i => .int .i64 (f i)) (fun _ => rfl) _

@[simp] theorem uby_len (l : List Int) : (uby l).length = l.length := by simp [uby]
theorem sb_uby (l : List Int) (k : Nat) (h : k < l.length) (hb : 0 ≤ l[k] ∧ l[k] ≤ 255) : sb (uby l) k = l[k] := by
  simp only [sb, uby, List.getD_eq_getElem?_getD, List.getElem?_map, List.getElem?_eq_getElem h, Option.map_some, Option.getD_some]
  rw [UInt8.toNat_ofNat']
  omega
theorem sb_txs (n : Int) (f : Nat → Int) (N k : Nat) (h : k < N) : sb (uby (txs n f N)) k = sg n f k := by
  have e : (txs n f N)[k]'(by simpa using h) = sg n f k := by simp [txs]
  rw [sb_uby _ _ (by simpa using h) (by rw [e]; unfold sg; split <;> omega), e]

/-- Brackets matched, so far: who is joined with whom, and the open ones, the last one first. -/
def pst (t : Nat → Int) : Nat → Option ((Nat → Int) × List Nat)
  | 0 => some (fun _ => 0, [])
  | k + 1 => match pst t k with
    | none => none
    | some (out, stk) =>
      if t k = 40 then some (out, k :: stk)
      else if t k ≠ 41 then none
      else match stk with
        | [] => none
        | i :: r => some (fset (fset out i k) k i, r)
theorem pst_none (t : Nat → Int) (k : Nat) (h : pst t k = none) : ∀ N, k ≤ N → pst t N = none := by
  intro N hN
  induction N with
  | zero => have : k = 0 := by omega
            subst this; exact h
  | succ N ih =>
    by_cases e : k = N + 1
    · subst e; exact h
    · simp only [pst, ih (by omega)]
theorem pst_lt (t : Nat → Int) : ∀ k out stk, pst t k = some (out, stk) → stk.length ≤ k ∧ ∀ i ∈ stk, i < k
  | 0, out, stk, h => by simp [pst] at h; obtain ⟨_, rfl⟩ := h; simp
  | k + 1, out, stk, h => by
    simp only [pst] at h
    cases hp : pst t k with
    | none => simp [hp] at h
    | some s =>
      obtain ⟨o, st⟩ := s
      obtain ⟨h1, h2⟩ := pst_lt t k o st hp
      simp only [hp] at h
      split at h
      · simp at h; obtain ⟨_, rfl⟩ := h
        simp; exact ⟨h1, fun i hi => Nat.lt_succ_of_lt (h2 i hi)⟩
      · split at h
        · simp at h
        · cases st with
          | nil => simp at h
          | cons i r =>
            simp at h; obtain ⟨_, rfl⟩ := h
            simp at h1
            exact ⟨by omega, fun j hj => Nat.lt_succ_of_lt (h2 j (by simp [hj]))⟩

/-- The open ones as a row, the first one first. -/
def stkL (stk : List Nat) : List AV := stk.reverse.map fun i : Nat => I (i : Int)
@[simp] theorem stkL_len (stk : List Nat) : (stkL stk).length = stk.length := by simp [stkL]
theorem stkL_push (k : Nat) (stk : List Nat) : stkL (k :: stk) = stkL stk ++ [I k] := by simp [stkL]
theorem stkL_at (i : Nat) (r : List Nat) (j : List AV) : (stkL (i :: r) ++ j)[r.length]? = some (I i) := by
  rw [stkL_push, List.append_assoc, List.getElem?_append_right (by simp)]; simp
theorem stkL_take (stk : List Nat) (j : List AV) : (stkL stk ++ j).take stk.length = stkL stk := by
  rw [List.take_left' (by simp)]
@[simp] theorem stkL_sc (L : Nat) (stk : List Nat) : scs L (stkL stk) = true := scs_map L (fun i : Nat => .int .i64 (i : Int)) _
theorem scs_app (L : Nat) : ∀ xs ys : List AV, scs L (xs ++ ys) = (scs L xs && scs L ys)
  | [], ys => by simp [scs]
  | x :: xs, ys => by simp [scs, scs_app L xs ys, Bool.and_assoc]

end Go.Proofs.Ytkpjaffbbppneaa

/- Reading texts: partners, joined, read. -/
namespace Go.Proofs.Ytkpjaffbbppneaa
open Go Go.RowKit

/-- How partners ends. -/
def parK (s : List UInt8) (m : List AO) (K : AV → List AO → Prop) : Prop :=
  match pst (sb s) s.length with
  | some (out, stk) => K (.tup [.slice m.length 0 s.length 0, B (decide (stk = []))]) (m ++ [.cells (arr s.length out) 0 1])
  | none => K (.tup [.s (.slice none 0 0), B false]) m

set_option maxHeartbeats 1000000 in
theorem partners_c (s : List UInt8) (m : List AO) (K : AV → List AO → Prop) (hs : s.length ≤ 16) (hk : parK s m K) : ACalls Try.prog 61 [Str s] m K := by
  refine ACalls.enter Try.func61 rfl rfl Try.ntmps61 (congrArg Array.toList Try.results61) (by simp) fun hc => ?_
  simp (disch := omega) [arr_zero, aLen]
  refine go_loop (α := {x : Nat × (Nat → Int) × List Nat × List AV × Nat // pst (sb s) x.1 = some (x.2.1, x.2.2.1) ∧ x.1 ≤ s.length})
    (fun x => mkE [(0, Str s), (4, .slice m.length 0 s.length 0), (5, .slice (m.length + 1) 0 x.1.2.2.1.length x.1.2.2.2.2), (13, I s.length), (14, I x.1.1)])
    (fun x => m ++ [.cells (arr s.length x.1.2.1) 0 1, .cells (stkL x.1.2.2.1 ++ x.1.2.2.2.1) x.1.2.2.2.2 1])
    (fun x => s.length - x.1.1) ⟨(0, fun _ => 0, [], [], 0), rfl, Nat.zero_le _⟩ (Wk.keep ?_) (fun ⟨(k, out, stk, junk, g), hp, hkl⟩ => ?_)
  · simp (disch := omega)
  obtain ⟨hl1, hl2⟩ := pst_lt _ _ _ _ hp
  simp only at hp hkl hl1 hl2
  by_cases hc : k < s.length
  · have hsb : ((s[k]'hc).toNat : Int) = sb s k := by simp [sb, hc]
    by_cases h40 : sb s k = 40
    · simp (disch := omega) [hc, hsb, h40, stkL_take]
      refine ⟨⟨(k + 1, out, k :: stk, [], g + 1), by simp [pst, hp, h40], hc⟩, Wk.cut [.cells (arr s.length out) 0 1, .cells (stkL (k :: stk)) (g + 1) 1] [_] (by simp [stkL_push]; rfl) (by simp) (by simp (disch := omega)) (Nat.le_refl _) ?_ ?_, by simp; omega⟩
      · exact Closed.app ‹_› (by simp [AO.sc])
      · simp [allS, AV.sc]
    by_cases h41 : sb s k = 41
    · cases stk with
      | nil =>
        have hno : pst (sb s) s.length = none := pst_none _ (k + 1) (by simp [pst, hp, h41]) _ hc
        simp (disch := omega) [hc, hsb, h40, h41]
        simp only [parK, hno] at hk
        exact drop ‹_› rfl hk
      | cons i r =>
        have hi : i < k := hl2 i (by simp)
        have hr : r.length + 1 ≤ k := by simpa using hl1
        have hz : ¬((r.length : Int) + 1 = 0) := by omega
        simp (disch := omega) [hc, hsb, h40, h41, stkL_at, arr_set, hz]
        refine ⟨⟨(k + 1, fset (fset out i k) k i, r, I i :: junk, g), by simp [pst, hp, h41], hc⟩, Wk.same (by simp [stkL_push]) (by simp (disch := omega)), by simp; omega⟩
    · have hno : pst (sb s) s.length = none := pst_none _ (k + 1) (by simp [pst, hp, h40, h41]) _ hc
      simp (disch := omega) [hc, hsb, h40, h41]
      simp only [parK, hno] at hk
      exact drop ‹_› rfl hk
  · have e : k = s.length := by omega
    subst e
    simp (disch := omega) [hc]
    simp only [parK, hp] at hk
    exact dropE (n := m.length) (m ++ [.cells (arr s.length out) 0 1]) [.cells (stkL stk ++ junk) g 1] (by simp) (by simp) (Closed.app ‹_› (by simp [AO.sc])) (by simp [AV.sc, scs]) hk

/-- The diagram of a size in which places are joined, so far. -/
def jn (n : Nat) (p : Nat → Int) : Nat → Nat → Int
  | 0 => fun _ => 0
  | k + 1 => fset (jn n p k) (plc n k).toNat (plc n (p k))

theorem joined_c (n N a g : Nat) (p : Nat → Int) (m : List AO) (K : AV → List AO → Prop) (h : content m a g = some (arr N p)) (hn : n ≤ 8) (hN : N ≤ 2 * n) (hp : ∀ k, k < N → 0 ≤ p k ∧ p k < 2 * n) (hk : K (.agg (dg n (jn n p N))) m) : ACalls Try.prog 62 [I n, .slice a 0 N g] m K := by
  refine ACalls.enter Try.func62 rfl rfl Try.ntmps62 (congrArg Array.toList Try.results62) (by simp) fun hc => ?_
  have ha : a < m.length := content_lt h
  simp (disch := omega) [cont_old _ ha, h]
  refine go_loop (α := {k : Nat // k ≤ N}) (fun k => mkE [(0, I n), (4, .ptr m.length 0 0), (5, .ptr (m.length + 1) 0 0), (10, .slice a 0 N g), (11, I N), (12, I k.1)])
    (fun k => m ++ [.cells (dg 0 fun _ => 0) 0 1, .cells (dg n (jn n p k.1)) 0 1]) (fun k => N - k.1) ⟨0, Nat.zero_le _⟩ (Wk.same rfl (by simp (disch := omega))) (fun ⟨k, hk2⟩ => ?_)
  by_cases hc : k < N
  · have h1 := hp k hc
    have e1 : 0 ≤ plc n k ∧ plc n k < 16 := by unfold plc; split <;> omega
    have e2 : 0 ≤ plc n (p k) ∧ plc n (p k) < 16 := by unfold plc; split <;> omega
    simp (disch := omega) [hc, cont_old _ ha, h, arr_at]
    refine goCall_n rfl (placeOf_c _ _ _ _ (by omega) (by omega) (by omega) (by omega) ?_)
    simp (disch := omega)
    refine goCall_n rfl (placeOf_c _ _ _ _ (by omega) (by omega) (by omega) (by omega) ?_)
    simp (disch := omega) [wrap8_id]
    exact ⟨⟨k + 1, hc⟩, Wk.same (by simp [jn]) (by simp (disch := omega)), by simp; omega⟩
  · have e : k = N := by omega
    subst e
    simp (disch := omega) [hc]
    exact dropE (n := m.length) m _ rfl (Nat.le_refl _) ‹_› (by simp [AV.sc]) hk

end Go.Proofs.Ytkpjaffbbppneaa

/- Reading texts, and what is a diagram: the given side. -/
namespace Go.Proofs.Ytkpjaffbbppneaa
open Go Go.RowKit

theorem pst_bd (t : Nat → Int) : ∀ k out stk, pst t k = some (out, stk) → ∀ j, 0 ≤ out j ∧ (out j < k ∨ out j = 0)
  | 0, out, stk, h => by simp [pst] at h; obtain ⟨rfl, _⟩ := h; simp
  | k + 1, out, stk, h => by
    simp only [pst] at h
    cases hp : pst t k with
    | none => simp [hp] at h
    | some s =>
      obtain ⟨o, st⟩ := s
      have ih := pst_bd t k o st hp
      have hl := (pst_lt t k o st hp).2
      simp only [hp] at h
      split at h
      · simp at h; obtain ⟨rfl, _⟩ := h
        intro j; have := ih j; omega
      · split at h
        · simp at h
        · cases st with
          | nil => simp at h
          | cons i r =>
            simp at h; obtain ⟨rfl, _⟩ := h
            have hi := hl i (by simp)
            intro j; have := ih j
            simp only [fset]; split
            · omega
            · split <;> omega

/-- How read ends. -/
def rdV (s : List UInt8) : AV :=
  if s.length % 2 = 0 ∧ 2 ≤ s.length ∧ s.length ≤ 16 then
    match pst (sb s) s.length with
    | some (out, []) => .tup [.agg (dg ((s.length / 2 : Nat) : Int) (jn (s.length / 2) out s.length)), B true]
    | _ => .tup [.agg (dg 0 fun _ => 0), B false]
  else .tup [.agg (dg 0 fun _ => 0), B false]

set_option maxHeartbeats 1000000 in
theorem read_c (s : List UInt8) (m : List AO) (K : AV → List AO → Prop) (hs : s.length ≤ 1099511627776) (hk : K (rdV s) m) : ACalls Try.prog 49 [Str s] m K := by
  refine ACalls.enter Try.func49 rfl rfl Try.ntmps49 (congrArg Array.toList Try.results49) (by simp) fun hc => ?_
  by_cases h2 : s.length % 2 = 0
  · have h2' : ((s.length : Int)).tmod 2 = 0 := by rw [tmod_pos (by omega) (by omega)]; omega
    simp (disch := omega) [h2', aLen]
    refine goCall_n rfl (in_c _ _ _ _ _ ?_)
    by_cases hr : 2 ≤ s.length ∧ s.length ≤ 16
    · obtain ⟨hr1, hr2⟩ := hr
      have d1 : ((2:Int) ≤ s.length) := by omega
      have d2 : ((s.length : Int) ≤ 16) := by omega
      simp (disch := omega) [d1, d2]
      refine goCall_n rfl (partners_c s _ _ hr2 ?_)
      unfold parK
      unfold rdV at hk
      rw [if_pos ⟨h2, hr1, hr2⟩] at hk
      have e5 : ((s.length : Int)).tdiv 2 = ((s.length / 2 : Nat) : Int) := by rw [tdiv_pos (by omega) (by omega)]; omega
      cases hp : pst (sb s) s.length with
      | none =>
        simp only [hp] at hk
        simp (disch := omega)
        exact dropE (n := m.length) m _ rfl (Nat.le_refl _) ‹_› (by simp [AV.sc, scs]) hk
      | some x =>
        obtain ⟨out, stk⟩ := x
        simp only [hp] at hk
        cases stk with
        | nil =>
          simp (disch := omega) [e5]
          refine goCall_n rfl (joined_c (s.length / 2) s.length _ 0 out _ _ (by simp (disch := omega)) (by omega) (by omega) (fun k hk2 => ?_) ?_)
          · have := pst_bd _ _ _ _ hp k; omega
          simp (disch := omega)
          exact dropE (n := m.length) m _ rfl (Nat.le_refl _) ‹_› (by simp [AV.sc, scs]) hk
        | cons i r =>
          simp (disch := omega)
          exact dropE (n := m.length) m _ rfl (Nat.le_refl _) ‹_› (by simp [AV.sc, scs]) hk
    · unfold rdV at hk
      rw [if_neg (fun h => hr h.2)] at hk
      have d3 : (decide ((2:Int) ≤ s.length) && decide ((s.length : Int) ≤ 16)) = false := by
        rw [Bool.and_eq_false_iff]; simp; omega
      simp (disch := omega) [d3]
      exact dropE (n := m.length) m _ rfl (Nat.le_refl _) ‹_› (by simp [AV.sc, scs]) hk
  · have h2' : ¬ ((s.length : Int)).tmod 2 = 0 := by rw [tmod_pos (by omega) (by omega)]; omega
    unfold rdV at hk
    rw [if_neg (fun h => h2 h.1)] at hk
    simp (disch := omega) [h2', aLen]
    exact dropE (n := m.length) m _ rfl (Nat.le_refl _) ‹_› (by simp [AV.sc, scs]) hk

/-- Two diagrams compared. -/
def dgEq (n : Int) (f : Nat → Int) (n' : Int) (f' : Nat → Int) : Bool := n == n' && (List.range 16).all fun i => f i == f' i
theorem eqA_succ (P : Program) (d : Nat) (t : TypeId) (x y : AV) : eqA P (d + 1) t x y = (match mkTI P t, x, y with
    | some { d := .bool, .. }, .s (.bool a), .s (.bool b) => some (a == b)
    | some { d := .int _, .. }, .s (.int k a), .s (.int k' b) => if k = k' then some (a == b) else none
    | some { d := .str, .. }, .s (.string a), .s (.string b) => some (a.toList == b.toList)
    | some { d := .struct fs, .. }, .agg xs, .agg ys => if plainS P t = true then eqFsA (eqA P d) P xs ys fs else none
    | some { d := .arr n e, .. }, .agg xs, .agg ys => match mkTI P e with
      | some ei => eqArA (eqA P d) P e ei.size xs ys (List.range n)
      | none => none
    | _, _, _ => none) := rfl
theorem eqA_u8 (d : Nat) (a b : Int) : eqA Try.prog (d + 1) 5 (U8 a) (U8 b) = some (a == b) := by rw [eqA_succ]; simp only [ti5]; simp
theorem eqA_i64 (d : Nat) (a b : Int) : eqA Try.prog (d + 1) 2 (I a) (I b) = some (a == b) := by rw [eqA_succ]; simp only [ti2]; simp
theorem eqMts (d : Nat) (f f' : Nat → Int) : ∀ l : List Nat, (∀ i ∈ l, i < 16) → eqArA (eqA Try.prog (d + 1)) Try.prog 5 1 (mts f) (mts f') l = some (l.all fun i => f i == f' i)
  | [], _ => rfl
  | i :: l, h => by
    have hi := h i (by simp)
    have ih := eqMts d f f' l fun j hj => h j (by simp [hj])
    simp only [eqArA, aPart, ti5, TI.isAgg, Nat.mul_one, mts_at _ hi, eqA_u8, ih, if_false, Bool.false_eq_true]
    by_cases he : f i = f' i
    · simp [he]
    · have hb : (f i == f' i) = false := by simpa using he
      simp only [hb, List.all_cons, Bool.false_and]
theorem eqA_mts (d : Nat) (f f' : Nat → Int) : eqA Try.prog (d + 2) 22 (.agg (mts f)) (.agg (mts f')) = some ((List.range 16).all fun i => f i == f' i) := by
  rw [eqA_succ]
  simp only [ti22, ti5]
  exact eqMts d f f' _ (fun i hi => by simpa using hi)
theorem eqA_dg (d : Nat) (n : Int) (f : Nat → Int) (n' : Int) (f' : Nat → Int) : eqA Try.prog (d + 3) 28 (.agg (dg n f)) (.agg (dg n' f')) = some (dgEq n f n' f') := by
  have h1 : plainS Try.prog 28 = true := by kernel_rfl
  rw [eqA_succ]
  simp only [ti28, h1, if_true, eqFsA, aPart, ti2, ti22, TI.isAgg, dg_0, dg_drop, mts_take, if_false, Bool.false_eq_true, eqA_i64, eqA_mts, dgEq]
  by_cases he : n = n'
  · cases hq : (List.range 16).all fun i => f i == f' i <;> simp [he]
  · have hb : (n == n') = false := by simpa using he
    simp only [hb, Bool.false_and]
theorem aBin_dg (n : Int) (f : Nat → Int) (n' : Int) (f' : Nat → Int) : aBin Try.prog .eql 28 (.agg (dg n f)) (.agg (dg n' f')) = some (B (dgEq n f n' f')) := by
  have h0 : Try.prog.eqGuardType Try.prog.depth 28 = false := by kernel_rfl
  simp only [aBin, h0, if_true, eqA_dg, Option.map_some]

/-- What IsDiagram looks at first. -/
def bnd1 (n : Int) (f : Nat → Int) (i : Nat) : Bool := if 2 * n ≤ i then f i == 0 else decide (f i < 2 * n)
def isD (n : Int) (f : Nat → Int) : Bool :=
  decide (1 ≤ n) && decide (n ≤ 8) && (List.range 16).all (bnd1 n f) &&
    match pst (sg n f) (2 * n).toNat with
    | some (out, []) => (List.range 16).all fun i => jn n.toNat out (2 * n).toNat i == f i
    | _ => false

end Go.Proofs.Ytkpjaffbbppneaa

/- What is a diagram: the given side. -/
namespace Go.Proofs.Ytkpjaffbbppneaa
open Go Go.RowKit

theorem isD_false1 {n : Int} {f : Nat → Int} {i : Nat} (hi : i < 16) (h : bnd1 n f i = false) : isD n f = false := by
  have : (List.range 16).all (bnd1 n f) = false := by
    rw [Bool.eq_false_iff]; intro ha
    rw [List.all_eq_true] at ha
    rw [ha i (by simpa using hi)] at h; simp at h
  simp [isD, this]

theorem rdV_txs (n : Int) (f : Nat → Int) (h0 : 1 ≤ n) (h1 : n ≤ 8) : rdV (uby (txs n f (2 * n).toNat)) = match pst (sg n f) (2 * n).toNat with
    | some (out, []) => .tup [.agg (dg n (jn n.toNat out (2 * n).toNat)), B true]
    | _ => .tup [.agg (dg 0 fun _ => 0), B false] := by
  have hl : (uby (txs n f (2 * n).toNat)).length = (2 * n).toNat := by simp
  have hp : ∀ N, N ≤ (2 * n).toNat → pst (sb (uby (txs n f (2 * n).toNat))) N = pst (sg n f) N := by
    intro N
    induction N with
    | zero => intro _; rfl
    | succ N ih =>
      intro hN
      simp only [pst, ih (by omega), sb_txs n f _ _ hN]
  unfold rdV
  rw [hl, hp _ (Nat.le_refl _), if_pos ⟨by omega, by omega, by omega⟩]
  have e1 : (2 * n).toNat / 2 = n.toNat := by omega
  have e2 : ((n.toNat : Nat) : Int) = n := by omega
  rw [e1, e2]; all_goals rfl

set_option maxHeartbeats 2000000 in
theorem IsDiagram_c (n : Int) (f : Nat → Int) (m : List AO) (K : AV → List AO → Prop) (hf : ∀ i, 0 ≤ f i ∧ f i ≤ 255) (hk : K (B (isD n f)) m) : ACalls Try.prog 31 [.agg (dg n f)] m K := by
  refine ACalls.enter Try.func31 rfl rfl Try.ntmps31 (congrArg Array.toList Try.results31) (by simp) fun hc => ?_
  have hcl : Closed m := ‹_›
  simp (disch := omega)
  refine goCall_n rfl (in_c _ _ _ _ _ ?_)
  by_cases hr : 1 ≤ n ∧ n ≤ 8
  · obtain ⟨h0, h1⟩ := hr
    have hcont : content (m ++ [.cells (dg n f) 0 1]) m.length 0 = some (dg n f) := by simp (disch := omega)
    simp (disch := omega) [h0, h1]
    refine go_loop (α := {i : Nat // i ≤ 16 ∧ ∀ j, j < i → bnd1 n f j = true}) (fun i => mkE [(1, .ptr m.length 0 0), (12, .agg (mts f)), (13, I i.1)])
      (fun i => m ++ [.cells (dg n f) 0 1]) (fun i => 16 - i.1) ⟨0, Nat.zero_le _, fun j hj => by omega⟩ (Wk.same rfl (by simp (disch := omega))) (fun ⟨i, hi, hb⟩ => ?_)
    by_cases hc : i < 16
    · have hci : (i : Int) < 16 := by omega
      have hfi := hf i
      simp (disch := omega) [hci, aPart]
      refine goCall_n rfl (n_c _ n f _ _ hcont ?_)
      by_cases h2 : 2 * n ≤ i
      · simp (disch := omega) [h2]
        by_cases hz : f i = 0
        · simp (disch := omega) [hz]
          refine goCall_n rfl (n_c _ n f _ _ hcont ?_)
          have h3 : ¬ (i : Int) < 2 * n := by omega
          simp (disch := omega) [h3]
          exact ⟨⟨i + 1, hc, fun j hj => by
            by_cases e : j = i
            · subst e; simp [bnd1, h2, hz]
            · exact hb j (by omega)⟩, Wk.same rfl (by simp (disch := omega)), by simp; omega⟩
        · simp (disch := omega) [hz]
          rw [isD_false1 hc (by simp [bnd1, h2, hz])] at hk
          exact dropE (n := m.length) m _ rfl (Nat.le_refl _) hcl (by simp [AV.sc, scs]) hk
      · have h3 : (i : Int) < 2 * n := by omega
        simp (disch := omega) [h2, h3]
        refine goCall_n rfl (n_c _ n f _ _ hcont ?_)
        simp (disch := omega) [h2, h3]
        refine goCall_n rfl (n_c _ n f _ _ hcont ?_)
        by_cases h4 : 2 * n ≤ f i
        · simp (disch := omega) [h4]
          rw [isD_false1 hc (by simp [bnd1, h2]; omega)] at hk
          exact dropE (n := m.length) m _ rfl (Nat.le_refl _) hcl (by simp [AV.sc, scs]) hk
        · simp (disch := omega) [h4]
          exact ⟨⟨i + 1, hc, fun j hj => by
            by_cases e : j = i
            · subst e; simp [bnd1, h2]; omega
            · exact hb j (by omega)⟩, Wk.same rfl (by simp (disch := omega)), by simp; omega⟩
    · have e : i = 16 := by omega
      subst e
      have hall : (List.range 16).all (bnd1 n f) = true := by rw [List.all_eq_true]; intro j hj; exact hb j (by simpa using hj)
      simp (disch := omega)
      refine goCall_n rfl (text_c _ n f _ _ hcont (by omega) h1 hf ?_)
      simp (disch := omega)
      refine goCall_n rfl (read_c _ _ _ (by simp; omega) ?_)
      rw [rdV_txs n f h0 h1]
      have hI : isD n f = match pst (sg n f) (2 * n).toNat with
          | some (out, []) => (List.range 16).all fun i => jn n.toNat out (2 * n).toNat i == f i
          | _ => false := by simp [isD, h0, h1, hall]; all_goals rfl
      rw [hI] at hk
      cases hq : pst (sg n f) (2 * n).toNat with
      | none => 
        simp only [hq] at hk
        simp (disch := omega)
        exact dropE (n := m.length) m _ rfl (Nat.le_refl _) hcl (by simp [AV.sc, scs]) hk
      | some x =>
        obtain ⟨out, stk⟩ := x
        cases stk with
        | nil =>
          simp only [hq] at hk
          have hE : dgEq n (jn n.toNat out (2 * n).toNat) n f = (List.range 16).all fun i => jn n.toNat out (2 * n).toNat i == f i := by simp only [dgEq, beq_self_eq_true, Bool.true_and]
          rw [← hE] at hk
          simp (disch := omega) [aBin_dg]
          exact dropE (n := m.length) m _ rfl (Nat.le_refl _) hcl (by simp [AV.sc, scs]) hk
        | cons i r => 
          simp only [hq] at hk
          simp (disch := omega)
          exact dropE (n := m.length) m _ rfl (Nat.le_refl _) hcl (by simp [AV.sc, scs]) hk
  · have d3 : (decide ((1:Int) ≤ n) && decide (n ≤ 8)) = false := by
      rw [Bool.and_eq_false_iff]; simp; omega
    have hI : isD n f = false := by simp [isD, d3]
    rw [hI] at hk
    simp (disch := omega) [d3]
    exact dropE (n := m.length) m _ rfl (Nat.le_refl _) hcl (by simp [AV.sc, scs]) hk

end Go.Proofs.Ytkpjaffbbppneaa

/- What is a diagram: the reference's side. -/
namespace Go.Proofs.Ytkpjaffbbppneaa
open Go Go.RowKit

def en1 (n : Int) (f : Nat → Int) (i : Nat) : Int := if plc n (f i) < plc n i then plc n (f i) else plc n i
def en2 (n : Int) (f : Nat → Int) (i : Nat) : Int := if plc n i < plc n (f i) then plc n (f i) else plc n i

theorem l01Ends_c (n : Int) (f : Nat → Int) (i : Nat) (m : List AO) (K : AV → List AO → Prop) (h0 : 0 ≤ n) (h1 : n ≤ 8) (hi : i < 16) (hf : ∀ i, 0 ≤ f i ∧ f i ≤ 255) (hk : K (.tup [I (en1 n f i), I (en2 n f i)]) m) : ACalls Try.prog 40 [.agg (dg n f), I i] m K := by
  refine ACalls.enter Try.func40 rfl rfl Try.ntmps40 (congrArg Array.toList Try.results40) (by simp) fun hc => ?_
  have hcl : Closed m := ‹_›
  have hfi := hf i
  simp (disch := omega)
  refine go_drawn [] false (by kernel_rfl) (by kernel_rfl) ?_
  simp (disch := omega)
  refine goCall_q rfl (l01Place_c n i _ _ h0 h1 (by omega) (by omega) ⟨rfl, rfl⟩) ?_
  simp (disch := omega)
  refine goCall_q rfl (l01Place_c n _ _ _ h0 h1 hfi.1 hfi.2 ⟨rfl, rfl⟩) ?_
  simp (disch := omega)
  exact dropE (n := m.length) m _ rfl (Nat.le_refl _) hcl (by simp [AV.sc, scs]) hk

/-- What the reference looks at first. -/
def sp1 (n : Int) (f : Nat → Int) (i : Nat) : Bool := if 2 * n ≤ i then f i == 0 else decide (f i < 2 * n) && (f i != i && f (f i).toNat == i)
def crs (n : Int) (f : Nat → Int) (i k : Nat) : Bool := decide (en1 n f i < en1 n f k) && (decide (en1 n f k < en2 n f i) && decide (en2 n f i < en2 n f k))
def isS (n : Int) (f : Nat → Int) : Bool :=
  decide (1 ≤ n) && decide (n ≤ 8) && (List.range 16).all (sp1 n f) && (List.range (2 * n).toNat).all fun i => (List.range (2 * n).toNat).all fun k => !crs n f i k

theorem isS_false1 {n : Int} {f : Nat → Int} {i : Nat} (hi : i < 16) (h : sp1 n f i = false) : isS n f = false := by
  have : (List.range 16).all (sp1 n f) = false := by
    rw [Bool.eq_false_iff]; intro ha
    rw [List.all_eq_true] at ha
    rw [ha i (by simpa using hi)] at h; simp at h
  simp [isS, this]
theorem isS_false2 {n : Int} {f : Nat → Int} {i k : Nat} (hi : i < (2 * n).toNat) (hk : k < (2 * n).toNat) (h : crs n f i k = true) : isS n f = false := by
  have : ((List.range (2 * n).toNat).all fun i => (List.range (2 * n).toNat).all fun k => !crs n f i k) = false := by
    rw [Bool.eq_false_iff]; intro ha
    rw [List.all_eq_true] at ha
    have := ha i (by simpa using hi)
    rw [List.all_eq_true] at this
    have := this k (by simpa using hk)
    rw [h] at this; simp at this
  simp only [isS, this, Bool.and_false]

set_option maxHeartbeats 4000000 in
theorem l01Is_c (n : Int) (f : Nat → Int) (m : List AO) (K : AV → List AO → Prop) (hf : ∀ i, 0 ≤ f i ∧ f i ≤ 255) (hk : K (B (isS n f)) m) : ACalls Try.prog 23 [.agg (dg n f)] m K := by
  refine ACalls.enter Try.func23 rfl rfl Try.ntmps23 (congrArg Array.toList Try.results23) (by simp) fun hc => ?_
  have hcl : Closed m := ‹_›
  simp (disch := omega)
  refine goCall_n rfl (l01In_c _ _ _ _ _ ?_)
  by_cases hr : 1 ≤ n ∧ n ≤ 8
  · obtain ⟨h0, h1⟩ := hr
    have bad : ∀ tl, K (B false) m → ∃ m', Trunc m.length (m ++ tl) (B false) m' ∧ K (B false) m' := fun tl hk => dropE (n := m.length) m _ rfl (Nat.le_refl _) hcl (by simp [AV.sc, scs]) hk
    simp (disch := omega) [h0, h1]
    refine go_loop (α := {i : Nat // i ≤ 16 ∧ ∀ j, j < i → sp1 n f j = true}) (fun i => mkE [(1, .ptr m.length 0 0), (3, I n), (4, I i.1)])
      (fun i => m ++ [.cells (dg n f) 0 1]) (fun i => 16 - i.1) ⟨0, Nat.zero_le _, fun j hj => by omega⟩ (Wk.same rfl (by simp (disch := omega))) (fun ⟨i, hi, hb⟩ => ?_)
    by_cases hc : i < 16
    · have hci : (i : Int) < 16 := by omega
      have hfi := hf i
      have next : ∀ env, sp1 n f i = true → allE env [(1, .ptr m.length 0 0), (3, I n), (4, I (i + 1))] → _ := fun env hs he => (show ∃ x' : {i : Nat // i ≤ 16 ∧ ∀ j, j < i → sp1 n f j = true}, Wk m.length env (m ++ [.cells (dg n f) 0 1]) (mkE [(1, .ptr m.length 0 0), (3, I n), (4, I x'.1)]) (m ++ [.cells (dg n f) 0 1]) ∧ 16 - x'.1 < 16 - i from
        ⟨⟨i + 1, hc, fun j hj => by
            by_cases e : j = i
            · subst e; exact hs
            · exact hb j (by omega)⟩, Wk.same rfl (by simpa using he), by simp; omega⟩)
      by_cases h2 : 2 * n ≤ i
      · by_cases hz : f i = 0
        · simp (disch := omega) [hci, h2, hz]
          exact next _ (by simp [sp1, h2, hz]) (by simp (disch := omega))
        · rw [isS_false1 hc (by simp [sp1, h2, hz])] at hk
          simp (disch := omega) [hci, h2, hz]
          exact bad _ hk
      · by_cases h3 : 2 * n ≤ f i
        · rw [isS_false1 hc (by simp [sp1, h2]; omega)] at hk
          simp (disch := omega) [hci, h2, h3]
          exact bad _ hk
        · by_cases h4 : f i = i
          · rw [isS_false1 hc (by simp [sp1, h2, h4])] at hk
            simp (disch := omega) [hci, h2, h3, h4]
            exact bad _ hk
          · have hb2 := hf (f i).toNat
            by_cases h5 : f (f i).toNat = i
            · simp (disch := omega) [hci, h2, h3, h4, h5]
              exact next _ (by simp [sp1, h2, h4, h5]; omega) (by simp (disch := omega))
            · rw [isS_false1 hc (by simp [sp1, h2, h5])] at hk
              simp (disch := omega) [hci, h2, h3, h4, h5]
              exact bad _ hk
    · have e : i = 16 := by omega
      subst e
      have hall : (List.range 16).all (sp1 n f) = true := by rw [List.all_eq_true]; intro j hj; exact hb j (by simpa using hj)
      simp (disch := omega)
      refine go_loop (α := {i : Nat // i ≤ (2 * n).toNat ∧ ∀ a, a < i → ∀ b, b < (2 * n).toNat → crs n f a b = false}) (fun i => mkE [(1, .ptr m.length 0 0), (3, I n), (6, I i.1)])
        (fun i => m ++ [.cells (dg n f) 0 1]) (fun i => (2 * n).toNat - i.1) ⟨0, Nat.zero_le _, fun j hj => by omega⟩ (Wk.same rfl (by simp (disch := omega))) (fun ⟨i, hi, hb2⟩ => ?_)
      by_cases hc2 : (i : Int) < 2 * n
      · simp (disch := omega) [hc2]
        refine goCall_n rfl (l01Ends_c n f i _ _ (by omega) h1 (by omega) hf ?_)
        simp (disch := omega)
        refine go_loop (α := {k : Nat // k ≤ (2 * n).toNat ∧ ∀ b, b < k → crs n f i b = false}) (fun k => mkE [(1, .ptr m.length 0 0), (3, I n), (6, I i), (7, I (en1 n f i)), (8, I (en2 n f i)), (9, I k.1)])
          (fun i => m ++ [.cells (dg n f) 0 1]) (fun k => (2 * n).toNat - k.1) ⟨0, Nat.zero_le _, fun j hj => by omega⟩ (Wk.same rfl (by simp (disch := omega))) (fun ⟨k, hk1, hk2⟩ => ?_)
        by_cases hc3 : (k : Int) < 2 * n
        · simp (disch := omega) [hc3]
          refine goCall_n rfl (l01Ends_c n f k _ _ (by omega) h1 (by omega) hf ?_)
          have next : ∀ env, crs n f i k = false → allE env [(1, .ptr m.length 0 0), (3, I n), (6, I i), (7, I (en1 n f i)), (8, I (en2 n f i)), (9, I (k + 1))] → _ := fun env hs he => (show ∃ x' : {k : Nat // k ≤ (2 * n).toNat ∧ ∀ b, b < k → crs n f i b = false}, Wk m.length env (m ++ [.cells (dg n f) 0 1]) (mkE [(1, .ptr m.length 0 0), (3, I n), (6, I i), (7, I (en1 n f i)), (8, I (en2 n f i)), (9, I x'.1)]) (m ++ [.cells (dg n f) 0 1]) ∧ (2 * n).toNat - x'.1 < (2 * n).toNat - k from
            ⟨⟨k + 1, by omega, fun j hj => by
                by_cases e : j = k
                · subst e; exact hs
                · exact hk2 j (by omega)⟩, Wk.same rfl (by simpa using he), by simp; omega⟩)
          by_cases c1 : en1 n f i < en1 n f k
          · by_cases c2 : en1 n f k < en2 n f i
            · by_cases c3 : en2 n f i < en2 n f k
              · rw [isS_false2 (i := i) (k := k) (by omega) (by omega) (by simp [crs, c1, c2, c3])] at hk
                simp (disch := omega) [c1, c2, c3]
                exact bad _ hk
              · simp (disch := omega) [c1, c2, c3]
                exact next _ (by simp [crs, c1, c2, c3]) (by simp (disch := omega))
            · simp (disch := omega) [c1, c2]
              exact next _ (by simp [crs, c1, c2]) (by simp (disch := omega))
          · simp (disch := omega) [c1]
            exact next _ (by simp [crs, c1]) (by simp (disch := omega))
        · simp (disch := omega) [hc3]
          exact ⟨⟨i + 1, by omega, fun a ha b hb => by
              by_cases e : a = i
              · subst e; exact hk2 b (by omega)
              · exact hb2 a (by omega) b hb⟩, Wk.same rfl (by simp (disch := omega)), by simp; omega⟩
      · have hI : isS n f = true := by
          simp only [isS, h0, h1, hall, decide_true, Bool.true_and, List.all_eq_true, List.mem_range, Bool.not_eq_true']
          exact fun a ha b hb => hb2 a (by omega) b hb
        rw [hI] at hk
        simp (disch := omega) [hc2]
        exact dropE (n := m.length) m _ rfl (Nat.le_refl _) hcl (by simp [AV.sc, scs]) hk
  · have d3 : (decide ((1:Int) ≤ n) && decide (n ≤ 8)) = false := by
      rw [Bool.and_eq_false_iff]; simp; omega
    have hI : isS n f = false := by simp [isS, d3]
    rw [hI] at hk
    simp (disch := omega) [d3]
    exact dropE (n := m.length) m _ rfl (Nat.le_refl _) hcl (by simp [AV.sc, scs]) hk

end Go.Proofs.Ytkpjaffbbppneaa

/- Brackets matched and lines without crossings: the plain law. -/
namespace Go.Proofs.Ytkpjaffbbppneaa
open Go Go.RowKit

/-- Who is joined with whom, without crossings. -/
structure NC (N : Nat) (g : Nat → Int) : Prop where
  bd : ∀ k, k < N → 0 ≤ g k ∧ g k < N ∧ g k ≠ k
  inv : ∀ k, k < N → g (g k).toNat = k
  nc : ∀ a c : Nat, a < c → (c : Int) < g a → a < N → g c < g a

theorem pst_of_nc {N : Nat} {g t : Nat → Int} (h : NC N g) (ht : ∀ k, k < N → t k = if (k : Int) < g k then 40 else 41) :
    ∀ k, k ≤ N → ∃ out stk, pst t k = some (out, stk) ∧ List.Pairwise (· > ·) stk ∧ (∀ i, i ∈ stk ↔ (i < k ∧ (k : Int) ≤ g i)) ∧ (∀ j, j < k → g j < k → out j = g j)
  | 0, _ => ⟨fun _ => 0, [], rfl, List.Pairwise.nil, by simp, by omega⟩
  | k + 1, hk => by
    obtain ⟨out, stk, hp, hs, hm, ho⟩ := pst_of_nc h ht k (by omega)
    have hb := h.bd k (by omega)
    have hi := h.inv k (by omega)
    by_cases hlt : (k : Int) < g k
    · have ht' : t k = 40 := by rw [ht k (by omega), if_pos hlt]
      refine ⟨out, k :: stk, by simp [pst, hp, ht'], ?_, ?_, ?_⟩
      · rw [List.pairwise_cons]; exact ⟨fun i hi => ((hm i).1 hi).1, hs⟩
      · intro i
        rw [List.mem_cons, hm]
        constructor
        · rintro (rfl | ⟨h1, h2⟩)
          · omega
          · refine ⟨by omega, ?_⟩
            have := h.inv i (by omega)
            by_cases e : g i = k
            · rw [e] at this; simp at this; omega
            · omega
        · rintro ⟨h1, h2⟩
          by_cases e : i = k
          · exact .inl e
          · exact .inr ⟨by omega, by omega⟩
      · intro j hj hgj
        by_cases e : j = k
        · subst e; omega
        · refine ho j (by omega) ?_
          by_cases e2 : g j = k
          · have := h.inv j (by omega)
            rw [e2] at this; simp at this; omega
          · omega
    · have ht' : t k = 41 := by rw [ht k (by omega), if_neg hlt]
      have hmem : (g k).toNat ∈ stk := (hm _).2 ⟨by omega, by omega⟩
      cases stk with
      | nil => simp at hmem
      | cons i r =>
        rw [List.pairwise_cons] at hs
        have hik := (hm i).1 (by simp)
        have e : (i : Int) = g k := by
          by_cases e : (i : Int) = g k
          · exact e
          · exfalso
            have hlt2 : (g k).toNat < i := by
              rw [List.mem_cons] at hmem
              rcases hmem with h1 | h1
              · omega
              · have := hs.1 _ h1; omega
            have h3 := h.nc (g k).toNat i hlt2 (by rw [hi]; omega) (by omega)
            rw [hi] at h3; omega
        have ei : i = (g k).toNat := by omega
        have hgi : g i = k := by rw [ei]; exact hi
        refine ⟨fset (fset out i k) k i, r, by simp [pst, hp, ht'], hs.2, ?_, ?_⟩
        · intro j
          constructor
          · intro hj
            have h1 := (hm j).1 (by simp [hj])
            have h2 := hs.1 j hj
            refine ⟨by omega, ?_⟩
            by_cases e2 : g j = k
            · have := h.inv j (by omega)
              rw [e2] at this; simp at this; omega
            · omega
          · rintro ⟨h1, h2⟩
            have h3 : j ≠ k := by intro e3; subst e3; omega
            have h4 := (hm j).2 ⟨by omega, by omega⟩
            rw [List.mem_cons] at h4
            rcases h4 with h4 | h4
            · subst h4; omega
            · exact h4
        · intro j hj hgj
          simp only [fset]
          by_cases e1 : j = k
          · subst e1; simp; exact e
          · rw [if_neg e1]
            by_cases e2 : j = i
            · subst e2; simp [hgi]
            · rw [if_neg e2]
              refine ho j (by omega) ?_
              by_cases e3 : g j = k
              · have := h.inv j (by omega)
                rw [e3] at this; simp at this; omega
              · omega

/-- What a run of the matching keeps. -/
theorem nc_of_pst (t : Nat → Int) : ∀ k out stk, pst t k = some (out, stk) → List.Pairwise (· > ·) stk ∧ (∀ i, i ∈ stk → i < k) ∧
    (∀ i, i < k → i ∉ stk → 0 ≤ out i ∧ out i < k ∧ out i ≠ i ∧ (out i).toNat ∉ stk ∧ out (out i).toNat = i) ∧
    (∀ i c : Nat, i < c → (c : Int) < out i → i < k → i ∉ stk → c ∉ stk ∧ out c < out i)
  | 0, out, stk, h => by simp [pst] at h; obtain ⟨_, rfl⟩ := h; exact ⟨List.Pairwise.nil, by simp, by omega, by omega⟩
  | k + 1, out', stk', h => by
    simp only [pst] at h
    cases hp : pst t k with
    | none => simp [hp] at h
    | some s =>
      obtain ⟨out, stk⟩ := s
      obtain ⟨h1, h2, h3, h4⟩ := nc_of_pst t k out stk hp
      simp only [hp] at h
      split at h
      · simp at h; obtain ⟨rfl, rfl⟩ := h
        refine ⟨?_, ?_, ?_, ?_⟩
        · rw [List.pairwise_cons]; exact ⟨fun i hi => h2 i hi, h1⟩
        · intro i hi; rw [List.mem_cons] at hi; rcases hi with rfl | hi
          · omega
          · have := h2 i hi; omega
        · intro i hi hm
          rw [List.mem_cons, not_or] at hm
          obtain ⟨a, b, c, d, e⟩ := h3 i (by omega) hm.2
          refine ⟨a, by omega, c, ?_, e⟩
          rw [List.mem_cons, not_or]; exact ⟨by omega, d⟩
        · intro i c hic hc hi hm
          rw [List.mem_cons, not_or] at hm
          obtain ⟨a, b⟩ := h4 i c hic hc (by omega) hm.2
          have hb := h3 i (by omega) hm.2
          refine ⟨?_, b⟩
          rw [List.mem_cons, not_or]; exact ⟨by omega, a⟩
      · split at h
        · simp at h
        · cases stk with
          | nil => simp at h
          | cons i r =>
            simp at h; obtain ⟨rfl, rfl⟩ := h
            rw [List.pairwise_cons] at h1
            have hik := h2 i (by simp)
            have hir : i ∉ r := fun hi => by have := h1.1 i hi; omega
            have val : ∀ j, j ≠ i → j ≠ k → fset (fset out i k) k i j = out j := by
              intro j e1 e2; simp [fset, e1, e2]
            have vk : fset (fset out i k) k i k = i := by simp [fset]
            have vi : fset (fset out i k) k i i = k := by simp [fset]; omega
            refine ⟨h1.2, fun j hj => by have := h2 j (by simp [hj]); omega, ?_, ?_⟩
            · intro j hj hm
              by_cases e1 : j = i
              · subst e1
                rw [vi]
                refine ⟨by omega, by omega, by omega, ?_, by simpa using vk⟩
                simp; intro hk; have := h2 k (by simp [hk]); omega
              · by_cases e2 : j = k
                · subst e2
                  rw [vk]
                  exact ⟨by omega, by omega, by omega, by simpa using hir, by simpa using vi⟩
                · rw [val j e1 e2]
                  have hmem : j ∉ i :: r := by simp [e1, hm]
                  obtain ⟨a, b, c, d, e⟩ := h3 j (by omega) hmem
                  rw [List.mem_cons, not_or] at d
                  refine ⟨a, by omega, c, d.2, ?_⟩
                  rw [val _ d.1 (by omega)]; exact e
            · intro j c hjc hc hj hm
              by_cases e1 : j = i
              · subst e1
                rw [vi] at hc ⊢
                have hcr : c ∉ r := fun hcr => by have := h1.1 c hcr; omega
                refine ⟨hcr, ?_⟩
                rw [val c (by omega) (by omega)]
                have := h3 c (by omega) (by simp [hcr]; omega)
                omega
              · by_cases e2 : j = k
                · subst e2; rw [vk] at hc; omega
                · rw [val j e1 e2] at hc ⊢
                  have hmem : j ∉ i :: r := by simp [e1, hm]
                  obtain ⟨a, b⟩ := h4 j c hjc hc (by omega) hmem
                  have hb := h3 j (by omega) hmem
                  rw [List.mem_cons, not_or] at a
                  refine ⟨a.2, ?_⟩
                  rw [val c a.1 (by omega)]; exact b

theorem nc_of_done {t out : Nat → Int} {N : Nat} (h : pst t N = some (out, [])) : NC N out := by
  obtain ⟨_, _, h3, h4⟩ := nc_of_pst t N out [] h
  exact ⟨fun k hk => by have := h3 k hk (by simp); omega, fun k hk => (h3 k hk (by simp)).2.2.2.2, fun a c hac hc ha => (h4 a c hac hc ha (by simp)).2⟩

theorem done_of_nc {N : Nat} {g t : Nat → Int} (h : NC N g) (ht : ∀ k, k < N → t k = if (k : Int) < g k then 40 else 41) : ∃ out, pst t N = some (out, []) ∧ ∀ k, k < N → out k = g k := by
  obtain ⟨out, stk, h1, _, h3, h4⟩ := pst_of_nc h ht N (Nat.le_refl _)
  have : stk = [] := by
    cases stk with
    | nil => rfl
    | cons i r =>
      have := (h3 i).1 (by simp)
      have hb := h.bd i this.1
      omega
  subst this
  exact ⟨out, h1, fun k hk => h4 k hk (h.bd k hk).2.1⟩

end Go.Proofs.Ytkpjaffbbppneaa

/- Both sides agree on what a diagram is: the plain law. -/
namespace Go.Proofs.Ytkpjaffbbppneaa
open Go Go.RowKit

theorem plc_bd {n x : Int} (_hn : 1 ≤ n) (h0 : 0 ≤ x) (h1 : x < 2 * n) : 0 ≤ plc n x ∧ plc n x < 2 * n ∧ plc n (plc n x) = x := by
  unfold plc; by_cases h : x < n
  · simp only [if_pos h]; exact ⟨h0, h1, trivial⟩
  · simp only [if_neg h]; split <;> omega

theorem jn_val (n : Nat) (p : Nat → Int) : ∀ K, K ≤ 2 * n → ∀ i : Nat, jn n p K i = if i < 2 * n ∧ plc n i < K then plc n (p (plc n i).toNat) else 0
  | 0, _, i => by
    rw [if_neg]; · rfl
    intro h; have := plc_bd (n := n) (x := i) (by omega) (by omega) (by omega); omega
  | K + 1, hK, i => by
    have ih := jn_val n p K (by omega) i
    have hK2 := plc_bd (n := n) (x := K) (by omega) (by omega) (by omega)
    simp only [jn, fset]
    by_cases e : i = (plc n K).toNat
    · have e2 : (i : Int) = plc n K := by omega
      have e3 : plc n (i : Int) = K := by rw [e2]; exact hK2.2.2
      rw [if_pos e, if_pos ⟨by omega, by rw [e3]; omega⟩, e3]; simp
    · rw [if_neg e, ih]
      by_cases hi : i < 2 * n
      · have hi2 := plc_bd (n := n) (x := i) (by omega) (by omega) (by omega)
        have hne : plc n (i : Int) ≠ K := by
          intro e3; apply e; rw [← e3, hi2.2.2]; simp
        by_cases hlt : plc n (i : Int) < K
        · rw [if_pos ⟨hi, hlt⟩, if_pos ⟨hi, by omega⟩]
        · rw [if_neg (fun h => hlt h.2), if_neg (fun h => by have := h.2; omega)]
      · rw [if_neg (fun h => hi h.1), if_neg (fun h => hi h.1)]

theorem isD_of_isS (n : Nat) (f : Nat → Int) (hf : ∀ i, 0 ≤ f i ∧ f i ≤ 255) (h : isS n f = true) : isD n f = true := by
  simp only [isS, Bool.and_eq_true, decide_eq_true_eq, List.all_eq_true, List.mem_range, Bool.not_eq_true'] at h
  obtain ⟨⟨⟨hn1, hn2⟩, hs⟩, hc⟩ := h
  have eN : (2 * (n : Int)).toNat = 2 * n := by omega
  rw [eN] at hc
  have hs1 : ∀ i, i < 2 * n → f i < 2 * n ∧ f i ≠ i ∧ f (f i).toNat = i := by
    intro i hi
    have := hs i (by omega)
    rw [sp1, if_neg (by omega)] at this
    simpa using this
  have hs2 : ∀ i, 2 * n ≤ i → i < 16 → f i = 0 := by
    intro i hi hi2
    have := hs i hi2
    rw [sp1, if_pos (by omega)] at this
    simpa using this
  have hP : ∀ k : Nat, k < 2 * n → 0 ≤ plc n k ∧ plc n k < 2 * n ∧ plc n (plc n k) = k := fun k hk => plc_bd (by omega) (by omega) (by omega)
  have hF : ∀ i : Nat, i < 2 * n → 0 ≤ plc n (f i) ∧ plc n (f i) < 2 * n ∧ plc n (plc n (f i)) = f i := fun i hi => plc_bd (by omega) (hf i).1 (hs1 i hi).1
  have NCg : NC (2 * n) (fun k => plc n (f (plc n k).toNat)) := by
    have inv : ∀ k : Nat, k < 2 * n → plc n (f (plc n ((plc n (f (plc n k).toNat)).toNat : Int)).toNat) = k := by
      intro k hk
      have h1 := hP k hk
      have h2 := hF (plc n k).toNat (by omega)
      have h3 := hs1 (plc n k).toNat (by omega)
      have e1 : ((plc n (f (plc n k).toNat)).toNat : Int) = plc n (f (plc n k).toNat) := by omega
      rw [e1, h2.2.2, h3.2.2]
      have e2 : (((plc n k).toNat : Nat) : Int) = plc n k := by omega
      rw [e2, h1.2.2]
    refine ⟨fun k hk => ?_, inv, fun a c hac hcg ha => ?_⟩
    · have h1 := hP k hk
      have h2 := hF (plc n k).toNat (by omega)
      have h3 := hs1 (plc n k).toNat (by omega)
      refine ⟨h2.1, by omega, fun e => h3.2.1 ?_⟩
      have e2 := h2.2.2
      rw [e] at e2; omega
    · change (c : Int) < plc n (f (plc n a).toNat) at hcg
      change plc n (f (plc n c).toNat) < plc n (f (plc n a).toNat)
      have ha1 := hP a ha
      have ha2 := hF (plc n a).toNat (by omega)
      have hc0 : c < 2 * n := by omega
      have hc1 := hP c hc0
      have hc2 := hF (plc n c).toNat (by omega)
      have key := hc (plc n a).toNat (by omega) (plc n c).toNat (by omega)
      have ea : (((plc n a).toNat : Nat) : Int) = plc n a := by omega
      have ec : (((plc n c).toNat : Nat) : Int) = plc n c := by omega
      have hne : plc n (f (plc n a).toNat) ≠ plc n (f (plc n c).toNat) := by
        intro e
        have i1 := inv a ha
        have i2 := inv c hc0
        rw [e] at i1; omega
      by_cases hlt : plc n (f (plc n c).toNat) < plc n (f (plc n a).toNat)
      · exact hlt
      · exfalso
        have : crs n f (plc n a).toNat (plc n c).toNat = true := by
          simp only [crs, en1, en2, ea, ec, ha1.2.2, hc1.2.2, Bool.and_eq_true, decide_eq_true_eq]
          rw [if_neg (by omega), if_neg (by omega), if_pos (by omega), if_pos (by omega)]
          omega
        rw [this] at key; simp at key
  obtain ⟨out, ho1, ho2⟩ := done_of_nc NCg (t := sg n f) (fun k hk => rfl)
  simp only [isD, Bool.and_eq_true, decide_eq_true_eq, List.all_eq_true, List.mem_range]
  refine ⟨⟨⟨hn1, hn2⟩, fun i hi => ?_⟩, ?_⟩
  · unfold bnd1; split
    · simp [hs2 i (by omega) hi]
    · have := hs1 i (by omega); simp; omega
  · have e2 : ((n : Int)).toNat = n := by omega
    rw [eN, ho1, e2]
    simp only [List.all_eq_true, List.mem_range, beq_iff_eq]
    intro i hi
    rw [jn_val n out (2 * n) (Nat.le_refl _) i]
    by_cases hi2 : i < 2 * n
    · have h1 := hP i hi2
      rw [if_pos ⟨hi2, by omega⟩, ho2 _ (by omega)]
      have e3 : (((plc n i).toNat : Nat) : Int) = plc n i := by omega
      rw [e3, h1.2.2]
      simpa using (hF i hi2).2.2
    · rw [if_neg (fun h => hi2 h.1), hs2 i (by omega) hi]

theorem isS_of_isD (n : Nat) (f : Nat → Int) (hf : ∀ i, 0 ≤ f i ∧ f i ≤ 255) (h : isD n f = true) : isS n f = true := by
  simp only [isD, Bool.and_eq_true, decide_eq_true_eq, List.all_eq_true, List.mem_range] at h
  obtain ⟨⟨⟨hn1, hn2⟩, hs⟩, hc⟩ := h
  have eN : (2 * (n : Int)).toNat = 2 * n := by omega
  have e2 : ((n : Int)).toNat = n := by omega
  rw [eN, e2] at hc
  split at hc
  · rename_i out ho
    simp only [List.all_eq_true, List.mem_range, beq_iff_eq] at hc
    have N := nc_of_done ho
    have hP : ∀ k : Nat, k < 2 * n → 0 ≤ plc n k ∧ plc n k < 2 * n ∧ plc n (plc n k) = k := fun k hk => plc_bd (by omega) (by omega) (by omega)
    have hO : ∀ k : Nat, k < 2 * n → 0 ≤ plc n (out k) ∧ plc n (out k) < 2 * n ∧ plc n (plc n (out k)) = out k := fun k hk => plc_bd (by omega) (N.bd k hk).1 (by have := (N.bd k hk).2.1; omega)
    have hv : ∀ i : Nat, i < 2 * n → f i = plc n (out (plc n i).toNat) := by
      intro i hi
      have h1 := hP i hi
      rw [← hc i (by omega), jn_val n out (2 * n) (Nat.le_refl _) i, if_pos ⟨hi, by omega⟩]
    have hg : ∀ i : Nat, i < 2 * n → plc n (f i) = out (plc n i).toNat := by
      intro i hi
      rw [hv i hi]; exact (hO _ (by have := hP i hi; omega)).2.2
    simp only [isS, Bool.and_eq_true, decide_eq_true_eq, List.all_eq_true, List.mem_range, Bool.not_eq_true']
    refine ⟨⟨⟨hn1, hn2⟩, fun i hi => ?_⟩, ?_⟩
    · unfold sp1; split
      · have := hs i hi
        rw [bnd1, if_pos (by assumption)] at this; exact this
      · have hi2 : i < 2 * n := by omega
        have h1 := hP i hi2
        have h2 := hO (plc n i).toNat (by omega)
        have h3 := N.bd (plc n i).toNat (by omega)
        have h4 := N.inv (plc n i).toNat (by omega)
        have hvi := hv i hi2
        simp only [Bool.and_eq_true, decide_eq_true_eq, bne_iff_ne, beq_iff_eq]
        refine ⟨by omega, fun e => h3.2.2 ?_, ?_⟩
        · rw [← h2.2.2, ← hvi, e]; omega
        · have e5 : (((f i).toNat : Nat) : Int) = f i := by have := (hf i).1; omega
          rw [hv (f i).toNat (by omega), e5, hg i hi2, h4]
          have e6 : (((plc n i).toNat : Nat) : Int) = plc n i := by omega
          rw [e6, h1.2.2]
    · rw [eN]
      intro i hi k hk
      have hi1 := hP i hi
      have hk1 := hP k hk
      have ib := N.bd (plc n i).toNat (by omega)
      have kb := N.bd (plc n k).toNat (by omega)
      have ii := N.inv (plc n i).toNat (by omega)
      have ki := N.inv (plc n k).toNat (by omega)
      cases hcr : crs n f i k with
      | false => rfl
      | true =>
        exfalso
        simp only [crs, en1, en2, hg i hi, hg k hk, Bool.and_eq_true, decide_eq_true_eq] at hcr
        have n1 := N.nc (plc n i).toNat (plc n k).toNat
        have n2 := N.nc (plc n i).toNat (out (plc n k).toNat).toNat
        have n3 := N.nc (out (plc n i).toNat).toNat (plc n k).toNat
        have n4 := N.nc (out (plc n i).toNat).toNat (out (plc n k).toNat).toNat
        rw [ii] at n3 n4
        rw [ki] at n2 n4
        split at hcr <;> split at hcr <;> split at hcr <;> split at hcr <;> omega
  · simp at hc

/-- Both sides agree on what a diagram is. -/
theorem isD_eq_isS (n : Int) (f : Nat → Int) (hf : ∀ i, 0 ≤ f i ∧ f i ≤ 255) : isD n f = isS n f := by
  by_cases hn : 1 ≤ n
  · obtain ⟨k, rfl⟩ := Int.eq_ofNat_of_zero_le (show 0 ≤ n by omega)
    cases h1 : isD k f with
    | true => rw [isS_of_isD k f hf h1]
    | false =>
      cases h2 : isS k f with
      | false => rfl
      | true => rw [isD_of_isS k f hf h2] at h1; simp at h1
  · simp [isD, isS, hn]

end Go.Proofs.Ytkpjaffbbppneaa

/- From what a law's run does to what its statement says. -/
namespace Go.Proofs.Ytkpjaffbbppneaa
open Go Go.RowKit Go.ChangeShapes Go.WideShapes Go.ChangeAt
set_option maxRecDepth 100000

theorem Try.own : ownKnob Try.prog.godebug = none := by kernel_rfl
theorem Try.laidOut : laidOutB Try.prog = true := by kernel_rfl

/-- Arguments read as they did where nothing below has turned. -/
theorem trodAll_stay {H : Type} {enc : TypeId × Value → H} {P : Program} (hl : laidOutB P = true) {W W' : World} (hb : Below W.heap.size W W') {sp : Nat → Bool} :
    ∀ (ts : List TypeId) (vs : List Value) (ds : List (DataW H)) (ps : List MemPlace), (∀ t ∈ ts, P.readableRec t = true ∧ t < P.types.size) → (∀ x ∈ ps, x.block < W.heap.size) → (∀ x ∈ ps, sp x.block = true) →
      DataW.TrodAll enc P W 0 (fun _ => true) true ts vs ds ps → DataW.TrodAll enc P W' 0 sp true ts vs ds ps
  | [], [], [], ps, _, _, _, h => h
  | t :: ts, v :: vs, d :: ds, ps, hr, hlt, hsp, h => by
    obtain ⟨p, q, h1, h2, rfl⟩ := h
    exact ⟨p, q, WideElems.Trod_stays hl (hr t (by simp)).1 (hr t (by simp)).2 h1 (fun x hx => hb.same (hlt x (by simp [hx]))) (fun x hx => hsp x (by simp [hx])),
      trodAll_stay hl hb ts vs ds q (fun t ht => hr t (by simp [ht])) (fun x hx => hlt x (by simp [hx])) (fun x hx => hsp x (by simp [hx])) h2, rfl⟩

/-- What a law that holds leaves behind is what its statement asks for. -/
theorem post_true {H : Type} {enc : TypeId × Value → H} {f : Func} {s : ChangeSpec} {W W' : World} {args : Array Value} {ds gs : List (DataW H)} {before : List MemPlace} (hW : DataW.Whole enc Try.prog f.params.toList s.vars false W args.toList ds gs before) (hv : s.vars = [])
    (hb : Below W.heap.size W W') (hs : s.fn H (ds ++ gs) = { results := [.lit (.bool true)], args := ds }) (hr : f.resultTypes = #[4]) (hp : ∀ t ∈ f.params.toList, Try.prog.readableRec t = true ∧ t < Try.prog.types.size) :
    s.post enc Try.prog f false true false false W args (.bool true) W' := by
  have hW' := hW
  obtain ⟨p, q, hA, hV, rfl, hfz, hnd⟩ := hW
  rw [hv] at hV
  obtain ⟨rfl, rfl⟩ := trodVars_none hV
  have hB : Try.prog.underlying 4 = some .bool := by kernel_rfl
  have hlt : ∀ x ∈ p, x.block < W.heap.size := fun x hx => hW'.lt x (by simp [hx])
  have hold : ∀ x ∈ p, (fun b => decide (b < W.heap.size)) x.block = true := fun x hx => by simpa using hlt x hx
  refine ⟨ds, [], _, [], p, [], hW', ?_, ?_, ?_, hb.frame _, fun h => by cases h⟩
  · rw [hs, hr]; exact trodAll_mk1 (shut_bool hB true)
  · rw [hs]; exact trodAll_stay Try.laidOut hb _ _ _ p hp hlt hold hA
  · rw [hv, hs]; rfl

theorem cell_int {w : World} {b : Nat} {t : TypeId} {k : IntKind} {v : Value} (ht : Try.prog.underlying t = some (.int k)) (h : Cell.okWide Try.prog w .any b t v) : ∃ n, v = .int k n ∧ k.min ≤ n ∧ n ≤ k.max := by
  unfold Cell.okWide at h
  rw [ht] at h
  simp only [Cell.ok, ht] at h
  split at h <;> simp_all [IntKind.has]

/-- A diagram handed in. -/
theorem open_dg {w : World} {b : Nat} {v : Value} {t : TypeId} (ρ : List Place) (hst : ∃ fs, Try.prog.underlying t = some (.struct fs)) (e1 : Try.prog.cellsOf t = 17) (e2 : Try.prog.cellTypes Try.prog.depth t = some (2 :: List.replicate 16 5)) (h : Value.okWide Try.prog w .any b t v) : ∃ n f, (∀ i, 0 ≤ f i ∧ f i ≤ 255) ∧ -9223372036854775808 ≤ n ∧ n ≤ 9223372036854775807 ∧ VR ρ (.agg (dg n f)) v := by
  obtain ⟨fs, hu⟩ := hst
  unfold Value.okWide at h
  rw [hu] at h
  obtain ⟨cs, rfl, hsz, ts, hts, -, hc⟩ := h
  rw [e1] at hsz
  rw [e2] at hts
  simp only [Option.some.injEq] at hts
  subst hts
  have u2 : Try.prog.underlying 2 = some (.int .i64) := by kernel_rfl
  have u5 : Try.prog.underlying 5 = some (.int .u8) := by kernel_rfl
  have m1 : IntKind.i64.min = -9223372036854775808 := by decide
  have m2 : IntKind.i64.max = 9223372036854775807 := by decide
  have m3 : IntKind.u8.min = 0 := by decide
  have m4 : IntKind.u8.max = 255 := by decide
  obtain ⟨u, hu0, hn⟩ := hc 0 cs[0] (by simp)
  simp at hu0; subst hu0
  obtain ⟨n, e0, hn1, hn2⟩ := cell_int u2 hn
  have hb : ∀ i : Nat, i < 16 → ∃ x : Int, cs[1 + i]? = some (.int .u8 x) ∧ 0 ≤ x ∧ x ≤ 255 := by
    intro i hi
    have hlt : 1 + i < cs.size := by omega
    obtain ⟨u, hu, hx⟩ := hc (1 + i) cs[1 + i] (Array.getElem?_eq_getElem hlt)
    have hu2 : some 5 = some u := by
      rw [← hu]
      simp only [List.length_cons, List.length_replicate]
      rw [show (1 + i) % (16 + 1) = i + 1 by omega, List.getElem?_cons_succ, List.getElem?_replicate, if_pos hi]
    simp only [Option.some.injEq] at hu2; subst hu2
    obtain ⟨x, ex, h1, h2⟩ := cell_int u5 hx
    exact ⟨x, by rw [Array.getElem?_eq_getElem hlt, ex], by rw [m3] at h1; exact h1, by rw [m4] at h2; exact h2⟩
  refine ⟨n, fun i => if h : i < 16 then Classical.choose (hb i h) else 0, fun i => ?_, by rw [m1] at hn1; exact hn1, by rw [m2] at hn2; exact hn2, ?_⟩
  · by_cases h : i < 16
    · simp only [dif_pos h]; exact (Classical.choose_spec (hb i h)).2
    · simp [h]
  · simp only [VR]
    refine ⟨cs, rfl, VRs.of_get (by simp; omega) fun j x v hx hv => ?_⟩
    cases j with
    | zero =>
      simp only [dg_0, Option.some.injEq] at hx; subst hx
      rw [Array.getElem?_toList, Array.getElem?_eq_getElem (by omega), e0] at hv
      simp only [VR]; simpa using hv.symm
    | succ i =>
      have hi : i < 16 := by
        have := (List.getElem?_eq_some_iff.1 hx).1; simp at this; omega
      rw [Nat.add_comm, dg_at _ _ hi] at hx
      simp only [Option.some.injEq] at hx; subst hx
      have h2 := (Classical.choose_spec (hb i hi)).1
      simp only [VR, dif_pos hi]
      rw [Array.getElem?_toList, Nat.add_comm, h2] at hv
      simpa using hv.symm

/-- A number that fits in 64 bits. -/
def i64 (n : Int) : Prop := -9223372036854775808 ≤ n ∧ n ≤ 9223372036854775807
theorem open_i64 {w : World} {b : Nat} {v : Value} {t : TypeId} (ht : Try.prog.underlying t = some (.int .i64)) (h : Value.okWide Try.prog w .any b t v) : ∃ n, v = .int .i64 n ∧ i64 n := by
  unfold Value.okWide at h
  rw [ht] at h
  obtain ⟨n, e, h1, h2⟩ := cell_int ht h
  have m1 : IntKind.i64.min = -9223372036854775808 := by decide
  have m2 : IntKind.i64.max = 9223372036854775807 := by decide
  exact ⟨n, e, by rw [m1] at h1; exact h1, by rw [m2] at h2; exact h2⟩

theorem law_of_acalls {f : FuncId} {args : Array Value} {avs : List AV} {W : World} (hv : VRs [] avs args.toList) (h : ACalls Try.prog f avs [] fun v _ => v = B true) {R : Ending → World → Prop} (hR : ∀ W', Below W.heap.size W W' → R (.returned (.bool true)) W') : Calls Try.prog f args W R := by
  have hs : Sim W.heap.size W [] [] W := ⟨Below.refl _ _, Nat.le_refl _, rfl, fun i o p hi => by simp at hi, fun i j o o' p q hi => by simp at hi⟩
  refine (h.2 _ _ _ _ _ hs hv).mono fun e W' ⟨v, v', m', ρ', h1, h2, _, h4, h5⟩ => ?_
  subst h1; subst h5
  simp only [VR] at h4; subst h4
  exact hR W' h2.below

end Go.Proofs.Ytkpjaffbbppneaa

/- Primes, fields, ranges: both sides. -/
namespace Go.Proofs.Ytkpjaffbbppneaa
open Go Go.RowKit

/-- A prime of at most 97. -/
def isP (p : Int) : Bool := decide (2 ≤ p) && decide (p ≤ 97) && (List.range 98).all fun k => decide (k < 2) || decide (p ≤ k) || decide (p % (k : Int) ≠ 0)

theorem isP_iff (p : Int) : isP p = true ↔ 2 ≤ p ∧ p ≤ 97 ∧ ∀ k : Nat, 2 ≤ k → (k : Int) < p → p % (k : Int) ≠ 0 := by
  simp only [isP, Bool.and_eq_true, decide_eq_true_eq, List.all_eq_true, List.mem_range, Bool.or_eq_true]
  constructor
  · rintro ⟨⟨h1, h2⟩, h3⟩
    refine ⟨h1, h2, fun k h4 h5 => ?_⟩
    rcases h3 k (by omega) with (h | h) | h
    · omega
    · omega
    · exact h
  · rintro ⟨h1, h2, h3⟩
    refine ⟨⟨h1, h2⟩, fun k _ => ?_⟩
    by_cases a : k < 2
    · exact .inl (.inl a)
    · by_cases b : p ≤ k
      · exact .inl (.inr b)
      · exact .inr (h3 k (by omega) (by omega))

theorem prime_small (p : Nat) (hp : p < 98) (k : Nat) (hk : k < 11) (h2 : 2 ≤ p) (hlt : p < k * k) (h : ∀ j : Nat, j < k → 2 ≤ j → p % j ≠ 0) : ∀ j : Nat, j < p → 2 ≤ j → p % j ≠ 0 := by
  have all : ((List.range 98).all fun p => (List.range 11).all fun k => decide (p < 2) || decide (k * k ≤ p) || ((List.range k).any fun j => decide (2 ≤ j) && decide (p % j = 0)) || ((List.range p).all fun j => decide (j < 2) || decide (p % j ≠ 0))) = true := by decide +kernel
  rw [List.all_eq_true] at all
  have h3 := all p (by simpa using hp)
  rw [List.all_eq_true] at h3
  have h4 := h3 k (by simpa using hk)
  simp only [Bool.or_eq_true, decide_eq_true_eq, List.any_eq_true, List.mem_range, Bool.and_eq_true, List.all_eq_true] at h4
  intro j hj hj2
  rcases h4 with ((h4 | h4) | ⟨i, h5, h6, h7⟩) | h4
  · omega
  · omega
  · exact absurd h7 (h i h5 h6)
  · rcases h4 j hj with h5 | h5
    · omega
    · exact h5

theorem isPrime_c (p : Int) (m : List AO) (K : AV → List AO → Prop) (hk : K (B (isP p)) m) : ACalls Try.prog 51 [I p] m K := by
  refine ACalls.enter Try.func51 rfl rfl Try.ntmps51 (congrArg Array.toList Try.results51) (by simp) fun hc => ?_
  simp (disch := omega)
  refine goCall_n rfl (in_c _ _ _ _ _ ?_)
  by_cases hr : 2 ≤ p ∧ p ≤ 97
  · obtain ⟨h0, h1⟩ := hr
    simp (disch := omega) [h0, h1]
    refine go_loop (α := {k : Nat // 2 ≤ k ∧ k ≤ 10 ∧ ∀ j : Nat, j < k → 2 ≤ j → p % (j : Int) ≠ 0}) (fun k => mkE [(0, I p), (3, I k.1)]) (fun _ => m) (fun k => 10 - k.1) ⟨2, by omega, by omega, by omega⟩ (Wk.same rfl (by simp (disch := omega))) (fun ⟨k, hk1, hk2, hk3⟩ => ?_)
    have hsq : (k : Int) * k ≤ 100 := by
      have : k * k ≤ 10 * 10 := Nat.mul_le_mul hk2 hk2
      have e : ((k * k : Nat) : Int) = (k : Int) * k := by simp
      omega
    have hsq0 : 0 ≤ (k : Int) * k := Int.mul_nonneg (by omega) (by omega)
    have hwr : IntKind.i64.wrap ((k : Int) * k) = (k : Int) * k := wrap_id (by omega) (by omega)
    have hkn : ¬ (k : Int) = 0 := by omega
    have htm : p.tmod (k : Int) = p % k := tmod_pos (by omega) (by omega)
    by_cases hc : (k : Int) * k ≤ p
    · have hk9 : k ≤ 9 := by
        rcases Nat.lt_or_ge k 10 with h | h
        · omega
        · have : 10 * 10 ≤ k * k := Nat.mul_le_mul h h
          have e : ((k * k : Nat) : Int) = (k : Int) * k := by simp
          omega
      have hlt : (k : Int) < p := by
        have : 2 * k ≤ k * k := Nat.mul_le_mul hk1 (Nat.le_refl _)
        have e : ((k * k : Nat) : Int) = (k : Int) * k := by simp
        omega
      by_cases hd : p % (k : Int) = 0
      · have : isP p = false := by
          rw [Bool.eq_false_iff]; intro h
          exact ((isP_iff p).1 h).2.2 k hk1 hlt hd
        rw [this] at hk
        simp (disch := omega) [hwr, hkn, htm, hc, hd]
        exact keep hk
      · simp (disch := omega) [hwr, hkn, htm, hc, hd]
        exact ⟨⟨k + 1, by omega, by omega, fun j hj h2 => by
          by_cases e : j = k
          · subst e; exact hd
          · exact hk3 j (by omega) h2⟩, Wk.same rfl (by simp (disch := omega)), by simp; omega⟩
    · have : isP p = true := by
        rw [isP_iff]
        refine ⟨h0, h1, fun j hj1 hj2 => ?_⟩
        obtain ⟨q, rfl⟩ := Int.eq_ofNat_of_zero_le (show 0 ≤ p by omega)
        have := prime_small q (by omega) k (by omega) (by omega) (by
          have e : ((k * k : Nat) : Int) = (k : Int) * k := by simp
          omega) (fun j hj h2 hz => hk3 j hj h2 (by omega)) j (by omega) hj1
        omega
      rw [this] at hk
      simp (disch := omega) [hwr, hc]
      exact keep hk
  · have d3 : (decide ((2:Int) ≤ p) && decide (p ≤ 97)) = false := by
      rw [Bool.and_eq_false_iff]; simp; omega
    have hI : isP p = false := by simp [isP, d3]
    rw [hI] at hk
    simp (disch := omega) [d3]
    exact keep hk

theorem l01Prime_c (p : Int) (m : List AO) (K : AV → List AO → Prop) (hk : K (B (isP p)) m) : ACalls Try.prog 41 [I p] m K := by
  refine ACalls.enter Try.func41 rfl rfl Try.ntmps41 (congrArg Array.toList Try.results41) (by simp) fun hc => ?_
  simp (disch := omega)
  refine go_loop (α := {k : Nat // 2 ≤ k ∧ k ≤ 100 ∧ ∀ j : Nat, j < k → 2 ≤ j → (j : Int) < p → p % (j : Int) ≠ 0}) (fun k => mkE [(0, I p), (3, I k.1)]) (fun _ => m) (fun k => 100 - k.1) ⟨2, by omega, by omega, by omega⟩ (Wk.same rfl (by simp (disch := omega))) (fun ⟨k, hk1, hk2, hk3⟩ => ?_)
  have hkn : ¬ (k : Int) = 0 := by omega
  have fin : (p ≤ k ∨ k = 100) → isP p = (decide (2 ≤ p) && decide (p ≤ 97)) := by
    intro hend
    by_cases hr : 2 ≤ p ∧ p ≤ 97
    · rw [(isP_iff p).2 ⟨hr.1, hr.2, fun j h1 h2 => hk3 j (by omega) h1 h2⟩]; simp [hr]
    · have d3 : (decide ((2:Int) ≤ p) && decide (p ≤ 97)) = false := by
        rw [Bool.and_eq_false_iff]; simp; omega
      simp [isP, d3]
  by_cases hc : (k : Int) < p
  · have htm : p.tmod (k : Int) = p % k := tmod_pos (by omega) (by omega)
    by_cases hc2 : (k : Int) < 100
    · by_cases hd : p % (k : Int) = 0
      · have : isP p = false := by
          rw [Bool.eq_false_iff]; intro h
          exact ((isP_iff p).1 h).2.2 k hk1 hc hd
        rw [this] at hk
        simp (disch := omega) [hkn, htm, hc, hc2, hd]
        exact keep hk
      · simp (disch := omega) [hkn, htm, hc, hc2, hd]
        exact ⟨⟨k + 1, by omega, by omega, fun j hj h2 h3 => by
          by_cases e : j = k
          · subst e; exact hd
          · exact hk3 j (by omega) h2 h3⟩, Wk.same rfl (by simp (disch := omega)), by simp; omega⟩
    · rw [fin (by omega)] at hk
      simp (disch := omega) [hc, hc2]
      refine goCall_n rfl (l01In_c _ _ _ _ _ ?_)
      simp (disch := omega)
      exact keep hk
  · rw [fin (by omega)] at hk
    simp (disch := omega) [hc]
    refine goCall_n rfl (l01In_c _ _ _ _ _ ?_)
    simp (disch := omega)
    exact keep hk

end Go.Proofs.Ytkpjaffbbppneaa

/- Fields, ranges, copies of diagrams: both sides. -/
namespace Go.Proofs.Ytkpjaffbbppneaa
open Go Go.RowKit

def isF (p c : Int) : Bool := isP p && (decide (0 ≤ c) && decide (c ≤ p - 1))
theorem isP_bd {p : Int} (h : isP p = true) : 2 ≤ p ∧ p ≤ 97 := by have := (isP_iff p).1 h; omega

theorem fieldOk_c (p c : Int) (m : List AO) (K : AV → List AO → Prop) (hk : K (B (isF p c)) m) : ACalls Try.prog 32 [I p, I c] m K := by
  refine ACalls.enter Try.func32 rfl rfl Try.ntmps32 (congrArg Array.toList Try.results32) (by simp) fun hc => ?_
  simp (disch := omega)
  refine goCall_n rfl (isPrime_c _ _ _ ?_)
  by_cases hp : isP p = true
  · have := isP_bd hp
    simp (disch := omega) [hp]
    refine goCall_n rfl (in_c _ _ _ _ _ ?_)
    simp (disch := omega)
    simp only [isF, hp, Bool.true_and] at hk
    exact keep hk
  · have hp : isP p = false := by simpa using hp
    simp (disch := omega) [hp]
    simp only [isF, hp, Bool.false_and] at hk
    exact keep hk

theorem l04Numbers_c (p c : Int) (m : List AO) (K : AV → List AO → Prop) (hk : K (B (isF p c)) m) : ACalls Try.prog 24 [I p, I c] m K := by
  refine ACalls.enter Try.func24 rfl rfl Try.ntmps24 (congrArg Array.toList Try.results24) (by simp) fun hc => ?_
  simp (disch := omega)
  refine goCall_n rfl (l01Prime_c _ _ _ ?_)
  by_cases hp : isP p = true
  · have := isP_bd hp
    simp (disch := omega) [hp]
    refine goCall_n rfl (l01In_c _ _ _ _ _ ?_)
    simp (disch := omega)
    simp only [isF, hp, Bool.true_and] at hk
    exact keep hk
  · have hp : isP p = false := by simpa using hp
    simp (disch := omega) [hp]
    simp only [isF, hp, Bool.false_and] at hk
    exact keep hk

/-- A number of open points is right. -/
def okR (n k most : Int) : Bool := (decide (1 ≤ n) && decide (n ≤ most)) && ((decide (0 ≤ k) && decide (k ≤ n)) && decide ((n - k) % 2 = 0))

theorem openOk_c (n k most : Int) (m : List AO) (K : AV → List AO → Prop) (hm : most ≤ 100) (hk : K (B (okR n k most)) m) : ACalls Try.prog 33 [I n, I k, I most] m K := by
  refine ACalls.enter Try.func33 rfl rfl Try.ntmps33 (congrArg Array.toList Try.results33) (by simp) fun hc => ?_
  simp (disch := omega)
  refine goCall_n rfl (in_c _ _ _ _ _ ?_)
  by_cases h1 : 1 ≤ n ∧ n ≤ most
  · have e1 : (decide (1 ≤ n) && decide (n ≤ most)) = true := by simp [h1]
    simp (disch := omega) [e1]
    refine goCall_n rfl (in_c _ _ _ _ _ ?_)
    by_cases h2 : 0 ≤ k ∧ k ≤ n
    · have e2 : (decide (0 ≤ k) && decide (k ≤ n)) = true := by simp [h2]
      have e3 : (n - k).tmod 2 = (n - k) % 2 := tmod_pos (by omega) (by omega)
      simp only [okR, e1, e2, Bool.true_and] at hk
      simp (disch := omega) [e2, e3]
      exact keep hk
    · have e2 : (decide (0 ≤ k) && decide (k ≤ n)) = false := by rw [Bool.and_eq_false_iff]; simp; omega
      simp only [okR, e1, e2, Bool.true_and, Bool.false_and] at hk
      simp (disch := omega) [e2]
      exact keep hk
  · have e1 : (decide (1 ≤ n) && decide (n ≤ most)) = false := by rw [Bool.and_eq_false_iff]; simp; omega
    simp only [okR, e1, Bool.false_and] at hk
    simp (disch := omega) [e1]
    exact keep hk

theorem l04Range_c (n k most : Int) (m : List AO) (K : AV → List AO → Prop) (hm : most ≤ 100) (hk : K (B (okR n k most)) m) : ACalls Try.prog 25 [I n, I k, I most] m K := by
  refine ACalls.enter Try.func25 rfl rfl Try.ntmps25 (congrArg Array.toList Try.results25) (by simp) fun hc => ?_
  simp (disch := omega)
  refine goCall_n rfl (l01In_c _ _ _ _ _ ?_)
  by_cases h1 : 1 ≤ n ∧ n ≤ most
  · have e1 : (decide (1 ≤ n) && decide (n ≤ most)) = true := by simp [h1]
    simp (disch := omega) [e1]
    refine goCall_n rfl (l01In_c _ _ _ _ _ ?_)
    by_cases h2 : 0 ≤ k ∧ k ≤ n
    · have e2 : (decide (0 ≤ k) && decide (k ≤ n)) = true := by simp [h2]
      have e3 : (n - k).tmod 2 = (n - k) % 2 := tmod_pos (by omega) (by omega)
      simp only [okR, e1, e2, Bool.true_and] at hk
      simp (disch := omega) [e2, e3]
      exact keep hk
    · have e2 : (decide (0 ≤ k) && decide (k ≤ n)) = false := by rw [Bool.and_eq_false_iff]; simp; omega
      simp only [okR, e1, e2, Bool.true_and, Bool.false_and] at hk
      simp (disch := omega) [e2]
      exact keep hk
  · have e1 : (decide (1 ≤ n) && decide (n ≤ most)) = false := by rw [Bool.and_eq_false_iff]; simp; omega
    simp only [okR, e1, Bool.false_and] at hk
    simp (disch := omega) [e1]
    exact keep hk

theorem tableOk_c (p c n k : Int) (m : List AO) (K : AV → List AO → Prop) (hk : K (B (isF p c && okR n k 6)) m) : ACalls Try.prog 14 [I p, I c, I n, I k] m K := by
  refine ACalls.enter Try.func14 rfl rfl Try.ntmps14 (congrArg Array.toList Try.results14) (by simp) fun hc => ?_
  simp (disch := omega)
  refine goCall_n rfl (fieldOk_c _ _ _ _ ?_)
  cases hp : isF p c with
  | true =>
    simp (disch := omega)
    refine goCall_n rfl (openOk_c _ _ _ _ _ (by omega) ?_)
    simp (disch := omega)
    simp only [hp, Bool.true_and] at hk
    exact keep hk
  | false =>
    simp (disch := omega)
    simp only [hp, Bool.false_and] at hk
    exact keep hk

/-- The first mates copied. -/
def cpy (f : Nat → Int) (k : Nat) : Nat → Int := fun j => if j < k then f j else 0
theorem cpy_zero (f : Nat → Int) : cpy f 0 = fun _ => 0 := by funext j; simp [cpy]
theorem cpy_succ (f : Nat → Int) (k : Nat) : fset (cpy f k) k (f k) = cpy f (k + 1) := by
  funext j
  simp only [fset, cpy]
  by_cases e : j = k
  · subst e; simp
  · rw [if_neg e]
    by_cases h : j < k
    · rw [if_pos h, if_pos (by omega)]
    · rw [if_neg h, if_neg (by omega)]
theorem cpy_all (f : Nat → Int) : mts (cpy f 16) = mts f := by
  simp only [mts]; apply List.map_congr_left; intro j hj; simp only [cpy]; rw [if_pos (by simpa using hj)]

theorem toByteA16_c (f : Nat → Int) (m : List AO) (K : AV → List AO → Prop) (hk : K (.agg (mts f)) m) : ACalls Try.prog 12 [.agg (mts f)] m K := by
  refine ACalls.enter Try.func12 rfl rfl Try.ntmps12 (congrArg Array.toList Try.results12) (by simp) fun hc => ?_
  have hcl : Closed m := ‹_›
  simp (disch := omega)
  refine go_loop (α := {k : Nat // k ≤ 16}) (fun k => mkE [(1, .ptr m.length 0 0), (2, .ptr (m.length + 1) 0 0), (3, .ptr (m.length + 2) 0 0), (4, I k.1)]) (fun k => m ++ [.cells (mts f) 0 1, .cells (mts fun _ => 0) 0 1, .cells (mts (cpy f k.1)) 0 1]) (fun k => 16 - k.1) ⟨0, by omega⟩ (Wk.same (by simp only [cpy_zero]) (by simp (disch := omega))) (fun ⟨k, hk1⟩ => ?_)
  by_cases hc : k < 16
  · have hci : (k : Int) < 16 := by omega
    simp (disch := omega) [hci]
    exact ⟨⟨k + 1, hc⟩, Wk.same (by simp only [cpy_succ]) (by simp (disch := omega)), by simp; omega⟩
  · have e : k = 16 := by omega
    subst e
    simp (disch := omega) [cpy_all]
    exact dropE (n := m.length) m _ rfl (Nat.le_refl _) hcl (by simp [AV.sc, scs]) hk

theorem spl_cons (x : AV) (o : Nat) : ∀ (ys xs : List AV), spl (x :: xs) (o + 1) ys = x :: spl xs o ys
  | [], xs => rfl
  | y :: ys, xs => by simp only [spl, List.set_cons_succ]; rw [spl_cons x (o + 1) ys]
theorem splice_dg1 (n : Int) (f f' : Nat → Int) : splice (dg n f) 1 (mts f') = dg n f' := by
  rw [splice_eq, dg, spl_cons, ← splice_eq, splice_mts]; rfl

theorem toDiagram_c (n : Int) (f : Nat → Int) (m : List AO) (K : AV → List AO → Prop) (hk : K (.agg (dg n f)) m) : ACalls Try.prog 5 [.agg (dg n f)] m K := by
  refine ACalls.enter Try.func5 rfl rfl Try.ntmps5 (congrArg Array.toList Try.results5) (by simp) fun hc => ?_
  have hcl : Closed m := ‹_›
  simp (disch := omega)
  refine goCall_n rfl (toByteA16_c f _ _ ?_)
  simp (disch := omega) [splice_dg1]
  exact dropE (n := m.length) m _ rfl (Nat.le_refl _) hcl (by simp [AV.sc, scs]) hk

end Go.Proofs.Ytkpjaffbbppneaa

/- What is invalid. -/
namespace Go.Proofs.Ytkpjaffbbppneaa
open Go Go.RowKit

abbrev Dia := Int × (Nat → Int)
/-- Diagrams in a row. -/
def dgs (l : List Dia) : List AV := (l.map fun d => dg d.1 d.2).flatten
theorem dgs_cons (d : Dia) (l : List Dia) : dgs (d :: l) = dg d.1 d.2 ++ dgs l := rfl
theorem dgs_len (l : List Dia) : (dgs l).length = 17 * l.length := by
  induction l with
  | nil => rfl
  | cons d l ih => rw [dgs_cons, List.length_append, dg_len, ih, List.length_cons]; omega
theorem dgs_at : ∀ (l : List Dia) (i : Nat) (h : i < l.length), ((dgs l).drop (i * 17)).take 17 = dg l[i].1 l[i].2
  | d :: l, 0, _ => by simp only [Nat.zero_mul, List.drop_zero, dgs_cons]; exact List.take_left' (by simp)
  | d :: l, i + 1, h => by
    rw [dgs_cons, Nat.succ_mul, Nat.add_comm (i * 17) 17, ← List.drop_drop, List.drop_left' (by simp)]
    exact dgs_at l i (by simpa using h)

theorem invalid1_c (n : Int) (f : Nat → Int) (m : List AO) (K : AV → List AO → Prop) (hf : ∀ i, 0 ≤ f i ∧ f i ≤ 255) (hk : K (B (!isD n f)) m) : ACalls Try.prog 30 [.agg (dg n f)] m K := by
  refine ACalls.enter Try.func30 rfl rfl Try.ntmps30 (congrArg Array.toList Try.results30) (by simp) fun hc => ?_
  have hcl : Closed m := ‹_›
  simp (disch := omega)
  refine goCall_n rfl (IsDiagram_c n f _ _ hf ?_)
  simp (disch := omega)
  exact dropE (n := m.length) m _ rfl (Nat.le_refl _) hcl (by simp [AV.sc, scs]) hk

/-- The first that is none, or -1. -/
def firstBad (l : List Dia) : Int := match l.findIdx? (fun d => !isD d.1 d.2) with
  | some i => i
  | none => -1

theorem indexBad_c (a g : Nat) (l : List Dia) (m : List AO) (K : AV → List AO → Prop) (h : content m a g = some (dgs l)) (hl : l.length ≤ 1000000) (hf : ∀ d ∈ l, ∀ i, 0 ≤ d.2 i ∧ d.2 i ≤ 255) (hk : K (I (firstBad l)) m) :
    ACalls Try.prog 47 [.slice a 0 l.length g, .fn 30 []] m K := by
  refine ACalls.enter Try.func47 rfl rfl Try.ntmps47 (congrArg Array.toList Try.results47) (by simp) fun hc => ?_
  have hcl : Closed m := ‹_›
  simp (disch := omega) [h]
  refine go_loop (α := {k : Nat // k ≤ l.length ∧ ∀ j (hj : j < l.length), j < k → isD l[j].1 l[j].2 = true}) (fun k => mkE [(0, .slice a 0 l.length g), (1, .fn 30 []), (7, I l.length), (8, I k.1)]) (fun _ => m) (fun k => l.length - k.1) ⟨0, Nat.zero_le _, by omega⟩ (Wk.same rfl (by simp (disch := omega))) (fun ⟨k, hk1, hk2⟩ => ?_)
  by_cases hc : k < l.length
  · have hb : k * 17 + 17 ≤ (dgs l).length := by rw [dgs_len]; omega
    simp (disch := omega) [h, hc, hb, dgs_at _ _ hc]
    refine goCall_n rfl (invalid1_c _ _ _ _ (hf _ (List.getElem_mem hc)) ?_)
    cases hd : isD l[k].1 l[k].2 with
    | true =>
      simp (disch := omega)
      exact ⟨⟨k + 1, hc, fun j hj hjk => by
        by_cases e : j = k
        · subst e; exact hd
        · exact hk2 j hj (by omega)⟩, Wk.same rfl (by simp (disch := omega)), by simp; omega⟩
    | false =>
      have e : firstBad l = k := by
        have : l.findIdx? (fun d => !isD d.1 d.2) = some k := by
          rw [List.findIdx?_eq_some_iff_getElem]
          exact ⟨hc, by simp [hd], fun j hj => by simp [hk2 j (by omega) hj]⟩
        simp [firstBad, this]
      rw [e] at hk
      simp (disch := omega)
      exact keep hk
  · have e : firstBad l = -1 := by
      have : l.findIdx? (fun d => !isD d.1 d.2) = none := by
        rw [List.findIdx?_eq_none_iff]
        intro d hd
        obtain ⟨j, hj, rfl⟩ := List.mem_iff_getElem.1 hd
        simp [hk2 j hj (by omega)]
      simp [firstBad, this]
    rw [e] at hk
    simp (disch := omega) [hc]
    exact keep hk

theorem containsBad_c (a g : Nat) (l : List Dia) (m : List AO) (K : AV → List AO → Prop) (h : content m a g = some (dgs l)) (hl : l.length ≤ 1000000) (hf : ∀ d ∈ l, ∀ i, 0 ≤ d.2 i ∧ d.2 i ≤ 255) (hk : K (B (decide (0 ≤ firstBad l))) m) :
    ACalls Try.prog 29 [.slice a 0 l.length g, .fn 30 []] m K := by
  refine ACalls.enter Try.func29 rfl rfl Try.ntmps29 (congrArg Array.toList Try.results29) (by simp) fun hc => ?_
  simp (disch := omega)
  refine goCall_n rfl (indexBad_c a g l _ _ h hl hf ?_)
  simp (disch := omega)
  exact keep hk

theorem firstBad_iff (l : List Dia) : decide (0 ≤ firstBad l) = !(l.all fun d => isD d.1 d.2) := by
  unfold firstBad
  cases h : l.findIdx? (fun d => !isD d.1 d.2) with
  | none =>
    rw [List.findIdx?_eq_none_iff] at h
    have : (l.all fun d => isD d.1 d.2) = true := by rw [List.all_eq_true]; intro d hd; simpa using h d hd
    simp [this]
  | some i =>
    rw [List.findIdx?_eq_some_iff_getElem] at h
    obtain ⟨hi, h1, _⟩ := h
    have : (l.all fun d => isD d.1 d.2) = false := by
      rw [Bool.eq_false_iff]; intro ha
      rw [List.all_eq_true] at ha
      rw [ha _ (List.getElem_mem hi)] at h1; simp at h1
    simp [this]

theorem invalid_c (a g : Nat) (l : List Dia) (m : List AO) (K : AV → List AO → Prop) (h : content m a g = some (dgs l)) (hl : l.length ≤ 1000000) (hf : ∀ d ∈ l, ∀ i, 0 ≤ d.2 i ∧ d.2 i ≤ 255) (hk : K (I (if (l.all fun d => isD d.1 d.2) = true then 0 else 1)) m) :
    ACalls Try.prog 13 [.slice a 0 l.length g] m K := by
  refine ACalls.enter Try.func13 rfl rfl Try.ntmps13 (congrArg Array.toList Try.results13) (by simp) fun hc => ?_
  simp (disch := omega)
  refine goCall_n rfl (containsBad_c a g l _ _ h hl hf ?_)
  rw [firstBad_iff]
  cases ha : l.all fun d => isD d.1 d.2 with
  | true =>
    rw [ha] at hk
    simp (disch := omega)
    exact keep hk
  | false =>
    rw [ha] at hk
    simp (disch := omega)
    exact keep hk

end Go.Proofs.Ytkpjaffbbppneaa

/- Powers: both sides. -/
namespace Go.Proofs.Ytkpjaffbbppneaa
open Go Go.RowKit

def pw (a p : Int) : Nat → Int
  | 0 => 1
  | k + 1 => pw a p k * a % p
theorem pw_bd {a p : Int} (hp : 2 ≤ p) : ∀ k, 0 ≤ pw a p k ∧ pw a p k < p
  | 0 => by simp [pw]; omega
  | k + 1 => ⟨Int.emod_nonneg _ (by omega), Int.emod_lt_of_pos _ (by omega)⟩

theorem mul_bd {x a : Int} (hx : 0 ≤ x ∧ x < 97) (ha : 0 ≤ a ∧ a ≤ 1000000) : 0 ≤ x * a ∧ x * a ≤ 97000000 :=
  ⟨Int.mul_nonneg hx.1 ha.1, by
    have h1 : x * a ≤ 97 * a := Int.mul_le_mul_of_nonneg_right (by omega) ha.1
    omega⟩

theorem power_c (a p : Int) (k : Nat) (m : List AO) (K : AV → List AO → Prop) (hp : 2 ≤ p ∧ p ≤ 97) (ha : 0 ≤ a ∧ a ≤ 1000000) (hkb : k ≤ 1000000000) (hk : K (I (pw a p k)) m) : ACalls Try.prog 18 [I a, I k, I p] m K := by
  refine ACalls.enter Try.func18 rfl rfl Try.ntmps18 (congrArg Array.toList Try.results18) (by simp) fun hc => ?_
  simp (disch := omega)
  refine go_loop (α := {j : Nat // j ≤ k}) (fun j => mkE [(0, I a), (2, I p), (7, I (pw a p j.1)), (8, I k), (9, I j.1)]) (fun _ => m) (fun j => k - j.1) ⟨0, Nat.zero_le _⟩ (Wk.same rfl (by simp (disch := omega) [pw])) (fun ⟨j, hj⟩ => ?_)
  have hb := pw_bd (a := a) hp.1 j
  have hm := mul_bd (x := pw a p j) ⟨hb.1, by omega⟩ ha
  have hp0 : ¬ p = 0 := by omega
  have e : (pw a p j * a).tmod p = pw a p (j + 1) := by rw [tmod_pos hm.1 (by omega)]; rfl
  by_cases hc : j < k
  · simp (disch := omega) [hc, hp0, e]
    exact ⟨⟨j + 1, hc⟩, Wk.same rfl (by simp (disch := omega)), by simp; omega⟩
  · have e2 : j = k := by omega
    subst e2
    simp (disch := omega)
    exact keep hk

theorem l02Power_c (a p : Int) (k : Nat) (m : List AO) (K : AV → List AO → Prop) (hp : 2 ≤ p ∧ p ≤ 97) (ha : 0 ≤ a ∧ a ≤ 1000000) (hkb : k ≤ 1000000000) (hk : K (I (pw a p k)) m) : ACalls Try.prog 28 [I p, I a, I k] m K := by
  refine ACalls.enter Try.func28 rfl rfl Try.ntmps28 (congrArg Array.toList Try.results28) (by simp) fun hc => ?_
  have h1 : (1 : Int).tmod p = 1 := by rw [tmod_pos (by omega) (by omega)]; exact Int.emod_eq_of_lt (by omega) (by omega)
  have hp0 : ¬ p = 0 := by omega
  simp (disch := omega) [h1, hp0]
  refine go_loop (α := {j : Nat // j ≤ k}) (fun j => mkE [(0, I p), (1, I a), (2, I (k - j.1 : Nat)), (7, I (pw a p j.1))]) (fun _ => m) (fun j => k - j.1) ⟨0, Nat.zero_le _⟩ (Wk.same rfl (by simp (disch := omega) [pw])) (fun ⟨j, hj⟩ => ?_)
  have hb := pw_bd (a := a) hp.1 j
  have hm := mul_bd (x := pw a p j) ⟨hb.1, by omega⟩ ha
  have e : (pw a p j * a).tmod p = pw a p (j + 1) := by rw [tmod_pos hm.1 (by omega)]; rfl
  by_cases hc : j < k
  · have hc2 : 0 < k - j := by omega
    have e3 : ((k - j : Nat) : Int) - 1 = ((k - (j + 1) : Nat) : Int) := by omega
    simp (disch := omega) [hc2, hp0, e, e3]
    exact ⟨⟨j + 1, hc⟩, Wk.same rfl (by simp (disch := omega)), by simp; omega⟩
  · have e2 : j = k := by omega
    subst e2
    have e4 : j - j = 0 := by omega
    simp (disch := omega) [e4]
    exact keep hk

end Go.Proofs.Ytkpjaffbbppneaa

/- Halves of diagrams: both sides. -/
namespace Go.Proofs.Ytkpjaffbbppneaa
open Go Go.RowKit

/-- The sign of a point in the half that begins at a point. -/
def hs (n : Nat) (f : Nat → Int) (a i : Nat) : Int := if f (a + i) / n ≠ (a : Int) / n then 124 else if ((a + i : Nat) : Int) < f (a + i) then 40 else 41
def hss (n : Nat) (f : Nat → Int) (a k : Nat) : List Int := (List.range k).map (hs n f a)
theorem hss_succ (n : Nat) (f : Nat → Int) (a k : Nat) : hss n f a (k + 1) = hss n f a k ++ [hs n f a k] := by simp [hss, List.range_succ]
@[simp] theorem hss_len (n : Nat) (f : Nat → Int) (a k : Nat) : (hss n f a k).length = k := by simp [hss]

theorem halfOf_c (p n a : Nat) (f : Nat → Int) (m : List AO) (K : AV → List AO → Prop) (h : content m p 0 = some (dg n f)) (h0 : 1 ≤ n) (h1 : n ≤ 8) (ha : a + n ≤ 16) (hf : ∀ i, 0 ≤ f i ∧ f i ≤ 255) (hk : K (Str (uby (hss n f a n))) m) : ACalls Try.prog 37 [.ptr p 0 0, I a] m K := by
  refine ACalls.enter Try.func37 rfl rfl Try.ntmps37 (congrArg Array.toList Try.results37) (by simp) fun hc => ?_
  have hp : p < m.length := content_lt h
  have hcl : Closed m := ‹_›
  simp (disch := omega)
  refine goCall_n rfl (n_c p n f m _ h ?_)
  simp (disch := omega)
  refine go_loop (α := {k : Nat // k ≤ n}) (fun k => mkE [(0,.ptr p 0 0),(1,I a),(5,I n),(6,.slice m.length 0 k.1 k.1),(12,I n),(13,I k.1)]) (fun k => m ++ [.cells ((hss n f a k.1).map U8) k.1 1]) (fun k => n - k.1) ⟨0, by omega⟩ (Wk.same rfl (by simp (disch := omega))) (fun ⟨k,hk2⟩ => ?_)
  have tk : List.take k ((hss n f a k).map U8) = (hss n f a k).map U8 := take_len (by simp)
  by_cases hc : k < n
  · have hq := hf (a + k)
    have eN : ((a : Int) + k).toNat = a + k := by omega
    have hn0 : ¬ (n : Int) = 0 := by omega
    have d1 : (f (a + k)).tdiv n = f (a + k) / n := tdiv_pos hq.1 (by omega)
    have d2 : ((a : Int)).tdiv n = (a : Int) / n := tdiv_pos (by omega) (by omega)
    have b1 : 0 ≤ f (a + k) / n ∧ f (a + k) / n ≤ 255 := ⟨Int.ediv_nonneg hq.1 (by omega), Int.le_trans (Int.ediv_le_self _ hq.1) hq.2⟩
    have b2 : 0 ≤ (a : Int) / n ∧ (a : Int) / n ≤ 255 := ⟨Int.ediv_nonneg (by omega) (by omega), Int.le_trans (Int.ediv_le_self _ (by omega)) (by omega)⟩
    have w1 : IntKind.i64.wrap (f (a + k) / n) = f (a + k) / n := wrap_id (by omega) (by omega)
    have w2 : IntKind.i64.wrap ((a : Int) / n) = (a : Int) / n := wrap_id (by omega) (by omega)
    have fin : ∀ env v, hs n f a k = v → allE env [(0,.ptr p 0 0),(1,I a),(5,I n),(6,.slice m.length 0 (k + 1) (k + 1)),(12,I n),(13,I (k + 1))] → Wk m.length env (m ++ [AO.cells ((hss n f a k).map U8 ++ [U8 v]) (k + 1) 1, .cells [U8 v] 0 1])
        (mkE [(0,.ptr p 0 0),(1,I a),(5,I n),(6,.slice m.length 0 (k + 1) (k + 1)),(12,I n),(13,I (k + 1 : Nat))]) (m ++ [.cells ((hss n f a (k + 1)).map U8) (k + 1) 1]) := fun env v hv he =>
      Wk.cut [.cells ((hss n f a (k + 1)).map U8) (k + 1) 1] [.cells [U8 v] 0 1] (by simp [hss_succ, hv]) rfl (by simpa using he) (Nat.le_refl _) (Closed.u8 hcl _ _ _) (by simp [allS, AV.sc]; omega)
    simp (disch := omega) [hc, cont_old _ hp, h, eN]
    refine go_drawn [] false (by kernel_rfl) (by kernel_rfl) ?_
    by_cases c1 : f (a + k) / n = (a : Int) / n
    · by_cases c2 : ((a : Int) + k) < f (a + k)
      · simp (disch := omega) [hn0, d1, d2, w1, w2, c1, c2, tk]
        exact ⟨⟨k + 1, hc⟩, fin _ 40 (by simp [hs, c1, c2]) (by simp (disch := omega)), by simp; omega⟩
      · simp (disch := omega) [hn0, d1, d2, w1, w2, c1, c2, tk]
        exact ⟨⟨k + 1, hc⟩, fin _ 41 (by simp [hs, c1, c2]) (by simp (disch := omega)), by simp; omega⟩
    · simp (disch := omega) [hn0, d1, d2, w1, w2, c1, tk]
      exact ⟨⟨k + 1, hc⟩, fin _ 124 (by simp [hs, c1]) (by simp (disch := omega)), by simp; omega⟩
  · have e : k = n := by omega
    subst e
    simp (disch := omega) [hc, tk, bytesOf_u8]
    exact drop hcl rfl hk

end Go.Proofs.Ytkpjaffbbppneaa

/- Halves of diagrams: the reference's side. -/
namespace Go.Proofs.Ytkpjaffbbppneaa
open Go Go.RowKit

theorem hs_in (n a i : Nat) (f : Nat → Int) (h0 : 1 ≤ n) (ha : a = 0 ∨ a = n) (h1 : 0 ≤ f (a + i)) (h2 : f (a + i) < 2 * n) : hs n f a i = if (decide ((a : Int) ≤ f (a + i)) && decide (f (a + i) ≤ (a : Int) + n - 1)) = false then 124 else if ((a + i : Nat) : Int) < f (a + i) then 40 else 41 := by
  have key : (f (a + i) / (n : Int) ≠ (a : Int) / n) ↔ (decide ((a : Int) ≤ f (a + i)) && decide (f (a + i) ≤ (a : Int) + n - 1)) = false := by
    have hn : (0 : Int) < n := by omega
    rw [Bool.and_eq_false_iff, decide_eq_false_iff_not, decide_eq_false_iff_not]
    by_cases hlt : f (a + i) < n
    · have e1 : f (a + i) / (n : Int) = 0 := Int.ediv_eq_zero_of_lt h1 hlt
      rw [e1]
      rcases ha with rfl | rfl
      · simp only [Nat.zero_add] at *; simp; omega
      · rw [Int.ediv_self (by omega)]; omega
    · have e1 : f (a + i) / (n : Int) = 1 := by
        have h3 : f (a + i) = (f (a + i) - n) + 1 * n := by omega
        rw [h3, Int.add_mul_ediv_right _ _ (by omega), Int.ediv_eq_zero_of_lt (by omega) (by omega)]; rfl
      rw [e1]
      rcases ha with rfl | rfl
      · simp only [Nat.zero_add] at *; simp; omega
      · rw [Int.ediv_self (by omega)]; omega
  unfold hs
  by_cases h : f (a + i) / (n : Int) ≠ (a : Int) / n
  · rw [if_pos h, if_pos (key.1 h)]
  · rw [if_neg h, if_neg (fun e => h (key.2 e))]

theorem l04Half_c (n : Nat) (f : Nat → Int) (m : List AO) (K : AV → List AO → Prop) (h0 : 1 ≤ n) (h1 : n ≤ 8) (hf : ∀ i, 0 ≤ f i ∧ f i ≤ 255) (hf2 : ∀ i, i < 2 * n → f i < 2 * n) (hk : K (Str (uby (hss n f 0 n))) m) : ACalls Try.prog 46 [.agg (dg n f), B false] m K := by
  refine ACalls.enter Try.func46 rfl rfl Try.ntmps46 (congrArg Array.toList Try.results46) (by simp) fun hc => ?_
  have hcl : Closed m := ‹_›
  simp (disch := omega)
  refine go_loop (α := {k : Nat // k ≤ n}) (fun k => mkE [(2,.ptr m.length 0 0),(6,I 0),(5,.slice (m.length + 1) 0 k.1 k.1),(7,I k.1)]) (fun k => m ++ [.cells (dg n f) 0 1, .cells ((hss n f 0 k.1).map U8) k.1 1]) (fun k => n - k.1) ⟨0, by omega⟩ (Wk.same rfl (by simp (disch := omega))) (fun ⟨k,hk2⟩ => ?_)
  have tk : List.take k ((hss n f 0 k).map U8) = (hss n f 0 k).map U8 := take_len (by simp)
  by_cases hc : k < n
  · have hq := hf k
    have hq2 := hf2 k (by omega)
    have hin := hs_in n 0 k f h0 (.inl rfl) (by simpa using hq.1) (by simpa using hq2)
    simp only [Nat.zero_add] at hin
    have fin : ∀ env v, hs n f 0 k = v → allE env [(2,.ptr m.length 0 0),(6,I 0),(5,.slice (m.length + 1) 0 (k + 1) (k + 1)),(7,I (k + 1))] → Wk m.length env (m ++ [.cells (dg n f) 0 1, AO.cells ((hss n f 0 k).map U8 ++ [U8 v]) (k + 1) 1, .cells [U8 v] 0 1])
        (mkE [(2,.ptr m.length 0 0),(6,I 0),(5,.slice (m.length + 1) 0 (k + 1) (k + 1)),(7,I (k + 1 : Nat))]) (m ++ [.cells (dg n f) 0 1, .cells ((hss n f 0 (k + 1)).map U8) (k + 1) 1]) := fun env v hv he =>
      Wk.cut [.cells (dg n f) 0 1, .cells ((hss n f 0 (k + 1)).map U8) (k + 1) 1] [.cells [U8 v] 0 1] (by simp [hss_succ, hv]) rfl (by simpa using he) (Nat.le_refl _) (hcl.app fun o ho => by
        simp only [List.mem_cons, List.not_mem_nil, or_false] at ho
        rcases ho with rfl | rfl
        · simp [AO.sc]
        · exact scs_map _ (fun n => .int .u8 n) _) (by simp [allS, AV.sc])
    simp (disch := omega) [hc]
    refine goCall_n rfl (l01In_c _ _ _ _ _ ?_)
    by_cases c1 : f k ≤ (n : Int) - 1
    · by_cases c2 : (k : Int) < f k
      · simp (disch := omega) [hq.1, c1, c2, tk]
        exact ⟨⟨k + 1, hc⟩, fin _ 40 (by rw [hin]; simp [hq.1, c1, c2]) (by simp (disch := omega)), by simp; omega⟩
      · simp (disch := omega) [hq.1, c1, c2, tk]
        exact ⟨⟨k + 1, hc⟩, fin _ 41 (by rw [hin]; simp [hq.1, c1, c2]) (by simp (disch := omega)), by simp; omega⟩
    · simp (disch := omega) [hq.1, c1, tk]
      exact ⟨⟨k + 1, hc⟩, fin _ 124 (by rw [hin]; simp [c1]) (by simp (disch := omega)), by simp; omega⟩
  · have e : k = n := by omega
    subst e
    simp (disch := omega) [hc, tk, bytesOf_u8]
    exact dropE (n := m.length) m _ rfl (Nat.le_refl _) hcl rfl hk

end Go.Proofs.Ytkpjaffbbppneaa

/- Open points of half diagrams: both sides. -/
namespace Go.Proofs.Ytkpjaffbbppneaa
open Go Go.RowKit

/-- The open points before a place. -/
def opn (s : List UInt8) (k : Nat) : List Nat := (List.range k).filter fun i => sb s i == 124
theorem opn_succ (s : List UInt8) (k : Nat) : opn s (k + 1) = if sb s k = 124 then opn s k ++ [k] else opn s k := by
  simp only [opn, List.range_succ, List.filter_append]
  by_cases h : sb s k = 124 <;> simp [h]
theorem opn_le (s : List UInt8) (k : Nat) : (opn s k).length ≤ k := by
  have := List.length_filter_le (fun i => sb s i == 124) (List.range k)
  simpa [opn] using this
def ns (l : List Nat) : List AV := l.map fun i : Nat => I (i : Int)
@[simp] theorem ns_len (l : List Nat) : (ns l).length = l.length := by simp [ns]
@[simp] theorem ns_sc (L : Nat) (l : List Nat) : scs L (ns l) = true := scs_map L (fun i : Nat => .int .i64 (i : Int)) _
theorem ns_app (l : List Nat) (k : Nat) : ns (l ++ [k]) = ns l ++ [I k] := by simp [ns]

theorem l04Open_c (s : List UInt8) (m : List AO) (K : AV → List AO → Prop) (hs : s.length ≤ 1000000) (hk : K (I (opn s s.length).length) m) : ACalls Try.prog 43 [Str s] m K := by
  refine ACalls.enter Try.func43 rfl rfl Try.ntmps43 (congrArg Array.toList Try.results43) (by simp) fun hc => ?_
  simp (disch := omega)
  refine go_loop (α := {k : Nat // k ≤ s.length}) (fun k => mkE [(0, Str s), (3, I (opn s k.1).length), (4, I k.1)]) (fun _ => m) (fun k => s.length - k.1) ⟨0, Nat.zero_le _⟩ (Wk.same rfl (by simp (disch := omega) [opn])) (fun ⟨k, hk2⟩ => ?_)
  have hle := opn_le s k
  by_cases hc : k < s.length
  · have hsb : ((s[k]'hc).toNat : Int) = sb s k := by simp [sb, hc]
    by_cases h1 : sb s k = 124
    · simp (disch := omega) [aLen, hc, hsb, h1]
      exact ⟨⟨k + 1, hc⟩, Wk.same rfl (by simp (disch := omega) [opn_succ, h1]), by simp; omega⟩
    · simp (disch := omega) [aLen, hc, hsb, h1]
      exact ⟨⟨k + 1, hc⟩, Wk.same rfl (by simp (disch := omega) [opn_succ, h1]), by simp; omega⟩
  · have e : k = s.length := by omega
    subst e
    simp (disch := omega) [aLen]
    exact keep hk

theorem openPoints_c (s : List UInt8) (m : List AO) (K : AV → List AO → Prop) (hs : s.length ≤ 1000000) (hk : K (.slice m.length 0 (opn s s.length).length (opn s s.length).length) (m ++ [.cells (ns (opn s s.length)) (opn s s.length).length 1])) : ACalls Try.prog 38 [Str s] m K := by
  refine ACalls.enter Try.func38 rfl rfl Try.ntmps38 (congrArg Array.toList Try.results38) (by simp) fun hc => ?_
  have hcl : Closed m := ‹_›
  simp (disch := omega) [aLen]
  refine go_loop (α := {k : Nat // k ≤ s.length}) (fun k => mkE [(0, Str s), (3, .slice m.length 0 (opn s k.1).length (opn s k.1).length), (7, I s.length), (8, I k.1)]) (fun k => m ++ [.cells (ns (opn s k.1)) (opn s k.1).length 1]) (fun k => s.length - k.1) ⟨0, Nat.zero_le _⟩ (Wk.same rfl (by simp (disch := omega) [opn])) (fun ⟨k, hk2⟩ => ?_)
  have hle := opn_le s k
  have tk : List.take (opn s k).length (ns (opn s k)) = ns (opn s k) := take_len (by simp)
  by_cases hc : k < s.length
  · have hsb : ((s[k]'hc).toNat : Int) = sb s k := by simp [sb, hc]
    by_cases h1 : sb s k = 124
    · have e1 : opn s (k + 1) = opn s k ++ [k] := by rw [opn_succ, if_pos h1]
      simp (disch := omega) [hc, hsb, h1, tk]
      exact ⟨⟨k + 1, hc⟩, Wk.cut [.cells (ns (opn s (k + 1))) (opn s (k + 1)).length 1] [.cells [I k] 0 1] (by simp [e1, ns_app]) rfl (by simp (disch := omega) [e1]) (Nat.le_refl _) (hcl.app fun o ho => by
        simp only [List.mem_cons, List.not_mem_nil, or_false] at ho; subst ho; simp [AO.sc]) (by simp [allS, AV.sc]), by simp; omega⟩
    · have e1 : opn s (k + 1) = opn s k := by rw [opn_succ, if_neg h1]
      simp (disch := omega) [hc, hsb, h1]
      exact ⟨⟨k + 1, hc⟩, Wk.same (by simp [e1]) (by simp (disch := omega) [e1]), by simp; omega⟩
  · have e : k = s.length := by omega
    subst e
    simp (disch := omega)
    exact keep hk

end Go.Proofs.Ytkpjaffbbppneaa

/- Texts looked up; joined points. -/
namespace Go.Proofs.Ytkpjaffbbppneaa
open Go Go.RowKit

/-- Texts in a row. -/
def strs (l : List (List UInt8)) : List AV := l.map Str
@[simp] theorem strs_len (l : List (List UInt8)) : (strs l).length = l.length := by simp [strs]
theorem strs_at (l : List (List UInt8)) {i : Nat} (h : i < l.length) : (strs l)[i]? = some (Str l[i]) := by simp [strs, h]
@[simp] theorem strs_sc (L : Nat) (l : List (List UInt8)) : scs L (strs l) = true := scs_map L (fun s : List UInt8 => .string ⟨s.toArray⟩) _
theorem str_list (s : List UInt8) : (⟨s.toArray⟩ : ByteArray).toList = s := by rw [ByteArray.toList_eq]

/-- The place of a text, or -1. -/
def idxS (l : List (List UInt8)) (s : List UInt8) : Int := match l.findIdx? (fun x => s == x) with
  | some i => i
  | none => -1

theorem indexS_c (a g : Nat) (l : List (List UInt8)) (s : List UInt8) (m : List AO) (K : AV → List AO → Prop) (h : content m a g = some (strs l)) (hl : l.length ≤ 1000000) (hk : K (I (idxS l s)) m) : ACalls Try.prog 19 [.slice a 0 l.length g, Str s] m K := by
  refine ACalls.enter Try.func19 rfl rfl Try.ntmps19 (congrArg Array.toList Try.results19) (by simp) fun hc => ?_
  simp (disch := omega) [h]
  refine go_loop (α := {k : Nat // k ≤ l.length ∧ ∀ j (hj : j < l.length), j < k → (s == l[j]) = false}) (fun k => mkE [(0, .slice a 0 l.length g), (1, Str s), (7, I l.length), (8, I k.1)]) (fun _ => m) (fun k => l.length - k.1) ⟨0, Nat.zero_le _, by omega⟩ (Wk.same rfl (by simp (disch := omega))) (fun ⟨k, hk1, hk2⟩ => ?_)
  by_cases hc : k < l.length
  · cases hd : (s == l[k]) with
    | false =>
      simp (disch := omega) [h, hc, strs_at, str_list, hd]
      exact ⟨⟨k + 1, hc, fun j hj hjk => by
        by_cases e : j = k
        · subst e; exact hd
        · exact hk2 j hj (by omega)⟩, Wk.same rfl (by simp (disch := omega)), by simp; omega⟩
    | true =>
      have e : idxS l s = k := by
        have : l.findIdx? (fun x => s == x) = some k := by
          rw [List.findIdx?_eq_some_iff_getElem]
          exact ⟨hc, hd, fun j hj => by simp [hk2 j (by omega) hj]⟩
        simp [idxS, this]
      rw [e] at hk
      simp (disch := omega) [h, hc, strs_at, str_list, hd]
      exact keep hk
  · have e : idxS l s = -1 := by
      have : l.findIdx? (fun x => s == x) = none := by
        rw [List.findIdx?_eq_none_iff]
        intro x hx
        obtain ⟨j, hj, rfl⟩ := List.mem_iff_getElem.1 hx
        exact hk2 j hj (by omega)
      simp [idxS, this]
    rw [e] at hk
    simp (disch := omega) [hc]
    exact keep hk

end Go.Proofs.Ytkpjaffbbppneaa

/- Arcs of half diagrams: the given side. -/
namespace Go.Proofs.Ytkpjaffbbppneaa
open Go Go.RowKit

/-- Arcs, so far: who is joined with whom (-1: open), and the brackets still open, the last one first. -/
def ast (t : Nat → Int) : Nat → Option ((Nat → Int) × List Nat)
  | 0 => some (fun _ => 0, [])
  | k + 1 => match ast t k with
    | none => none
    | some (out, stk) =>
      if t k = 124 ∧ stk = [] then some (fset out k (-1), [])
      else if t k = 40 then some (out, k :: stk)
      else if t k ≠ 41 then none
      else match stk with
        | [] => none
        | i :: r => some (fset (fset out i k) k i, r)
theorem ast_none (t : Nat → Int) (k : Nat) (h : ast t k = none) : ∀ N, k ≤ N → ast t N = none := by
  intro N hN
  induction N with
  | zero => have : k = 0 := by omega
            subst this; exact h
  | succ N ih =>
    by_cases e : k = N + 1
    · subst e; exact h
    · simp only [ast, ih (by omega)]
theorem ast_lt (t : Nat → Int) : ∀ k out stk, ast t k = some (out, stk) → stk.length ≤ k ∧ ∀ i ∈ stk, i < k
  | 0, out, stk, h => by simp [ast] at h; obtain ⟨_, rfl⟩ := h; simp
  | k + 1, out, stk, h => by
    simp only [ast] at h
    cases hp : ast t k with
    | none => simp [hp] at h
    | some s =>
      obtain ⟨o, st⟩ := s
      obtain ⟨h1, h2⟩ := ast_lt t k o st hp
      simp only [hp] at h
      split at h
      · simp at h; obtain ⟨_, rfl⟩ := h; simp
      · split at h
        · simp at h; obtain ⟨_, rfl⟩ := h
          simp; exact ⟨h1, fun i hi => Nat.lt_succ_of_lt (h2 i hi)⟩
        · split at h
          · simp at h
          · cases st with
            | nil => simp at h
            | cons i r =>
              simp at h; obtain ⟨_, rfl⟩ := h
              simp at h1
              exact ⟨by omega, fun j hj => Nat.lt_succ_of_lt (h2 j (by simp [hj]))⟩

/-- How arcs ends. -/
def arcK (s : List UInt8) (m : List AO) (K : AV → List AO → Prop) : Prop :=
  match ast (sb s) s.length with
  | some (out, stk) => K (.tup [.slice m.length 0 s.length 0, B (decide (stk = []))]) (m ++ [.cells (arr s.length out) 0 1])
  | none => K (.tup [.s (.slice none 0 0), B false]) m

set_option maxHeartbeats 1000000 in
theorem arcs_c (s : List UInt8) (m : List AO) (K : AV → List AO → Prop) (hs : s.length ≤ 1000000) (hk : arcK s m K) : ACalls Try.prog 56 [Str s] m K := by
  refine ACalls.enter Try.func56 rfl rfl Try.ntmps56 (congrArg Array.toList Try.results56) (by simp) fun hc => ?_
  have hcl : Closed m := ‹_›
  simp (disch := omega) [arr_zero, aLen]
  refine go_loop (α := {x : Nat × (Nat → Int) × List Nat × List AV × Nat // ast (sb s) x.1 = some (x.2.1, x.2.2.1) ∧ x.1 ≤ s.length})
    (fun x => mkE [(0, Str s), (4, .slice m.length 0 s.length 0), (5, .slice (m.length + 1) 0 x.1.2.2.1.length x.1.2.2.2.2), (13, I s.length), (14, I x.1.1)])
    (fun x => m ++ [.cells (arr s.length x.1.2.1) 0 1, .cells (stkL x.1.2.2.1 ++ x.1.2.2.2.1) x.1.2.2.2.2 1])
    (fun x => s.length - x.1.1) ⟨(0, fun _ => 0, [], [], 0), rfl, Nat.zero_le _⟩ (Wk.keep ?_) (fun ⟨(k, out, stk, junk, g), hp, hkl⟩ => ?_)
  · simp (disch := omega)
  obtain ⟨hl1, hl2⟩ := ast_lt _ _ _ _ hp
  simp only at hp hkl hl1 hl2
  by_cases hc : k < s.length
  · have hsb : ((s[k]'hc).toNat : Int) = sb s k := by simp [sb, hc]
    by_cases h40 : sb s k = 40
    · simp (disch := omega) [hc, hsb, h40, stkL_take]
      refine ⟨⟨(k + 1, out, k :: stk, [], g + 1), by simp [ast, hp, h40], hc⟩, Wk.cut [.cells (arr s.length out) 0 1, .cells (stkL (k :: stk)) (g + 1) 1] [_] (by simp [stkL_push]; rfl) (by simp) (by simp (disch := omega)) (Nat.le_refl _) ?_ ?_, by simp; omega⟩
      · exact Closed.app ‹_› (by simp [AO.sc])
      · simp [allS, AV.sc]
    by_cases h41 : sb s k = 41
    · cases stk with
      | nil =>
        have hno : ast (sb s) s.length = none := ast_none _ (k + 1) (by simp [ast, hp, h41]) _ hc
        simp (disch := omega) [hc, hsb, h40, h41]
        simp only [arcK, hno] at hk
        exact drop ‹_› rfl hk
      | cons i r =>
        have hi : i < k := hl2 i (by simp)
        have hr : r.length + 1 ≤ k := by simpa using hl1
        have hz : ¬((r.length : Int) + 1 = 0) := by omega
        simp (disch := omega) [hc, hsb, h40, h41, stkL_at, arr_set, hz]
        refine ⟨⟨(k + 1, fset (fset out i k) k i, r, I i :: junk, g), by simp [ast, hp, h41], hc⟩, Wk.same (by simp [stkL_push]) (by simp (disch := omega)), by simp; omega⟩
    · by_cases h124 : sb s k = 124
      · cases stk with
        | nil =>
          simp (disch := omega) [hc, hsb, h40, h41, h124, arr_set]
          refine ⟨⟨(k + 1, fset out k (-1), [], junk, g), by simp [ast, hp, h124], hc⟩, Wk.same (by simp) (by simp (disch := omega)), by simp; omega⟩
        | cons i r =>
          have hr : r.length + 1 ≤ k := by simpa using hl1
          have hz : ¬((r.length : Int) + 1 = 0) := by omega
          have hno : ast (sb s) s.length = none := ast_none _ (k + 1) (by simp [ast, hp, h124]) _ hc
          simp (disch := omega) [hc, hsb, h40, h41, h124, hz]
          simp only [arcK, hno] at hk
          exact drop ‹_› rfl hk
      · have hno : ast (sb s) s.length = none := ast_none _ (k + 1) (by simp [ast, hp, h40, h41, h124]) _ hc
        simp (disch := omega) [hc, hsb, h40, h41, h124]
        simp only [arcK, hno] at hk
        exact drop ‹_› rfl hk
  · have e : k = s.length := by omega
    subst e
    simp (disch := omega) [hc]
    simp only [arcK, hp] at hk
    exact dropE (n := m.length) (m ++ [.cells (arr s.length out) 0 1]) [.cells (stkL stk ++ junk) g 1] (by simp) (by simp) (Closed.app ‹_› (by simp [AO.sc])) (by simp [AV.sc, scs]) hk

end Go.Proofs.Ytkpjaffbbppneaa

/- Joined points. -/
namespace Go.Proofs.Ytkpjaffbbppneaa
open Go Go.RowKit

theorem cont_set {m : List AO} {p : Nat} (h : p < m.length) (xs : List AV) (g z : Nat) : content (m.set p (.cells xs g z)) p g = some xs := by simp [content, h]

theorem join_c (p i j : Nat) (n : Int) (f : Nat → Int) (m : List AO) (K : AV → List AO → Prop) (hm : m[p]? = some (.cells (dg n f) 0 1)) (hi : i < 16) (hj : j < 16) (hk : K (.tup []) (m.set p (.cells (dg n (fset (fset f i j) j i)) 0 1))) : ACalls Try.prog 57 [.ptr p 0 0, I i, I j] m K := by
  refine ACalls.enter Try.func57 rfl rfl Try.ntmps57 (congrArg Array.toList Try.results57) (by simp) fun hc => ?_
  have hc : content m p 0 = some (dg n f) := by simp [content, hm]
  have hlt : p < m.length := content_lt hc
  refine go_drawn [] false (by kernel_rfl) (by kernel_rfl) ?_
  have hm2 : m[p]'hlt = .cells (dg n f) 0 1 := (List.getElem?_eq_some_iff.1 hm).2
  simp (disch := omega) [hc, hm2, wrap8_id, cont_set hlt]
  exact keep hk

end Go.Proofs.Ytkpjaffbbppneaa

/- Along a line of two diagrams: the given side. -/
namespace Go.Proofs.Ytkpjaffbbppneaa
open Go Go.RowKit

def bset (b : Nat → Bool) (i : Nat) : Nat → Bool := fun j => if j = i then true else b j
/-- Eight marks. -/
def bls (b : Nat → Bool) : List AV := (List.range 8).map fun i => B (b i)
@[simp] theorem bls_len (b : Nat → Bool) : (bls b).length = 8 := by simp [bls]
@[simp] theorem bls_sc (L : Nat) (b : Nat → Bool) : scs L (bls b) = true := scs_map L (fun i => .bool (b i)) _
theorem bls_at (b : Nat → Bool) {i : Nat} (h : i < 8) : (bls b)[i]? = some (B (b i)) := by simp [bls, h]
theorem bls_set (b : Nat → Bool) (i : Nat) : (bls b).set i (B true) = bls (bset b i) := by
  apply List.ext_getElem?
  intro j
  by_cases hj : j < 8
  · rw [bls_at _ hj, List.getElem?_set]
    by_cases h : i = j
    · subst h; simp [bset, hj]
    · rw [if_neg h, bls_at _ hj]; simp [bset]; intro e; exact absurd e.symm h
  · rw [List.getElem?_eq_none (by simp; omega), List.getElem?_eq_none (by simp; omega)]

/-- A walk along lines: what is met, which middle points are marked, where it ends. -/
def fol {σ : Type} (n : Nat) (fd fe : Nat → Int) (mt : σ → Bool → Nat → σ) (til : Int) : Nat → σ → (Nat → Bool) → Bool → Nat → Option (σ × (Nat → Bool) × Int)
  | 0, _, _, _, _ => none
  | k + 1, s, b, low, pt =>
    if low = decide ((n : Int) ≤ if low then fe pt else fd pt) then some (mt s low pt, b, if low then fe pt else fd pt)
    else if (((if low then fe pt else fd pt).toNat % n : Nat) : Int) = til then some (mt s low pt, bset b ((if low then fe pt else fd pt).toNat % n), -1)
    else fol n fd fe mt til k (mt s low pt) (bset b ((if low then fe pt else fd pt).toNat % n)) (!low) (if low then n + (if low then fe pt else fd pt).toNat % n else (if low then fe pt else fd pt).toNat % n)

/-- The cells of a stack of two diagrams. -/
def stk2 (pd pe : Nat) (b : Nat → Bool) (mf : FuncId) (caps : List AV) : List AV := .ptr pd 0 0 :: .ptr pe 0 0 :: (bls b ++ [.fn mf caps])
theorem stk2_seen (pd pe : Nat) (b : Nat → Bool) (mf : FuncId) (caps : List AV) {i : Nat} (h : i < 8) : (stk2 pd pe b mf caps)[2 + i]? = some (B (b i)) := by
  rw [stk2, Nat.add_comm, List.getElem?_cons_succ, List.getElem?_cons_succ, List.getElem?_append_left (by simpa using h), bls_at _ h]
theorem stk2_set (pd pe : Nat) (b : Nat → Bool) (mf : FuncId) (caps : List AV) {i : Nat} (h : i < 8) : (stk2 pd pe b mf caps).set (2 + i) (B true) = stk2 pd pe (bset b i) mf caps := by
  rw [stk2, Nat.add_comm, List.set_cons_succ, List.set_cons_succ, List.set_append_left _ _ (by simpa using h), bls_set]; rfl
theorem stk2_0 (pd pe : Nat) (b : Nat → Bool) (mf : FuncId) (caps : List AV) : (stk2 pd pe b mf caps)[0]? = some (.ptr pd 0 0) := rfl
theorem stk2_1 (pd pe : Nat) (b : Nat → Bool) (mf : FuncId) (caps : List AV) : (stk2 pd pe b mf caps)[1]? = some (.ptr pe 0 0) := rfl
theorem stk2_10 (pd pe : Nat) (b : Nat → Bool) (mf : FuncId) (caps : List AV) : (stk2 pd pe b mf caps)[10]? = some (.fn mf caps) := by
  simp [stk2, List.getElem?_append_right]
@[simp] theorem stk2_len (pd pe : Nat) (b : Nat → Bool) (mf : FuncId) (caps : List AV) : (stk2 pd pe b mf caps).length = 11 := by simp [stk2]

end Go.Proofs.Ytkpjaffbbppneaa

/- Along a line of two diagrams: the given side's walk. -/
namespace Go.Proofs.Ytkpjaffbbppneaa
open Go Go.RowKit

set_option maxHeartbeats 2000000 in
theorem follow_c {σ : Type} (n pd pe st : Nat) (fd fe : Nat → Int) (mf : FuncId) (caps : List AV) (mt : σ → Bool → Nat → σ) (L : σ → (Nat → Bool) → List AO) (h0 : 1 ≤ n) (h1 : n ≤ 8)
    (hfd : ∀ i, 0 ≤ fd i ∧ fd i < 2 * n) (hfe : ∀ i, 0 ≤ fe i ∧ fe i < 2 * n)
    (hst : ∀ s b, (L s b)[st]? = some (.cells (stk2 pd pe b mf caps) 0 1)) (hset : ∀ s b b', (L s b).set st (.cells (stk2 pd pe b' mf caps) 0 1) = L s b')
    (hd : ∀ s b, content (L s b) pd 0 = some (dg n fd)) (he : ∀ s b, content (L s b) pe 0 = some (dg n fe))
    (hmt : ∀ s b low (pt : Nat) K, pt < 2 * n → K (.tup []) (L (mt s low pt) b) → ACalls Try.prog mf ([B low, I pt] ++ caps) (L s b) K)
    (til : Int) (k : Nat) (s : σ) (b : Nat → Bool) (low : Bool) (pt : Nat) (s' : σ) (b' : Nat → Bool) (r : Int) (hpt : pt < 2 * n) (hfol : fol n fd fe mt til k s b low pt = some (s', b', r))
    (K : AV → List AO → Prop) (hk : K (I r) (L s' b')) : ACalls Try.prog 64 [.ptr st 0 0, B low, I pt, I til] (L s b) K := by
  refine ACalls.enter Try.func64 rfl rfl Try.ntmps64 (congrArg Array.toList Try.results64) (by simp) fun hc => ?_
  have hcl : Closed (L s b) := ‹_›
  have hc : ∀ s b, content (L s b) st 0 = some (stk2 pd pe b mf caps) := fun s b => by simp [content, hst]
  simp (disch := omega) [hc, stk2_0, hd]
  refine goCall_n rfl (n_c pd n fd _ _ (hd s b) ?_)
  simp (disch := omega)
  refine go_loop (α := {x : Nat × σ × (Nat → Bool) × Bool × Nat // x.2.2.2.2 < 2 * n ∧ fol n fd fe mt til x.1 x.2.1 x.2.2.1 x.2.2.2.1 x.2.2.2.2 = some (s', b', r)})
    (fun x => mkE [(0, .ptr st 0 0), (1, B x.1.2.2.2.1), (2, I x.1.2.2.2.2), (3, I til), (9, I n)]) (fun x => L x.1.2.1 x.1.2.2.1) (fun x => x.1.1) ⟨(k, s, b, low, pt), hpt, hfol⟩ (Wk.same rfl (by simp (disch := omega))) (fun ⟨(k, s, b, low, pt), hpt, hfol⟩ => ?_)
  simp only at hpt hfol
  cases k with
  | zero => simp [fol] at hfol
  | succ k =>
    have hn0 : ¬ (n : Int) = 0 := by omega
    cases low with
    | false =>
      have hq := hfd pt
      obtain ⟨mid, hmid⟩ : ∃ mid, mid = (fd pt).toNat % n := ⟨_, rfl⟩
      have hmod : (fd pt).tmod n = (mid : Int) := by
        rw [tmod_pos hq.1 (by omega), hmid]
        have : fd pt = ((fd pt).toNat : Int) := by omega
        rw [this]; simp
      have hmlt : mid < n := by rw [hmid]; exact Nat.mod_lt _ (by omega)
      simp (disch := omega) [hc, hst, stk2_0, stk2_1, stk2_10, hd, he]
      refine goCall_n rfl (hmt s b false pt _ hpt ?_)
      have hpt16 : pt < 16 := by omega
      by_cases hlt : (n : Int) ≤ fd pt
      · have hw : ¬ (false = decide ((n : Int) ≤ fd pt)) := by simp [hlt]
        simp only [fol, Bool.false_eq_true, if_false] at hfol
        rw [if_neg hw, ← hmid] at hfol
        by_cases htl : (mid : Int) = til
        · rw [if_pos htl] at hfol
          simp only [Option.some.injEq, Prod.mk.injEq] at hfol
          obtain ⟨rfl, rfl, rfl⟩ := hfol
          have htl2 : ((mid : Int) = til) = True := eq_true htl
          subst htl
          simp (disch := omega) [hc, hst, stk2_0, stk2_1, stk2_10, hd, he, hlt, hn0, hmod, stk2_set, hset]
          exact keep hk
        · rw [if_neg htl] at hfol
          simp (disch := omega) [hc, hst, stk2_0, stk2_1, stk2_10, hd, he, hlt, hn0, hmod, stk2_set, hset, htl]
          exact ⟨⟨(k, mt s false pt, bset b mid, true, mid), by simp; omega, hfol⟩, Wk.same rfl (by simp (disch := omega)), by simp⟩
      · have hw : (false = decide ((n : Int) ≤ fd pt)) := by simp [hlt]
        simp only [fol, Bool.false_eq_true, if_false] at hfol
        rw [if_pos hw] at hfol
        simp only [Option.some.injEq, Prod.mk.injEq] at hfol
        obtain ⟨rfl, rfl, rfl⟩ := hfol
        simp (disch := omega) [hc, hst, stk2_0, stk2_1, stk2_10, hd, he, hlt, hn0, hmod]
        exact keep hk
    | true =>
      have hq := hfe pt
      obtain ⟨mid, hmid⟩ : ∃ mid, mid = (fe pt).toNat % n := ⟨_, rfl⟩
      have hmod : (fe pt).tmod n = (mid : Int) := by
        rw [tmod_pos hq.1 (by omega), hmid]
        have : fe pt = ((fe pt).toNat : Int) := by omega
        rw [this]; simp
      have hmlt : mid < n := by rw [hmid]; exact Nat.mod_lt _ (by omega)
      simp (disch := omega) [hc, hst, stk2_0, stk2_1, stk2_10, hd, he]
      refine goCall_n rfl (hmt s b true pt _ hpt ?_)
      have hpt16 : pt < 16 := by omega
      by_cases hlt : ¬ (n : Int) ≤ fe pt
      · have hw : ¬ (true = decide ((n : Int) ≤ fe pt)) := by simp [hlt]
        simp only [fol, if_true] at hfol
        rw [if_neg hw, ← hmid] at hfol
        by_cases htl : (mid : Int) = til
        · rw [if_pos htl] at hfol
          simp only [Option.some.injEq, Prod.mk.injEq] at hfol
          obtain ⟨rfl, rfl, rfl⟩ := hfol
          have htl2 : ((mid : Int) = til) = True := eq_true htl
          subst htl
          simp (disch := omega) [hc, hst, stk2_0, stk2_1, stk2_10, hd, he, hlt, hn0, hmod, stk2_set, hset]
          exact keep hk
        · rw [if_neg htl] at hfol
          simp (disch := omega) [hc, hst, stk2_0, stk2_1, stk2_10, hd, he, hlt, hn0, hmod, stk2_set, hset, htl]
          exact ⟨⟨(k, mt s true pt, bset b mid, false, n + mid), by simp; omega, hfol⟩, Wk.same rfl (by simp (disch := omega)), by simp⟩
      · have hlt : (n : Int) ≤ fe pt := by omega
        have hw : (true = decide ((n : Int) ≤ fe pt)) := by simp [hlt]
        simp only [fol, if_true] at hfol
        rw [if_pos hw] at hfol
        simp only [Option.some.injEq, Prod.mk.injEq] at hfol
        obtain ⟨rfl, rfl, rfl⟩ := hfol
        simp (disch := omega) [hc, hst, stk2_0, stk2_1, stk2_10, hd, he, hlt, hn0, hmod]
        exact keep hk

end Go.Proofs.Ytkpjaffbbppneaa

/- The product of two diagrams: the given side's walk. -/
namespace Go.Proofs.Ytkpjaffbbppneaa
open Go Go.RowKit

/-- The lines from the outer points, so far. -/
def pr1 {σ : Type} (n : Nat) (fd fe : Nat → Int) (mt : σ → Bool → Nat → σ) (en : σ → Nat → Int → σ) (F : Nat) (s0 : σ) : Nat → Option (σ × (Nat → Bool))
  | 0 => some (s0, fun _ => false)
  | i + 1 => match pr1 n fd fe mt en F s0 i with
    | none => none
    | some (s, b) => match fol n fd fe mt (-1) F s b false i with
      | none => none
      | some (s1, b1, r1) => match fol n fd fe mt (-1) F (en s1 i r1) b1 true (n + i) with
        | none => none
        | some (s2, b2, r2) => some (en s2 (n + i) r2, b2)
/-- The loops, so far. -/
def pr2 {σ : Type} (n : Nat) (fd fe : Nat → Int) (mt : σ → Bool → Nat → σ) (lp : σ → σ) (F : Nat) (s0 : σ) (b0 : Nat → Bool) : Nat → Option (σ × (Nat → Bool))
  | 0 => some (s0, b0)
  | i + 1 => match pr2 n fd fe mt lp F s0 b0 i with
    | none => none
    | some (s, b) => if b i = true then some (s, b) else match fol n fd fe mt i F s b true i with
      | none => none
      | some (s1, b1, _) => some (lp s1, b1)

theorem pr1_some {σ : Type} {n : Nat} {fd fe : Nat → Int} {mt : σ → Bool → Nat → σ} {en : σ → Nat → Int → σ} {F : Nat} {s0 : σ} {k : Nat} : ∀ {N : Nat}, k ≤ N → (pr1 n fd fe mt en F s0 N).isSome = true → (pr1 n fd fe mt en F s0 k).isSome = true := by
  intro N
  induction N with
  | zero => intro h1 h2; have : k = 0 := by omega
            subst this; exact h2
  | succ N ih =>
    intro h1 h2
    by_cases e : k = N + 1
    · subst e; exact h2
    · refine ih (by omega) ?_
      cases h : pr1 n fd fe mt en F s0 N with
      | none => simp [pr1, h] at h2
      | some x => rfl
theorem pr2_some {σ : Type} {n : Nat} {fd fe : Nat → Int} {mt : σ → Bool → Nat → σ} {lp : σ → σ} {F : Nat} {s0 : σ} {b0 : Nat → Bool} {k : Nat} : ∀ {N : Nat}, k ≤ N → (pr2 n fd fe mt lp F s0 b0 N).isSome = true → (pr2 n fd fe mt lp F s0 b0 k).isSome = true := by
  intro N
  induction N with
  | zero => intro h1 h2; have : k = 0 := by omega
            subst this; exact h2
  | succ N ih =>
    intro h1 h2
    by_cases e : k = N + 1
    · subst e; exact h2
    · refine ih (by omega) ?_
      cases h : pr2 n fd fe mt lp F s0 b0 N with
      | none => simp [pr2, h] at h2
      | some x => rfl

end Go.Proofs.Ytkpjaffbbppneaa

/- The product of two diagrams: the given side's walk, whole. -/
namespace Go.Proofs.Ytkpjaffbbppneaa
open Go Go.RowKit

theorem fol_bd {σ : Type} {n : Nat} {fd fe : Nat → Int} {mt : σ → Bool → Nat → σ} {til : Int} (hfd : ∀ i, 0 ≤ fd i ∧ fd i < 2 * n) (hfe : ∀ i, 0 ≤ fe i ∧ fe i < 2 * n) :
    ∀ (k : Nat) (s : σ) (b : Nat → Bool) (low : Bool) (pt : Nat) (s' : σ) (b' : Nat → Bool) (r : Int), fol n fd fe mt til k s b low pt = some (s', b', r) → -1 ≤ r ∧ r < 2 * n
  | 0, s, b, low, pt, s', b', r, h => by simp [fol] at h
  | k + 1, s, b, low, pt, s', b', r, h => by
    have h1 := hfd pt
    have h2 := hfe pt
    cases low
    all_goals
      simp only [fol, Bool.false_eq_true, if_false, if_true] at h
      split at h
      · simp only [Option.some.injEq, Prod.mk.injEq] at h
        obtain ⟨_, _, rfl⟩ := h
        omega
      · split at h
        · simp only [Option.some.injEq, Prod.mk.injEq] at h
          obtain ⟨_, _, rfl⟩ := h
          omega
        · exact fol_bd hfd hfe k _ _ _ _ _ _ _ h

set_option maxHeartbeats 4000000 in
theorem product_c {σ : Type} (n pd pe : Nat) (fd fe : Nat → Int) (mf ef lf : FuncId) (mc ec lc : List AV) (mt : σ → Bool → Nat → σ) (en : σ → Nat → Int → σ) (lp : σ → σ) (M : σ → List AO) (P0 : Nat) (h0 : 1 ≤ n) (h1 : n ≤ 8) (F : Nat)
    (hfd : ∀ i, 0 ≤ fd i ∧ fd i < 2 * n) (hfe : ∀ i, 0 ≤ fe i ∧ fe i < 2 * n) (hP : ∀ s, (M s).length = P0) (hMc : ∀ s, Closed (M s))
    (hd : ∀ s, content (M s) pd 0 = some (dg n fd)) (he : ∀ s, content (M s) pe 0 = some (dg n fe))
    (hmt : ∀ s T low (pt : Nat) K, pt < 2 * n → K (.tup []) (M (mt s low pt) ++ T) → ACalls Try.prog mf ([B low, I pt] ++ mc) (M s ++ T) K)
    (hen : ∀ s T (i : Nat) (r : Int) K, i < 2 * n → -1 ≤ r → r < 2 * n → K (.tup []) (M (en s i r) ++ T) → ACalls Try.prog ef ([I i, I r] ++ ec) (M s ++ T) K)
    (hlp : ∀ s T K, K (.tup []) (M (lp s) ++ T) → ACalls Try.prog lf lc (M s ++ T) K)
    (s0 : σ) (s1 s2 : σ) (b1 b2 : Nat → Bool) (hp1 : pr1 n fd fe mt en F s0 n = some (s1, b1)) (hp2 : pr2 n fd fe mt lp F s1 b1 n = some (s2, b2))
    (K : AV → List AO → Prop) (hk : K (.tup []) (M s2)) : ACalls Try.prog 52 [.ptr pd 0 0, .ptr pe 0 0, .fn mf mc, .fn ef ec, .fn lf lc] (M s0) K := by
  refine ACalls.enter Try.func52 rfl rfl Try.ntmps52 (congrArg Array.toList Try.results52) (by simp) fun hc => ?_
  have hcl : Closed (M s0) := ‹_›
  simp (disch := omega)
  refine goCall_n rfl (n_c pd n fd _ _ (hd s0) ?_)
  simp (disch := omega)
  have hz : [AV.ptr pd 0 0, AV.ptr pe 0 0, AV.s (Value.bool false), AV.s (Value.bool false), AV.s (Value.bool false), AV.s (Value.bool false), AV.s (Value.bool false), AV.s (Value.bool false), AV.s (Value.bool false), AV.s (Value.bool false), AV.fn mf mc] = stk2 pd pe (fun _ => false) mf mc := rfl
  have hPs := hP s0
  have hdl : pd < P0 := by rw [← hPs]; exact content_lt (hd s0)
  have hel : pe < P0 := by rw [← hPs]; exact content_lt (he s0)
  have follow : ∀ (s : σ) (b : Nat → Bool) (low : Bool) (pt : Nat) (til : Int) (s' : σ) (b' : Nat → Bool) (r : Int) (K : AV → List AO → Prop), pt < 2 * n → fol n fd fe mt til F s b low pt = some (s', b', r) → K (I r) (M s' ++ [.cells (stk2 pd pe b' mf mc) 0 1]) →
      ACalls Try.prog 64 [.ptr P0 0 0, B low, I pt, I til] (M s ++ [.cells (stk2 pd pe b mf mc) 0 1]) K := by
    intro s b low pt til s' b' r K hpt hf hK
    refine follow_c n pd pe P0 fd fe mf mc mt (fun s b => M s ++ [.cells (stk2 pd pe b mf mc) 0 1]) h0 h1 hfd hfe ?_ ?_ ?_ ?_ ?_ til F s b low pt s' b' r hpt hf K hK
    · intro s b; rw [← hP s, get_loc0]; rfl
    · intro s b b'; rw [← hP s, set_loc0]; rfl
    · intro s b; rw [cont_old 0 (by rw [hP s]; exact hdl)]; exact hd s
    · intro s b; rw [cont_old 0 (by rw [hP s]; exact hel)]; exact he s
    · intro s b low pt K hpt hK; exact hmt s _ low pt K hpt hK
  rw [hPs]
  refine go_loop (α := {x : Nat × σ × (Nat → Bool) // x.1 ≤ n ∧ pr1 n fd fe mt en F s0 x.1 = some (x.2.1, x.2.2)})
    (fun x => mkE [(0, .ptr pd 0 0), (3, .fn ef ec), (4, .fn lf lc), (10, I n), (11, .ptr P0 0 0), (21, I n), (22, I x.1.1)]) (fun x => M x.1.2.1 ++ [.cells (stk2 pd pe x.1.2.2 mf mc) 0 1]) (fun x => n - x.1.1) ⟨(0, s0, fun _ => false), Nat.zero_le _, rfl⟩ (Wk.same (by rw [← hz]) (by simp (disch := omega) [hPs])) (fun ⟨(i, s, b), hi, hp⟩ => ?_)
  simp only at hi hp
  by_cases hc : i < n
  · have hs1 := pr1_some (n := n) (fd := fd) (fe := fe) (mt := mt) (en := en) (F := F) (s0 := s0) (k := i + 1) hc (by rw [hp1]; rfl)
    simp only [pr1, hp] at hs1
    cases hf1 : fol n fd fe mt (-1) F s b false i with
    | none => rw [hf1] at hs1; simp at hs1
    | some x =>
      obtain ⟨s3, b3, r3⟩ := x
      rw [hf1] at hs1
      simp only at hs1
      cases hf2 : fol n fd fe mt (-1) F (en s3 i r3) b3 true (n + i) with
      | none => rw [hf2] at hs1; simp at hs1
      | some y =>
        obtain ⟨s4, b4, r4⟩ := y
        have bd3 := fol_bd hfd hfe _ _ _ _ _ _ _ _ hf1
        have bd4 := fol_bd hfd hfe _ _ _ _ _ _ _ _ hf2
        have hpr : pr1 n fd fe mt en F s0 (i + 1) = some (en s4 (n + i) r4, b4) := by simp only [pr1, hp, hf1, hf2]
        simp (disch := omega) [hc]
        refine goCall_n rfl (follow s b false i (-1) s3 b3 r3 _ (by omega) hf1 ?_)
        simp (disch := omega)
        refine goCall_n rfl (hen s3 _ i r3 _ (by omega) bd3.1 bd3.2 ?_)
        simp (disch := omega)
        refine goCall_n rfl (follow (en s3 i r3) b3 true (n + i) (-1) s4 b4 r4 _ (by omega) hf2 ?_)
        simp (disch := omega)
        refine goCall_n rfl (hen s4 _ (n + i) r4 _ (by omega) bd4.1 bd4.2 ?_)
        simp (disch := omega)
        exact ⟨⟨(i + 1, en s4 (n + i) r4, b4), hc, hpr⟩, Wk.same rfl (by simp (disch := omega)), by simp; omega⟩
  · have e : i = n := by omega
    rw [e, hp1] at hp
    simp only [Option.some.injEq, Prod.mk.injEq] at hp
    obtain ⟨rfl, rfl⟩ := hp
    simp (disch := omega) [hc]
    have hst : ∀ (s : σ) (b : Nat → Bool), content (M s ++ [AO.cells (stk2 pd pe b mf mc) 0 1]) P0 0 = some (stk2 pd pe b mf mc) := fun s b => by rw [← hP s]; simp (disch := omega)
    refine go_loop (α := {x : Nat × σ × (Nat → Bool) // x.1 ≤ n ∧ pr2 n fd fe mt lp F s1 b1 x.1 = some (x.2.1, x.2.2)})
      (fun x => mkE [(4, .fn lf lc), (11, .ptr P0 0 0), (42, I n), (43, I x.1.1)]) (fun x => M x.1.2.1 ++ [.cells (stk2 pd pe x.1.2.2 mf mc) 0 1]) (fun x => n - x.1.1) ⟨(0, s1, b1), Nat.zero_le _, rfl⟩ (Wk.same rfl (by simp (disch := omega))) (fun ⟨(j, s, b), hj, hq⟩ => ?_)
    simp only at hj hq
    by_cases hcj : j < n
    · have hs2 := pr2_some (n := n) (fd := fd) (fe := fe) (mt := mt) (lp := lp) (F := F) (s0 := s1) (b0 := b1) (k := j + 1) hcj (by rw [hp2]; rfl)
      have hj8 : j < 8 := by omega
      simp only [pr2, hq] at hs2
      simp (disch := omega) [hcj, hst, stk2_seen]
      cases hb : b j with
      | true =>
        simp (disch := omega)
        exact ⟨⟨(j + 1, s, b), hcj, by simp only [pr2, hq, hb, if_true]⟩, Wk.same rfl (by simp (disch := omega)), by simp; omega⟩
      | false =>
        rw [hb] at hs2
        simp only [Bool.false_eq_true, if_false] at hs2
        cases hf1 : fol n fd fe mt j F s b true j with
        | none => rw [hf1] at hs2; simp at hs2
        | some x =>
          obtain ⟨s3, b3, r3⟩ := x
          simp (disch := omega)
          refine goCall_n rfl (follow s b true j j s3 b3 r3 _ (by omega) hf1 ?_)
          simp (disch := omega)
          refine goCall_n rfl (hlp s3 _ _ ?_)
          simp (disch := omega)
          exact ⟨⟨(j + 1, lp s3, b3), hcj, by simp only [pr2, hq, hb, hf1, Bool.false_eq_true, if_false]⟩, Wk.same rfl (by simp (disch := omega)), by simp; omega⟩
    · have e2 : j = n := by omega
      rw [e2, hp2] at hq
      simp only [Option.some.injEq, Prod.mk.injEq] at hq
      obtain ⟨rfl, rfl⟩ := hq
      simp (disch := omega) [hcj]
      exact dropE (n := P0) (M s2) _ rfl (by rw [hP]; exact Nat.le_refl _) (hMc s2) (by simp [AV.sc, scs]) hk

end Go.Proofs.Ytkpjaffbbppneaa
