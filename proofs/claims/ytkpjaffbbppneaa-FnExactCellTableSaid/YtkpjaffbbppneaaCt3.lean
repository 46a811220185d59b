/- The program's CellTable returns what the reference's CellTable returns, for all arguments, in memory of its own (FnExactCellTable). Conditions: none. -/
import Derived.WalkKit
import Derived.Orders
import Derived.Laws.StructEq
import Derived.Test.YtkpjaffbbppneaaRows
import Derived.ProofKit
import Derived.Test.YtkpjaffbbppneaaCt2
set_option linter.unusedSimpArgs false
set_option linter.unusedVariables false
set_option linter.unusedSectionVars false

/- The product of two diagrams, the given side: the plain one. -/
namespace Go.Proofs.Ytkpjaffbbppneaa
open Go Go.RowKit

/-- A product's state: its mates, its loops. -/
abbrev PS := (Nat → Int) × Int
def pen (s : PS) (i : Nat) (r : Int) : PS := (fset s.1 i (IntKind.u8.wrap r), s.2)
def plp (s : PS) : PS := (s.1, IntKind.i64.wrap (s.2 + 1))
def pmt (s : PS) (_ : Bool) (_ : Nat) : PS := s
def tmL (m : List AO) (n : Nat) (fd fe : Nat → Int) (s : PS) : List AO := m ++ [.cells (dg n fd) 0 1, .cells (dg n fe) 0 1, .cells (dg 0 fun _ => 0) 0 1, .cells (dg n s.1) 0 1, .cells [I s.2] 0 1]

theorem times1_c (low : Bool) (pt : Nat) (m : List AO) (K : AV → List AO → Prop) (hk : K (.tup []) m) : ACalls Try.prog 53 [B low, I pt] m K := by
  refine ACalls.enter Try.func53 rfl rfl Try.ntmps53 (congrArg Array.toList Try.results53) (by simp) fun hc => ?_
  simp (disch := omega)
  exact keep hk

theorem times2_c (i p : Nat) (r n : Int) (f : Nat → Int) (m : List AO) (K : AV → List AO → Prop) (hm : m[p]? = some (.cells (dg n f) 0 1)) (hi : i < 16) (hk : K (.tup []) (m.set p (.cells (dg n (fset f i (IntKind.u8.wrap r))) 0 1))) : ACalls Try.prog 54 [I i, I r, .ptr p 0 0] m K := by
  refine ACalls.enter Try.func54 rfl rfl Try.ntmps54 (congrArg Array.toList Try.results54) (by simp) fun hc => ?_
  have hc : content m p 0 = some (dg n f) := by simp [content, hm]
  simp (disch := omega) [hc, hm]
  exact keep hk

theorem times3_c (p : Nat) (x : Int) (m : List AO) (K : AV → List AO → Prop) (hm : m[p]? = some (.cells [I x] 0 1)) (hk : K (.tup []) (m.set p (.cells [I (IntKind.i64.wrap (x + 1))] 0 1))) : ACalls Try.prog 55 [.ptr p 0 0] m K := by
  refine ACalls.enter Try.func55 rfl rfl Try.ntmps55 (congrArg Array.toList Try.results55) (by simp) fun hc => ?_
  have hc : content m p 0 = some [I x] := by simp [content, hm]
  simp (disch := omega) [hc, hm]
  exact keep hk

theorem times_c (n : Nat) (fd fe : Nat → Int) (F : Nat) (h0 : 1 ≤ n) (h1 : n ≤ 8) (hfd : ∀ i, 0 ≤ fd i ∧ fd i < 2 * n) (hfe : ∀ i, 0 ≤ fe i ∧ fe i < 2 * n)
    (s1 s2 : PS) (b1 b2 : Nat → Bool) (hp1 : pr1 n fd fe pmt pen F (fun _ => 0, 0) n = some (s1, b1)) (hp2 : pr2 n fd fe pmt plp F s1 b1 n = some (s2, b2))
    (m : List AO) (K : AV → List AO → Prop) (hk : K (.tup [.agg (dg n s2.1), I s2.2]) m) : ACalls Try.prog 35 [.agg (dg n fd), .agg (dg n fe)] m K := by
  refine ACalls.enter Try.func35 rfl rfl Try.ntmps35 (congrArg Array.toList Try.results35) (by simp) fun hc => ?_
  have hcl : Closed m := ‹_›
  simp (disch := omega)
  refine goCall_n rfl (product_c (σ := PS) n m.length (m.length + 1) fd fe _ _ _ [] [.ptr (m.length + 3) 0 0] [.ptr (m.length + 4) 0 0] pmt pen plp (tmL m n fd fe) (m.length + 5) h0 h1 F hfd hfe ?_ ?_ ?_ ?_ ?_ ?_ ?_ (fun _ => 0, 0) s1 s2 b1 b2 hp1 hp2 _ ?_)
  · intro s; simp [tmL]
  · intro s; exact hcl.app (by simp [AO.sc, scs, AV.sc])
  · intro s; simp only [tmL]; simp (disch := omega)
  · intro s; simp only [tmL]; simp (disch := omega)
  · intro s T low pt K _ hK; exact times1_c low pt _ K hK
  · intro s T i r K hi _ _ hK
    refine times2_c i (m.length + 3) r n s.1 _ K (by simp only [tmL, List.append_assoc]; simp (disch := omega)) (by omega) ?_
    simp only [tmL, List.append_assoc, set_loc] at hK ⊢; exact hK
  · intro s T K hK
    refine times3_c (m.length + 4) s.2 _ K (by simp only [tmL, List.append_assoc]; simp (disch := omega)) ?_
    simp only [tmL, List.append_assoc, set_loc] at hK ⊢; exact hK
  simp only [tmL]
  simp (disch := omega)
  refine go_drawn2 [] false [(7, 4)] (by kernel_rfl) (by kernel_rfl) ?_
  simp (disch := omega)
  exact dropE (n := m.length) m _ rfl (Nat.le_refl _) hcl (by simp [AV.sc, scs]) hk

end Go.Proofs.Ytkpjaffbbppneaa

/- Along a line of two diagrams: the reference's side. -/
namespace Go.Proofs.Ytkpjaffbbppneaa
open Go Go.RowKit

set_option maxHeartbeats 2000000 in
theorem l01Follow_c (n p P0 : Nat) (fd fe : Nat → Int) (L : (Nat → Bool) → List AO) (h0 : 1 ≤ n) (h1 : n ≤ 8) (hfd : ∀ i, 0 ≤ fd i ∧ fd i < 2 * n) (hfe : ∀ i, 0 ≤ fe i ∧ fe i < 2 * n)
    (hP : ∀ b, (L b).length = P0) (hL : ∀ b, (L b)[p]? = some (.cells (bls b) 0 1)) (hset : ∀ b b', (L b).set p (.cells (bls b') 0 1) = L b') (hcl : ∀ b, Closed (L b))
    (k : Nat) (s : PS) (b : Nat → Bool) (low : Bool) (pt : Nat) (s' : PS) (b' : Nat → Bool) (r : Int) (hpt : pt < 2 * n) (hfol : fol n fd fe pmt (-1) k s b low pt = some (s', b', r))
    (K : AV → List AO → Prop) (hk : K (.tup [I r, B (decide (r < n))]) (L b')) : ACalls Try.prog 60 [.agg (dg n fd), .agg (dg n fe), I pt, B (!low), .ptr p 0 0] (L b) K := by
  refine ACalls.enter Try.func60 rfl rfl Try.ntmps60 (congrArg Array.toList Try.results60) (by simp) fun hc => ?_
  have hp : ∀ b, p < (L b).length := fun b => (List.getElem?_eq_some_iff.1 (hL b)).1
  have hd : ∀ b, content (L b ++ [.cells (dg n fd) 0 1, .cells (dg n fe) 0 1]) P0 0 = some (dg n fd) := fun b => by rw [← hP b]; simp (disch := omega)
  have he : ∀ b, content (L b ++ [.cells (dg n fd) 0 1, .cells (dg n fe) 0 1]) (P0 + 1) 0 = some (dg n fe) := fun b => by rw [← hP b]; simp (disch := omega)
  have hb : ∀ b T, content (L b ++ T) p 0 = some (bls b) := fun b T => by rw [cont_old _ (hp b)]; simp [content, hL]
  have hg : ∀ b T, (L b ++ T)[p]? = some (.cells (bls b) 0 1) := fun b T => by rw [get_old (hp b), hL]
  have hs : ∀ b T o, (L b ++ T).set p o = (L b).set p o ++ T := fun b T o => set_old (hp b)
  have hPb := hP b
  simp (disch := omega) [hPb, hd, he]
  refine go_loop (α := {x : Nat × PS × (Nat → Bool) × Bool × Nat // x.2.2.2.2 < 2 * n ∧ fol n fd fe pmt (-1) x.1 x.2.1 x.2.2.1 x.2.2.2.1 x.2.2.2.2 = some (s', b', r)})
    (fun x => mkE [(5, .ptr P0 0 0), (6, .ptr (P0 + 1) 0 0), (2, I x.1.2.2.2.2), (3, B (!x.1.2.2.2.1)), (4, .ptr p 0 0), (12, I n)]) (fun x => L x.1.2.2.1 ++ [.cells (dg n fd) 0 1, .cells (dg n fe) 0 1]) (fun x => x.1.1) ⟨(k, s, b, low, pt), hpt, hfol⟩ (Wk.same rfl (by simp (disch := omega))) (fun ⟨(k, s, b, low, pt), hpt, hfol⟩ => ?_)
  simp only at hpt hfol
  have hpt16 : pt < 16 := by omega
  cases k with
  | zero => simp [fol] at hfol
  | succ k =>
    cases low with
    | false =>
      have hq := hfd pt
      by_cases hlt : fd pt < n
      · have hw : (false = decide ((n : Int) ≤ fd pt)) := by simp [hlt]
        simp only [fol, Bool.false_eq_true, if_false] at hfol
        rw [if_pos hw] at hfol
        simp only [Option.some.injEq, Prod.mk.injEq] at hfol
        obtain ⟨rfl, rfl, rfl⟩ := hfol
        simp (disch := omega) [hd, he, hlt]
        exact dropE (n := P0) (L b) _ rfl (by rw [hP]; exact Nat.le_refl _) (hcl b) (by simp [AV.sc, scs]) (by simpa [hlt] using hk)
      · obtain ⟨x, hx⟩ : ∃ x : Nat, fd pt = ((n + x : Nat) : Int) := ⟨(fd pt).toNat - n, by omega⟩
        have hxn : x < n := by omega
        have hm : (fd pt).toNat % n = x := by rw [hx, Int.toNat_natCast, Nat.add_mod_left, Nat.mod_eq_of_lt hxn]
        have hw : ¬ (false = decide ((n : Int) ≤ fd pt)) := by simp; omega
        have ht : ¬ ((x : Nat) : Int) = -1 := by omega
        simp only [fol, Bool.false_eq_true, if_false] at hfol
        rw [if_neg hw, hm, if_neg ht] at hfol
        have e1 : (n : Int) + x - n = x := by omega
        have hlt2 : ¬ (n : Int) + x < n := by omega
        simp (disch := omega) [hd, he, hx, hlt2, e1, hb, hg, hs, bls_set, hset]
        exact ⟨⟨(k, s, bset b x, true, x), by simp; omega, hfol⟩, Wk.same rfl (by simp (disch := omega)), by simp⟩
    | true =>
      have hq := hfe pt
      by_cases hlt : (n : Int) ≤ fe pt
      · have hw : (true = decide ((n : Int) ≤ fe pt)) := by simp [hlt]
        simp only [fol, if_true] at hfol
        rw [if_pos hw] at hfol
        simp only [Option.some.injEq, Prod.mk.injEq] at hfol
        obtain ⟨rfl, rfl, rfl⟩ := hfol
        have hlt2 : ¬ fe pt < n := by omega
        simp (disch := omega) [hd, he, hlt]
        exact dropE (n := P0) (L b) _ rfl (by rw [hP]; exact Nat.le_refl _) (hcl b) (by simp [AV.sc, scs]) (by simpa [hlt2] using hk)
      · obtain ⟨x, hx⟩ : ∃ x : Nat, fe pt = (x : Int) := ⟨(fe pt).toNat, by omega⟩
        have hxn : x < n := by omega
        have hm : (fe pt).toNat % n = x := by rw [hx, Int.toNat_natCast, Nat.mod_eq_of_lt hxn]
        have hw : ¬ (true = decide ((n : Int) ≤ fe pt)) := by simp; omega
        have ht : ¬ ((x : Nat) : Int) = -1 := by omega
        simp only [fol, if_true] at hfol
        rw [if_neg hw, hm, if_neg ht] at hfol
        have hlt2 : ¬ (n : Int) ≤ x := by omega
        simp (disch := omega) [hd, he, hx, hlt2, hb, hg, hs, bls_set, hset]
        exact ⟨⟨(k, s, bset b x, false, n + x), by simp; omega, hfol⟩, Wk.same rfl (by simp (disch := omega)), by simp⟩

end Go.Proofs.Ytkpjaffbbppneaa

/- The product of two diagrams: the reference's side. -/
namespace Go.Proofs.Ytkpjaffbbppneaa
open Go Go.RowKit

/-- A loop, marked as the reference marks it. -/
def rlp (n : Nat) (fd fe : Nat → Int) : Nat → (Nat → Bool) → Nat → Option (Nat → Bool)
  | 0, _, _ => none
  | F + 1, b, k =>
    if b k = true then some b
    else if fd (n + k) < n then none
    else if (n : Int) ≤ fe ((fd (n + k)).toNat - n) then none
    else rlp n fd fe F (bset (bset b k) ((fd (n + k)).toNat - n)) (fe ((fd (n + k)).toNat - n)).toNat
/-- The loops so far. -/
def rl2 (n : Nat) (fd fe : Nat → Int) (F : Nat) (b0 : Nat → Bool) : Nat → Option ((Nat → Bool) × Nat)
  | 0 => some (b0, 0)
  | i + 1 => match rl2 n fd fe F b0 i with
    | none => none
    | some (b, c) => if b i = true then some (b, c) else match rlp n fd fe F b i with
      | none => none
      | some b1 => some (b1, c + 1)
theorem rl2_some {n : Nat} {fd fe : Nat → Int} {F : Nat} {b0 : Nat → Bool} {k : Nat} : ∀ {N : Nat}, k ≤ N → (rl2 n fd fe F b0 N).isSome = true → (rl2 n fd fe F b0 k).isSome = true := by
  intro N
  induction N with
  | zero => intro h1 h2; have : k = 0 := by omega
            subst this; exact h2
  | succ N ih =>
    intro h1 h2
    by_cases e : k = N + 1
    · subst e; exact h2
    · refine ih (by omega) ?_
      cases h : rl2 n fd fe F b0 N with
      | none => simp [rl2, h] at h2
      | some x => rfl
theorem rl2_le {n : Nat} {fd fe : Nat → Int} {F : Nat} {b0 : Nat → Bool} : ∀ (k : Nat) (b : Nat → Bool) (c : Nat), rl2 n fd fe F b0 k = some (b, c) → c ≤ k
  | 0, b, c, h => by simp [rl2] at h; omega
  | k + 1, b, c, h => by
    simp only [rl2] at h
    cases h1 : rl2 n fd fe F b0 k with
    | none => simp [h1] at h
    | some x =>
      obtain ⟨b1, c1⟩ := x
      have ih := rl2_le k b1 c1 h1
      rw [h1] at h
      simp only at h
      split at h
      · simp at h; omega
      · split at h
        · simp at h
        · simp at h; omega

def rtL (m : List AO) (n : Nat) (fd fe : Nat → Int) (b : Nat → Bool) (f : Nat → Int) : List AO := m ++ [.cells (dg n fd) 0 1, .cells (dg n fe) 0 1, .cells (dg 0 fun _ => 0) 0 1, .cells (bls b) 0 1, .cells (dg n f) 0 1]

theorem fol_pmt {n : Nat} {fd fe : Nat → Int} {til : Int} : ∀ (k : Nat) (s : PS) (b : Nat → Bool) (low : Bool) (pt : Nat) (s' : PS) (b' : Nat → Bool) (r : Int), fol n fd fe pmt til k s b low pt = some (s', b', r) → s' = s
  | 0, s, b, low, pt, s', b', r, h => by simp [fol] at h
  | k + 1, s, b, low, pt, s', b', r, h => by
    cases low
    all_goals
      simp only [fol, Bool.false_eq_true, if_false, if_true] at h
      split at h
      · simp only [Option.some.injEq, Prod.mk.injEq] at h
        exact h.1.symm
      · split at h
        · simp only [Option.some.injEq, Prod.mk.injEq] at h
          exact h.1.symm
        · exact fol_pmt k _ _ _ _ _ _ _ h

set_option maxHeartbeats 4000000 in
theorem l01Times_c (n : Nat) (fd fe : Nat → Int) (F : Nat) (h0 : 1 ≤ n) (h1 : n ≤ 8) (hfd : ∀ i, 0 ≤ fd i ∧ fd i < 2 * n) (hfe : ∀ i, 0 ≤ fe i ∧ fe i < 2 * n)
    (s1 : PS) (b1 b2 : Nat → Bool) (c : Nat) (hp1 : pr1 n fd fe pmt pen F (fun _ => 0, 0) n = some (s1, b1)) (hp2 : rl2 n fd fe F b1 n = some (b2, c))
    (m : List AO) (K : AV → List AO → Prop) (hk : K (.tup [.agg (dg n s1.1), I c]) m) : ACalls Try.prog 44 [.agg (dg n fd), .agg (dg n fe)] m K := by
  refine ACalls.enter Try.func44 rfl rfl Try.ntmps44 (congrArg Array.toList Try.results44) (by simp) fun hc => ?_
  have hcl : Closed m := ‹_›
  have hz : List.replicate 8 (AV.s (Value.bool false)) = bls (fun _ => false) := rfl
  have hz2 : [AV.s (Value.bool false), AV.s (Value.bool false), AV.s (Value.bool false), AV.s (Value.bool false), AV.s (Value.bool false), AV.s (Value.bool false), AV.s (Value.bool false), AV.s (Value.bool false)] = bls (fun _ => false) := rfl
  have hall : ∀ b, (bls b).all AV.one = true := fun b => by simp [bls, AV.one, Value.oneCell']
  simp (disch := omega) [hz, hz2, hall, splice_full]
  refine go_drawn3 [(2, 7), (17, 7), (20, 7), (2, 8), (17, 8), (20, 8)] (by kernel_rfl) (by kernel_rfl) ?_
  simp (disch := omega) [hz, hz2, hall, splice_full]
  have hL : ∀ b f, (rtL m n fd fe b f).length = m.length + 5 := fun b f => by simp [rtL]
  have follow : ∀ (b : Nat → Bool) (f : Nat → Int) (low : Bool) (pt : Nat) (s s' : PS) (b' : Nat → Bool) (r : Int) (K : AV → List AO → Prop), pt < 2 * n → fol n fd fe pmt (-1) F s b low pt = some (s', b', r) → K (.tup [I r, B (decide (r < n))]) (rtL m n fd fe b' f) →
      ACalls Try.prog 60 [.agg (dg n fd), .agg (dg n fe), I pt, B (!low), .ptr (m.length + 3) 0 0] (rtL m n fd fe b f) K := by
    intro b f low pt s s' b' r K hpt hf hK
    refine l01Follow_c n (m.length + 3) (m.length + 5) fd fe (fun b => rtL m n fd fe b f) h0 h1 hfd hfe (fun b => hL b f) ?_ ?_ ?_ F s b low pt s' b' r hpt hf K hK
    · intro b; simp only [rtL]; simp (disch := omega)
    · intro b b'; simp only [rtL]; simp (disch := omega)
    · intro b; exact hcl.app (by simp [AO.sc, scs, AV.sc])
  have hst : rtL m n fd fe (fun _ => false) (fun _ => 0) = m ++ [.cells (dg n fd) 0 1, .cells (dg n fe) 0 1, .cells (dg 0 fun _ => 0) 0 1, .cells (bls fun _ => false) 0 1, .cells (dg n fun _ => 0) 0 1] := rfl
  refine go_loop (α := {x : Nat × PS × (Nat → Bool) // x.1 ≤ n ∧ pr1 n fd fe pmt pen F (fun _ => 0, 0) x.1 = some (x.2.1, x.2.2)})
    (fun x => mkE [(2, .ptr m.length 0 0), (3, .ptr (m.length + 1) 0 0), (4, .ptr (m.length + 2) 0 0), (6, I n), (7, .ptr (m.length + 3) 0 0), (8, .ptr (m.length + 4) 0 0), (9, I x.1.1)])
    (fun x => rtL m n fd fe x.1.2.2 x.1.2.1.1) (fun x => n - x.1.1) ⟨(0, (fun _ => 0, 0), fun _ => false), Nat.zero_le _, rfl⟩ (Wk.same rfl (by simp (disch := omega))) (fun ⟨(i, s, b), hi, hp⟩ => ?_)
  simp only at hi hp
  have cd : ∀ b f, content (rtL m n fd fe b f) m.length 0 = some (dg n fd) := fun b f => by simp only [rtL]; simp (disch := omega)
  have ce : ∀ b f, content (rtL m n fd fe b f) (m.length + 1) 0 = some (dg n fe) := fun b f => by simp only [rtL]; simp (disch := omega)
  have cb : ∀ b f, content (rtL m n fd fe b f) (m.length + 3) 0 = some (bls b) := fun b f => by simp only [rtL]; simp (disch := omega)
  have co : ∀ b f, content (rtL m n fd fe b f) (m.length + 4) 0 = some (dg n f) := fun b f => by simp only [rtL]; simp (disch := omega)
  have go : ∀ b f, (rtL m n fd fe b f)[m.length + 4]? = some (.cells (dg n f) 0 1) := fun b f => by simp only [rtL]; simp (disch := omega)
  have gb : ∀ b f, (rtL m n fd fe b f)[m.length + 3]? = some (.cells (bls b) 0 1) := fun b f => by simp only [rtL]; simp (disch := omega)
  have so : ∀ b f f', (rtL m n fd fe b f).set (m.length + 4) (.cells (dg n f') 0 1) = rtL m n fd fe b f' := fun b f f' => by simp only [rtL]; simp (disch := omega)
  have sb2 : ∀ b b' f, (rtL m n fd fe b f).set (m.length + 3) (.cells (bls b') 0 1) = rtL m n fd fe b' f := fun b b' f => by simp only [rtL]; simp (disch := omega)
  by_cases hc : i < n
  · have hs1 := pr1_some (n := n) (fd := fd) (fe := fe) (mt := pmt) (en := pen) (F := F) (s0 := (fun _ => 0, 0)) (k := i + 1) hc (by rw [hp1]; rfl)
    simp only [pr1, hp] at hs1
    cases hf1 : fol n fd fe pmt (-1) F s b false i with
    | none => rw [hf1] at hs1; simp at hs1
    | some x =>
      obtain ⟨s3, b3, r3⟩ := x
      rw [hf1] at hs1
      simp only at hs1
      cases hf2 : fol n fd fe pmt (-1) F (pen s3 i r3) b3 true (n + i) with
      | none => rw [hf2] at hs1; simp at hs1
      | some y =>
        obtain ⟨s4, b4, r4⟩ := y
        have hpr : pr1 n fd fe pmt pen F (fun _ => 0, 0) (i + 1) = some (pen s4 (n + i) r4, b4) := by simp only [pr1, hp, hf1, hf2]
        have st3 : s3 = s := fol_pmt _ _ _ _ _ _ _ _ hf1
        have st4 : s4 = pen s3 i r3 := fol_pmt _ _ _ _ _ _ _ _ hf2
        subst st3; subst st4
        simp (disch := omega) [hc, cd, ce]
        refine goCall_n rfl (follow b s3.1 false i s3 s3 b3 r3 _ (by omega) hf1 ?_)
        simp (disch := omega) [go, co, so, cd, ce]
        refine goCall_n rfl (follow b3 (fset s3.1 i (IntKind.u8.wrap r3)) true (n + i) (pen s3 i r3) (pen s3 i r3) b4 r4 _ (by omega) hf2 ?_)
        simp (disch := omega) [go, co, so, cd, ce]
        exact ⟨⟨(i + 1, pen (pen s3 i r3) (n + i) r4, b4), hc, hpr⟩, Wk.same rfl (by simp (disch := omega)), by simp; omega⟩
  · have e : i = n := by omega
    rw [e, hp1] at hp
    simp only [Option.some.injEq, Prod.mk.injEq] at hp
    obtain ⟨rfl, rfl⟩ := hp
    simp (disch := omega) [hc]
    refine go_loop (α := {x : Nat × (Nat → Bool) × Nat // x.1 ≤ n ∧ rl2 n fd fe F b1 x.1 = some (x.2.1, x.2.2)})
      (fun x => mkE [(2, .ptr m.length 0 0), (3, .ptr (m.length + 1) 0 0), (4, .ptr (m.length + 2) 0 0), (6, I n), (7, .ptr (m.length + 3) 0 0), (8, .ptr (m.length + 4) 0 0), (14, I x.1.2.2), (15, I x.1.1)])
      (fun x => rtL m n fd fe x.1.2.1 s1.1) (fun x => n - x.1.1) ⟨(0, b1, 0), Nat.zero_le _, rfl⟩ (Wk.same rfl (by simp (disch := omega))) (fun ⟨(j, b, cn), hj, hq⟩ => ?_)
    simp only at hj hq
    have hcn := rl2_le j b cn hq
    by_cases hcj : j < n
    · have hs2 := rl2_some (n := n) (fd := fd) (fe := fe) (F := F) (b0 := b1) (k := j + 1) hcj (by rw [hp2]; rfl)
      have hj8 : j < 8 := by omega
      simp only [rl2, hq] at hs2
      simp (disch := omega) [hcj, cb, bls_at]
      cases hb : b j with
      | true =>
        simp (disch := omega)
        exact ⟨⟨(j + 1, b, cn), hcj, by simp only [rl2, hq, hb, if_true]⟩, Wk.same rfl (by simp (disch := omega)), by simp; omega⟩
      | false =>
        rw [hb] at hs2
        simp only [Bool.false_eq_true, if_false] at hs2
        cases hf1 : rlp n fd fe F b j with
        | none => rw [hf1] at hs2; simp at hs2
        | some b3 =>
          simp (disch := omega)
          refine go_loop (α := {x : Nat × (Nat → Bool) × Nat // x.2.2 < n ∧ rlp n fd fe x.1 x.2.1 x.2.2 = some b3})
            (fun x => mkE [(2, .ptr m.length 0 0), (3, .ptr (m.length + 1) 0 0), (4, .ptr (m.length + 2) 0 0), (6, I n), (7, .ptr (m.length + 3) 0 0), (8, .ptr (m.length + 4) 0 0), (14, I (cn + 1 : Nat)), (15, I j), (16, I x.1.2.2)])
            (fun x => rtL m n fd fe x.1.2.1 s1.1) (fun x => x.1.1) ⟨(F, b, j), hcj, hf1⟩ (Wk.same rfl (by simp (disch := omega))) (fun ⟨(k, b, x), hx, hr⟩ => ?_)
          simp only at hx hr
          have hx8 : x < 8 := by omega
          cases k with
          | zero => simp [rlp] at hr
          | succ k =>
            cases hbx : b x with
            | true =>
              simp only [rlp, hbx, if_true, Option.some.injEq] at hr
              subst hr
              simp (disch := omega) [cb, bls_at, hbx]
              exact ⟨⟨(j + 1, b, cn + 1), hcj, by simp only [rl2, hq, hb, hf1, Bool.false_eq_true, if_false]⟩, Wk.same rfl (by simp (disch := omega)), by simp; omega⟩
            | false =>
              simp only [rlp, hbx, Bool.false_eq_true, if_false] at hr
              have q1 := hfd (n + x)
              split at hr
              · simp at hr
              · rename_i c1
                split at hr
                · simp at hr
                · rename_i c2
                  obtain ⟨y, hy⟩ : ∃ y : Nat, fd (n + x) = ((n + y : Nat) : Int) := ⟨(fd (n + x)).toNat - n, by omega⟩
                  have ey : (fd (n + x)).toNat - n = y := by omega
                  rw [ey] at hr c2
                  have q2 := hfe y
                  obtain ⟨z, hz3⟩ : ∃ z : Nat, fe y = (z : Int) := ⟨(fe y).toNat, by omega⟩
                  rw [hz3, Int.toNat_natCast] at hr
                  have e1 : (n : Int) + y - n = y := by omega
                  have enx : ((n : Int) + x).toNat = n + x := by omega
                  simp (disch := omega) [cb, gb, sb2, cd, ce, bls_at, bls_set, hbx, hy, enx, e1, hz3]
                  exact ⟨⟨(k, bset (bset b x) y, z), by simp; omega, hr⟩, Wk.same rfl (by simp (disch := omega)), by simp⟩
    · have e2 : j = n := by omega
      rw [e2, hp2] at hq
      simp only [Option.some.injEq, Prod.mk.injEq] at hq
      obtain ⟨rfl, rfl⟩ := hq
      simp (disch := omega) [hcj, co]
      simp only [rtL]
      simp (disch := omega)
      exact dropE (n := m.length) m _ rfl (Nat.le_refl _) hcl (by simp [AV.sc, scs]) hk

end Go.Proofs.Ytkpjaffbbppneaa

/- The product of two diagrams: the walks end, and both sides mark alike (plain). -/
namespace Go.Proofs.Ytkpjaffbbppneaa
open Go Go.RowKit

theorem php : ∀ (N : Nat) (f : Nat → Nat), (∀ i, i ≤ N → f i < N) → ∃ i j, i < j ∧ j ≤ N ∧ f i = f j
  | 0, f, h => absurd (h 0 (Nat.le_refl _)) (by omega)
  | N + 1, f, h => by
    by_cases hx : ∃ i, i ≤ N ∧ f i = f (N + 1)
    · obtain ⟨i, hi, e⟩ := hx
      exact ⟨i, N + 1, by omega, Nat.le_refl _, e⟩
    · have hne : ∀ i, i ≤ N → f i ≠ f (N + 1) := fun i hi e => hx ⟨i, hi, e⟩
      obtain ⟨i, j, hij, hj, e⟩ := php N (fun i => if f i = N then f (N + 1) else f i) (fun i hi => by
        have h1 := h i (by omega)
        have h2 := h (N + 1) (by omega)
        have h3 := hne i hi
        split <;> omega)
      refine ⟨i, j, hij, by omega, ?_⟩
      have h3 := hne i (by omega)
      have h4 := hne j (by omega)
      split at e <;> split at e <;> omega

/-- Steps of a map that is not everywhere defined. -/
def itr (T : Nat → Option Nat) : Nat → Nat → Option Nat
  | 0, c => some c
  | k + 1, c => (itr T k c).bind T
theorem itr_some {T : Nat → Option Nat} {c : Nat} : ∀ {k : Nat}, (itr T k c).isSome = true → ∀ j, j ≤ k → (itr T j c).isSome = true
  | 0, h, j, hj => by have : j = 0 := by omega
                      subst this; exact h
  | k + 1, h, j, hj => by
    by_cases e : j = k + 1
    · subst e; exact h
    · refine itr_some (k := k) ?_ j (by omega)
      cases hk : itr T k c with
      | none => simp [itr, hk] at h
      | some x => rfl
/-- An injective map that is not everywhere defined on N things: it ends, or comes back. -/
theorem orbit {T : Nat → Option Nat} {N : Nat} (hT : ∀ c x, c < N → T c = some x → x < N) (hinj : ∀ c c' x, c < N → c' < N → T c = some x → T c' = some x → c = c') {c : Nat} (hc : c < N) :
    itr T N c = none ∨ ∃ k, 0 < k ∧ k ≤ N ∧ itr T k c = some c := by
  cases hN : itr T N c with
  | none => exact .inl rfl
  | some y =>
    right
    have hs : ∀ j, j ≤ N → (itr T j c).isSome = true := itr_some (by rw [hN]; rfl)
    have hlt : ∀ j x, itr T j c = some x → x < N := by
      intro j
      induction j with
      | zero => intro x hx; simp [itr] at hx; omega
      | succ j ih =>
        intro x hx
        cases hj : itr T j c with
        | none => simp [itr, hj] at hx
        | some z => simp only [itr, hj, Option.bind_some] at hx; exact hT z x (ih z hj) hx
    obtain ⟨i, j, hij, hj, e⟩ := php N (fun i => (itr T i c).getD 0) (fun i hi => by
      obtain ⟨x, hx⟩ := Option.isSome_iff_exists.1 (hs i hi)
      simp only [hx, Option.getD_some]; exact hlt i x hx)
    obtain ⟨x, hx⟩ := Option.isSome_iff_exists.1 (hs i (by omega))
    obtain ⟨x', hx'⟩ := Option.isSome_iff_exists.1 (hs j hj)
    simp only [hx, hx', Option.getD_some] at e
    subst e
    have back : ∀ i j, i ≤ j → ∀ x, itr T i c = some x → itr T j c = some x → itr T (j - i) c = some c := by
      intro i
      induction i with
      | zero => intro j _ x h1 h2; simp [itr] at h1; subst h1; simpa using h2
      | succ i ih =>
        intro j hij x h1 h2
        obtain ⟨j', rfl⟩ : ∃ j', j = j' + 1 := ⟨j - 1, by omega⟩
        cases h3 : itr T i c with
        | none => simp [itr, h3] at h1
        | some u =>
          cases h4 : itr T j' c with
          | none => simp [itr, h4] at h2
          | some v =>
            simp only [itr, h3, h4, Option.bind_some] at h1 h2
            have e := hinj u v x (hlt i u h3) (hlt j' v h4) h1 h2
            subst e
            have := ih j' (by omega) u h3 h4
            rwa [show j' + 1 - (i + 1) = j' - i by omega]
    exact ⟨j - i, by omega, by omega, back i j (by omega) x hx hx'⟩

/-- Lines of a diagram of n points on each side: pairs of points whose places are of two parities. -/
structure Ln (n : Nat) (f : Nat → Int) : Prop where
  bd : ∀ i, 0 ≤ f i ∧ f i < 2 * n
  inv : ∀ i : Nat, i < 2 * n → f (f i).toNat = i
  par : ∀ i : Nat, i < 2 * n → (plc n i + plc n (f i)) % 2 = 1

section
variable {n : Nat} {fd fe : Nat → Int}

theorem Ln.lt (h : Ln n fd) (i : Nat) : (fd i).toNat < 2 * n := by have := h.bd i; omega
theorem Ln.back (h : Ln n fd) {i : Nat} (hi : i < 2 * n) : (fd (fd i).toNat).toNat = i := by rw [h.inv i hi]; simp
theorem Ln.par_low (h : Ln n fd) {x : Nat} (hx : x < n) (hy : n ≤ (fd (n + x)).toNat) : (x + ((fd (n + x)).toNat - n)) % 2 = 1 := by
  have h1 := h.par (n + x) (by omega)
  have h2 := h.bd (n + x)
  unfold plc at h1
  rw [if_neg (by omega), if_neg (by omega)] at h1
  omega
theorem Ln.par_up (h : Ln n fe) {x : Nat} (hx : x < n) (hy : (fe x).toNat < n) : (x + (fe x).toNat) % 2 = 1 := by
  have h1 := h.par x (by omega)
  have h2 := h.bd x
  unfold plc at h1
  rw [if_pos (by omega), if_pos (by omega)] at h1
  omega

/-- From one middle point to the next: below n: about to go along e; else along d. -/
def T2 (n : Nat) (fd fe : Nat → Int) (c : Nat) : Option Nat :=
  if c < n then (if (fe c).toNat < n then some (n + (fe c).toNat) else none)
  else (if n ≤ (fd c).toNat then some ((fd c).toNat - n) else none)

theorem T2_lt (hd : Ln n fd) (he : Ln n fe) (c x : Nat) (_ : c < 2 * n) (h : T2 n fd fe c = some x) : x < 2 * n := by
  have h1 := hd.lt c
  unfold T2 at h
  split at h <;> split at h <;> simp at h <;> omega
theorem T2_inj (hd : Ln n fd) (he : Ln n fe) (c c' x : Nat) (hc : c < 2 * n) (hc' : c' < 2 * n) (h : T2 n fd fe c = some x) (h' : T2 n fd fe c' = some x) : c = c' := by
  have d1 := hd.lt c
  have d2 := hd.lt c'
  unfold T2 at h h'
  split at h <;> split at h <;> simp at h <;> split at h' <;> split at h' <;> simp at h'
  · have e : (fe c).toNat = (fe c').toNat := by omega
    rw [← he.back hc, ← he.back hc', e]
  · omega
  · omega
  · have e : (fd c).toNat = (fd c').toNat := by omega
    rw [← hd.back hc, ← hd.back hc', e]

/-- The next stop of a walk: none where the line ends outside. -/
def nxt (n : Nat) (fd fe : Nat → Int) (low : Bool) (pt : Nat) : Option Nat :=
  if low = true then (if (fe pt).toNat < n then some (n + (fe pt).toNat) else none)
  else (if n ≤ (fd pt).toNat then some ((fd pt).toNat - n) else none)
def midOf (n c : Nat) : Nat := if c < n then c else c - n
def lowOf (n c : Nat) : Bool := decide (c < n)

theorem nxt_code {c : Nat} : nxt n fd fe (lowOf n c) c = T2 n fd fe c := by
  unfold nxt lowOf T2
  by_cases h : c < n <;> simp [h]

variable {σ : Type} {mt : σ → Bool → Nat → σ} {til : Int}

/-- One step of a walk. -/
theorem fol_step (hd : Ln n fd) (he : Ln n fe) (h0 : 1 ≤ n) (k : Nat) (s : σ) (b : Nat → Bool) (low : Bool) (pt : Nat) :
    fol n fd fe mt til (k + 1) s b low pt = match nxt n fd fe low pt with
      | none => some (mt s low pt, b, if low then fe pt else fd pt)
      | some c => if ((midOf n c : Nat) : Int) = til then some (mt s low pt, bset b (midOf n c), -1) else fol n fd fe mt til k (mt s low pt) (bset b (midOf n c)) (lowOf n c) c := by
  cases low with
  | false =>
    have h1 := hd.bd pt
    simp only [fol, nxt, Bool.false_eq_true, if_false]
    by_cases hn : n ≤ (fd pt).toNat
    · obtain ⟨x, hx⟩ : ∃ x : Nat, (fd pt).toNat = n + x := ⟨(fd pt).toNat - n, by omega⟩
      have hxn : x < n := by omega
      have e1 : (fd pt).toNat % n = x := by rw [hx, Nat.add_mod_left, Nat.mod_eq_of_lt hxn]
      have e2 : (fd pt).toNat - n = x := by omega
      have hw : ¬ (false = decide ((n : Int) ≤ fd pt)) := by simp; omega
      rw [if_neg hw, if_pos hn, e1, e2]
      simp only [midOf, lowOf, hxn, if_true, decide_true, Bool.not_false]
    · have hw : (false = decide ((n : Int) ≤ fd pt)) := by simp; omega
      rw [if_pos hw, if_neg hn]
  | true =>
    have h1 := he.bd pt
    simp only [fol, nxt, if_true]
    by_cases hn : (fe pt).toNat < n
    · have e1 : (fe pt).toNat % n = (fe pt).toNat := Nat.mod_eq_of_lt hn
      have hw : ¬ (true = decide ((n : Int) ≤ fe pt)) := by simp; omega
      have e3 : ¬ n + (fe pt).toNat < n := by omega
      rw [if_neg hw, if_pos hn, e1]
      simp only [midOf, lowOf, e3, if_false, decide_false, Bool.not_true, Nat.add_sub_cancel_left]
    · have hw : (true = decide ((n : Int) ≤ fe pt)) := by simp; omega
      rw [if_pos hw, if_neg hn]

/-- A walk that does not end goes on and on. -/
theorem fol_none (hd : Ln n fd) (he : Ln n fe) (h0 : 1 ≤ n) : ∀ (F : Nat) (s : σ) (b : Nat → Bool) (c : Nat), fol n fd fe mt til F s b (lowOf n c) c = none → ∀ k, k ≤ F → ∃ x, itr (T2 n fd fe) k c = some x ∧ (0 < k → ((midOf n x : Nat) : Int) ≠ til) := by
  have shift : ∀ k c c', T2 n fd fe c = some c' → itr (T2 n fd fe) (k + 1) c = itr (T2 n fd fe) k c' := by
    intro k
    induction k with
    | zero => intro c c' h; simp [itr, h]
    | succ k ih => intro c c' h; rw [itr, ih c c' h]; rfl
  intro F
  induction F with
  | zero =>
    intro s b c _ k hk
    have : k = 0 := by omega
    subst this; exact ⟨c, rfl, by omega⟩
  | succ F ih =>
    intro s b c h k hk
    rw [fol_step hd he h0, nxt_code] at h
    cases k with
    | zero => exact ⟨c, rfl, by omega⟩
    | succ k =>
      cases hT : T2 n fd fe c with
      | none => rw [hT] at h; simp at h
      | some c' =>
        rw [hT] at h
        simp only at h
        split at h
        · simp at h
        · rename_i hm
          obtain ⟨x, h1, h2⟩ := ih _ _ _ h k (by omega)
          rw [shift k c c' hT]
          refine ⟨x, h1, fun _ => ?_⟩
          by_cases hk0 : 0 < k
          · exact h2 hk0
          · have : k = 0 := by omega
            subst this
            simp [itr] at h1; subst h1; exact hm

/-- A walk from outside ends. -/
theorem fol_outer (hd : Ln n fd) (he : Ln n fe) (h0 : 1 ≤ n) (F : Nat) (hF : 2 * n + 1 ≤ F) (s : σ) (b : Nat → Bool) (low : Bool) (pt : Nat) (hpt : if low = true then n ≤ pt ∧ pt < 2 * n else pt < n) : (fol n fd fe mt til F s b low pt).isSome = true := by
  obtain ⟨F', rfl⟩ : ∃ F', F = F' + 1 := ⟨F - 1, by omega⟩
  rw [fol_step hd he h0]
  cases hx : nxt n fd fe low pt with
  | none => rfl
  | some c =>
    simp only
    split
    · rfl
    · cases hf : fol n fd fe mt til F' (mt s low pt) (bset b (midOf n c)) (lowOf n c) c with
      | some _ => rfl
      | none =>
        exfalso
        have all := fol_none hd he h0 F' _ _ _ hf
        have hc : c < 2 * n := by
          have h1 := hd.lt pt
          unfold nxt at hx
          split at hx <;> split at hx <;> simp at hx <;> omega
        rcases orbit (T2_lt hd he) (T2_inj hd he) hc with h1 | ⟨k, hk0, hkn, h1⟩
        · obtain ⟨x, h2, _⟩ := all (2 * n) (by omega)
          rw [h1] at h2; simp at h2
        · obtain ⟨k', rfl⟩ : ∃ k', k = k' + 1 := ⟨k - 1, by omega⟩
          have hs : ∀ j x, itr (T2 n fd fe) j c = some x → x < 2 * n := by
            intro j
            induction j with
            | zero => intro x hx; simp [itr] at hx; omega
            | succ j ih =>
              intro x hx
              cases hj : itr (T2 n fd fe) j c with
              | none => simp [itr, hj] at hx
              | some z => simp only [itr, hj, Option.bind_some] at hx; exact T2_lt hd he z x (ih z hj) hx
          cases hj : itr (T2 n fd fe) k' c with
          | none => simp [itr, hj] at h1
          | some u =>
            have hu := hs k' u hj
            simp only [itr, hj, Option.bind_some] at h1
            have d1 := hd.lt pt
            have d2 := hd.lt u
            cases low with
            | false =>
              simp only [Bool.false_eq_true, if_false] at hpt
              simp only [nxt, Bool.false_eq_true, if_false] at hx
              split at hx <;> simp at hx
              unfold T2 at h1
              split at h1 <;> split at h1 <;> simp at h1
              · omega
              · have e : (fd u).toNat = (fd pt).toNat := by omega
                have := hd.back hu
                rw [e, hd.back (show pt < 2 * n by omega)] at this
                omega
            | true =>
              simp only [if_true] at hpt
              simp only [nxt, if_true] at hx
              split at hx <;> simp at hx
              unfold T2 at h1
              split at h1 <;> split at h1 <;> simp at h1
              · have e : (fe u).toNat = (fe pt).toNat := by omega
                have := he.back hu
                rw [e, he.back hpt.2] at this
                omega
              · omega

end
end Go.Proofs.Ytkpjaffbbppneaa

/- The product of two diagrams: what is marked (plain). -/
namespace Go.Proofs.Ytkpjaffbbppneaa
open Go Go.RowKit

theorem midOf_add (n x : Nat) : midOf n (n + x) = x := by unfold midOf; rw [if_neg (by omega)]; omega
section
variable {n : Nat} {fd fe : Nat → Int}

/-- The middle points beside a marked one are marked. -/
def gd (n : Nat) (fd fe : Nat → Int) (b : Nat → Bool) (x : Nat) : Prop :=
  ((fe x).toNat < n → b (fe x).toNat = true) ∧ (n ≤ (fd (n + x)).toNat → b ((fd (n + x)).toNat - n) = true)
theorem gd.mono {b b' : Nat → Bool} {x : Nat} (h : gd n fd fe b x) (hb : ∀ x, b x = true → b' x = true) : gd n fd fe b' x := ⟨fun e => hb _ (h.1 e), fun e => hb _ (h.2 e)⟩

theorem bset_t (b : Nat → Bool) (i x : Nat) : bset b i x = true ↔ (x = i ∨ b x = true) := by
  unfold bset; split
  · rename_i e; simp [e]
  · rename_i e; simp [e]

variable {σ : Type} {mt : σ → Bool → Nat → σ}

/-- A walk that began outside, from a middle point on. -/
theorem fol_walk (hd : Ln n fd) (he : Ln n fe) (h0 : 1 ≤ n) : ∀ (F : Nat) (s : σ) (b : Nat → Bool) (c : Nat) (s' : σ) (b' : Nat → Bool) (r : Int), c < 2 * n → b (midOf n c) = true → fol n fd fe mt (-1) F s b (lowOf n c) c = some (s', b', r) →
    (∀ x, b x = true → b' x = true) ∧ (∀ y, T2 n fd fe c = some y → b' (midOf n y) = true) ∧ ∀ x, b' x = true → b x = true ∨ (x < n ∧ gd n fd fe b' x)
  | 0, s, b, c, s', b', r, _, _, h => by simp [fol] at h
  | F + 1, s, b, c, s', b', r, hc, hb, h => by
    rw [fol_step hd he h0, nxt_code] at h
    cases hT : T2 n fd fe c with
    | none =>
      rw [hT] at h
      simp only [Option.some.injEq, Prod.mk.injEq] at h
      obtain ⟨_, rfl, _⟩ := h
      exact ⟨fun x hx => hx, fun y hy => by simp at hy, fun x hx => .inl hx⟩
    | some c' =>
      rw [hT] at h
      simp only at h
      rw [if_neg (by omega)] at h
      have hc' := T2_lt hd he c c' hc hT
      obtain ⟨i1, i2, i3⟩ := fol_walk hd he h0 F _ _ c' s' b' r hc' (by rw [bset_t]; exact .inl rfl) h
      have mono : ∀ x, b x = true → b' x = true := fun x hx => i1 x (by rw [bset_t]; exact .inr hx)
      refine ⟨mono, fun y hy => ?_, fun x hx => ?_⟩
      · simp only [Option.some.injEq] at hy; subst hy
        exact i1 _ (by rw [bset_t]; exact .inl rfl)
      · rcases i3 x hx with h1 | h1
        · rw [bset_t] at h1
          rcases h1 with rfl | h1
          · right
            have d1 := hd.lt c
            unfold T2 at hT
            by_cases hcn : c < n
            · rw [if_pos hcn] at hT
              split at hT <;> simp at hT
              subst hT
              rename_i hlt
              have em : midOf n (n + (fe c).toNat) = (fe c).toNat := midOf_add _ _
              rw [em] at *
              have hbc : midOf n c = c := by simp [midOf, hcn]
              rw [hbc] at hb
              refine ⟨hlt, fun _ => ?_, fun hle => ?_⟩
              · rw [he.back (show c < 2 * n by omega)]; exact mono _ hb
              · have := i2 ((fd (n + (fe c).toNat)).toNat - n) (by simp only [T2]; rw [if_neg (by omega), if_pos hle])
                have hd2 := hd.lt (n + (fe c).toNat)
                rwa [show midOf n ((fd (n + (fe c).toNat)).toNat - n) = (fd (n + (fe c).toNat)).toNat - n by simp only [midOf]; rw [if_pos (by omega)]] at this
            · rw [if_neg hcn] at hT
              split at hT <;> simp at hT
              subst hT
              rename_i hle
              have hlt : (fd c).toNat - n < n := by omega
              have em : midOf n ((fd c).toNat - n) = (fd c).toNat - n := by simp [midOf, hlt]
              rw [em] at *
              have hbc : midOf n c = c - n := by simp [midOf, hcn]
              rw [hbc] at hb
              have e1 : n + ((fd c).toNat - n) = (fd c).toNat := by omega
              refine ⟨hlt, fun hlt2 => ?_, fun _ => ?_⟩
              · have := i2 (n + (fe ((fd c).toNat - n)).toNat) (by simp only [T2]; rw [if_pos hlt, if_pos hlt2])
                rwa [midOf_add] at this
              · rw [e1, hd.back hc]; exact mono _ hb
          · exact .inl h1
        · exact .inr h1

/-- A walk from outside, whole. -/
theorem fol_out (hd : Ln n fd) (he : Ln n fe) (h0 : 1 ≤ n) (F : Nat) (s : σ) (b : Nat → Bool) (low : Bool) (pt : Nat) (s' : σ) (b' : Nat → Bool) (r : Int) (hpt : if low = true then n ≤ pt ∧ pt < 2 * n else pt < n) (h : fol n fd fe mt (-1) F s b low pt = some (s', b', r)) :
    (∀ x, b x = true → b' x = true) ∧ (∀ y, nxt n fd fe low pt = some y → b' (midOf n y) = true) ∧ ∀ x, b' x = true → b x = true ∨ (x < n ∧ gd n fd fe b' x) := by
  cases F with
  | zero => simp [fol] at h
  | succ F =>
    rw [fol_step hd he h0] at h
    cases hT : nxt n fd fe low pt with
    | none =>
      rw [hT] at h
      simp only [Option.some.injEq, Prod.mk.injEq] at h
      obtain ⟨_, rfl, _⟩ := h
      exact ⟨fun x hx => hx, fun y hy => by simp at hy, fun x hx => .inl hx⟩
    | some c' =>
      rw [hT] at h
      simp only at h
      rw [if_neg (by omega)] at h
      have d1 := hd.lt pt
      have hc' : c' < 2 * n := by
        unfold nxt at hT
        split at hT <;> split at hT <;> simp at hT <;> omega
      obtain ⟨i1, i2, i3⟩ := fol_walk hd he h0 F _ _ c' s' b' r hc' (by rw [bset_t]; exact .inl rfl) h
      have mono : ∀ x, b x = true → b' x = true := fun x hx => i1 x (by rw [bset_t]; exact .inr hx)
      refine ⟨mono, fun y hy => ?_, fun x hx => ?_⟩
      · simp only [Option.some.injEq] at hy; subst hy
        exact i1 _ (by rw [bset_t]; exact .inl rfl)
      · rcases i3 x hx with h1 | h1
        · rw [bset_t] at h1
          rcases h1 with rfl | h1
          · right
            unfold nxt at hT
            cases low with
            | true =>
              simp only [if_true] at hT hpt
              split at hT <;> simp at hT
              subst hT
              rename_i hlt
              have em : midOf n (n + (fe pt).toNat) = (fe pt).toNat := midOf_add _ _
              rw [em] at *
              refine ⟨hlt, fun hlt2 => ?_, fun hle => ?_⟩
              · rw [he.back hpt.2] at hlt2; omega
              · have := i2 ((fd (n + (fe pt).toNat)).toNat - n) (by simp only [T2]; rw [if_neg (by omega), if_pos hle])
                have hd2 := hd.lt (n + (fe pt).toNat)
                rwa [show midOf n ((fd (n + (fe pt).toNat)).toNat - n) = (fd (n + (fe pt).toNat)).toNat - n by simp only [midOf]; rw [if_pos (by omega)]] at this
            | false =>
              simp only [Bool.false_eq_true, if_false] at hT hpt
              split at hT <;> simp at hT
              subst hT
              rename_i hle
              have hlt : (fd pt).toNat - n < n := by omega
              have em : midOf n ((fd pt).toNat - n) = (fd pt).toNat - n := by simp [midOf, hlt]
              rw [em] at *
              have e1 : n + ((fd pt).toNat - n) = (fd pt).toNat := by omega
              refine ⟨hlt, fun hlt2 => ?_, fun hle2 => ?_⟩
              · have := i2 (n + (fe ((fd pt).toNat - n)).toNat) (by simp only [T2]; rw [if_pos hlt, if_pos hlt2])
                rwa [midOf_add] at this
              · rw [e1, hd.back (show pt < 2 * n by omega)] at hle2; omega
          · exact .inl h1
        · exact .inr h1

variable {en : σ → Nat → Int → σ}

/-- All walks from outside: they end; what they mark. -/
theorem pr1_ends (hd : Ln n fd) (he : Ln n fe) (h0 : 1 ≤ n) (F : Nat) (hF : 2 * n + 1 ≤ F) (s0 : σ) : ∀ k, k ≤ n → ∃ s b, pr1 n fd fe mt en F s0 k = some (s, b) ∧ (∀ x, b x = true → x < n ∧ gd n fd fe b x) ∧
    (∀ i, i < k → (n ≤ (fd i).toNat → b ((fd i).toNat - n) = true) ∧ ((fe (n + i)).toNat < n → b (fe (n + i)).toNat = true))
  | 0, _ => ⟨s0, fun _ => false, rfl, by simp, by omega⟩
  | k + 1, hk => by
    obtain ⟨s, b, e1, e2, e3⟩ := pr1_ends hd he h0 F hF s0 k (by omega)
    obtain ⟨⟨s1, b1, r1⟩, f1⟩ := Option.isSome_iff_exists.1 (fol_outer (mt := mt) (til := -1) hd he h0 F hF s b false k (by simp; omega))
    obtain ⟨⟨s2, b2, r2⟩, f2⟩ := Option.isSome_iff_exists.1 (fol_outer (mt := mt) (til := -1) hd he h0 F hF (en s1 k r1) b1 true (n + k) (by simp; omega))
    obtain ⟨a1, a2, a3⟩ := fol_out hd he h0 F _ _ _ _ _ _ _ (by simp; omega) f1
    obtain ⟨c1, c2, c3⟩ := fol_out hd he h0 F _ _ _ _ _ _ _ (by simp; omega) f2
    have d1 := hd.lt k
    refine ⟨_, b2, by simp only [pr1, e1, f1, f2]; rfl, fun x hx => ?_, fun i hi => ?_⟩
    · rcases c3 x hx with h | h
      · rcases a3 x h with h | h
        · exact ⟨(e2 x h).1, (e2 x h).2.mono fun y hy => c1 y (a1 y hy)⟩
        · exact ⟨h.1, h.2.mono c1⟩
      · exact h
    · by_cases hik : i = k
      · subst hik
        refine ⟨fun hle => ?_, fun hlt => ?_⟩
        · have := a2 ((fd i).toNat - n) (by simp only [nxt, Bool.false_eq_true, if_false]; rw [if_pos hle])
          rw [show midOf n ((fd i).toNat - n) = (fd i).toNat - n by simp only [midOf]; rw [if_pos (by omega)]] at this
          exact c1 _ this
        · have := c2 (n + (fe (n + i)).toNat) (by simp only [nxt, if_true]; rw [if_pos hlt])
          rwa [midOf_add] at this
      · exact ⟨fun hle => c1 _ (a1 _ ((e3 i (by omega)).1 hle)), fun hlt => c1 _ (a1 _ ((e3 i (by omega)).2 hlt))⟩

/-- The unmarked middle points: lines lead from them to unmarked middle points alone. -/
def Cl2 (n : Nat) (fd fe : Nat → Int) (b : Nat → Bool) : Prop := ∀ m, m < n → b m = false →
  ((fe m).toNat < n ∧ b (fe m).toNat = false) ∧ (n ≤ (fd (n + m)).toNat ∧ (fd (n + m)).toNat - n < n ∧ b ((fd (n + m)).toNat - n) = false)

theorem cl2_of (hd : Ln n fd) (he : Ln n fe) {b : Nat → Bool} (h1 : ∀ x, b x = true → x < n ∧ gd n fd fe b x) (h2 : ∀ i, i < n → (n ≤ (fd i).toNat → b ((fd i).toNat - n) = true) ∧ ((fe (n + i)).toNat < n → b (fe (n + i)).toNat = true)) : Cl2 n fd fe b := by
  intro m hm hb
  have d1 := hd.lt (n + m)
  have d2 := he.lt m
  have d3 := hd.back (show n + m < 2 * n by omega)
  have d4 := he.back (show m < 2 * n by omega)
  have q1 : (fe m).toNat < n := by
    refine Nat.lt_of_not_le fun hle => ?_
    have := (h2 ((fe m).toNat - n) (by omega)).2
    rw [show n + ((fe m).toNat - n) = (fe m).toNat by omega, d4] at this
    rw [this hm] at hb; simp at hb
  have q2 : n ≤ (fd (n + m)).toNat := by
    refine Nat.le_of_not_lt fun hlt => ?_
    have := (h2 (fd (n + m)).toNat hlt).1
    rw [d3] at this
    rw [show n + m - n = m by omega] at this
    rw [this (by omega)] at hb; simp at hb
  refine ⟨⟨q1, ?_⟩, q2, by omega, ?_⟩
  · cases hx : b (fe m).toNat with
    | false => rfl
    | true =>
      have := (h1 _ hx).2.1
      rw [d4] at this
      rw [this hm] at hb; simp at hb
  · cases hx : b ((fd (n + m)).toNat - n) with
    | false => rfl
    | true =>
      have := (h1 _ hx).2.2
      rw [show n + ((fd (n + m)).toNat - n) = (fd (n + m)).toNat by omega, d3] at this
      rw [show n + m - n = m by omega] at this
      rw [this (by omega)] at hb; simp at hb

/-- Middle points on one loop. -/
inductive Cn (n : Nat) (fd fe : Nat → Int) (m : Nat) : Nat → Prop
  | refl : Cn n fd fe m m
  | e {x : Nat} : Cn n fd fe m x → Cn n fd fe m (fe x).toNat
  | d {x : Nat} : Cn n fd fe m x → Cn n fd fe m ((fd (n + x)).toNat - n)

theorem Cn.free {b : Nat → Bool} (hc : Cl2 n fd fe b) {m x : Nat} (hm : m < n) (hb : b m = false) (h : Cn n fd fe m x) : x < n ∧ b x = false := by
  induction h with
  | refl => exact ⟨hm, hb⟩
  | e _ ih => exact ⟨(hc _ ih.1 ih.2).1.1, (hc _ ih.1 ih.2).1.2⟩
  | d _ ih => exact ⟨(hc _ ih.1 ih.2).2.2.1, (hc _ ih.1 ih.2).2.2.2⟩

/-- Marks that hold a loop's first point and are closed hold the loop. -/
theorem Cn.all {b b' : Nat → Bool} (hc : Cl2 n fd fe b) {m x : Nat} (hm : m < n) (hb : b m = false) (h1 : b' m = true) (h2 : ∀ x, x < n → b' x = true → b x = false → gd n fd fe b' x) (h : Cn n fd fe m x) : b' x = true := by
  induction h with
  | refl => exact h1
  | e hx ih =>
    obtain ⟨k1, k2⟩ := hx.free hc hm hb
    exact (h2 _ k1 ih k2).1 (hc _ k1 k2).1.1
  | d hx ih =>
    obtain ⟨k1, k2⟩ := hx.free hc hm hb
    exact (h2 _ k1 ih k2).2 (hc _ k1 k2).2.1

/-- The loops less one: what is unmarked is closed still. -/
theorem cl2_next (hd : Ln n fd) (he : Ln n fe) {b b' : Nat → Bool} (hc : Cl2 n fd fe b) {m : Nat} (hb' : ∀ x, b' x = true ↔ b x = true ∨ Cn n fd fe m x) : Cl2 n fd fe b' := by
  intro x hx hbx
  have h1 : b x = false := by
    cases h : b x with
    | false => rfl
    | true => rw [(hb' x).2 (.inl h)] at hbx; simp at hbx
  have h2 : ¬ Cn n fd fe m x := fun h => by rw [(hb' x).2 (.inr h)] at hbx; simp at hbx
  obtain ⟨⟨k1, k2⟩, k3, k4, k5⟩ := hc x hx h1
  refine ⟨⟨k1, ?_⟩, k3, k4, ?_⟩
  · cases h : b' (fe x).toNat with
    | false => rfl
    | true =>
      exfalso
      rcases (hb' _).1 h with h | h
      · rw [k2] at h; simp at h
      · have := Cn.e h
        rw [he.back (show x < 2 * n by omega)] at this
        exact h2 this
  · cases h : b' ((fd (n + x)).toNat - n) with
    | false => rfl
    | true =>
      exfalso
      rcases (hb' _).1 h with h | h
      · rw [k5] at h; simp at h
      · have := Cn.d h
        rw [show n + ((fd (n + x)).toNat - n) = (fd (n + x)).toNat by omega, hd.back (show n + x < 2 * n by omega), show n + x - n = x by omega] at this
        exact h2 this

end
end Go.Proofs.Ytkpjaffbbppneaa

/- The product of two diagrams: loops, marked on both sides alike (plain). -/
namespace Go.Proofs.Ytkpjaffbbppneaa
open Go Go.RowKit

section
variable {n : Nat} {fd fe : Nat → Int} {σ : Type} {mt : σ → Bool → Nat → σ}

/-- The given side's walk along a loop. -/
theorem fol_loop (hd : Ln n fd) (he : Ln n fe) (h0 : 1 ≤ n) {b0 : Nat → Bool} (hc : Cl2 n fd fe b0) {m : Nat} (hm : m < n) (hbm : b0 m = false) : ∀ (F : Nat) (s : σ) (b : Nat → Bool) (c : Nat) (s' : σ) (b' : Nat → Bool) (r : Int), c < 2 * n →
    Cn n fd fe m (midOf n c) → (midOf n c + m) % 2 = (if c < n then 0 else 1) → (b (midOf n c) = true ∨ midOf n c = m) → fol n fd fe mt m F s b (lowOf n c) c = some (s', b', r) →
    (∀ x, b x = true → b' x = true) ∧ (∀ y, T2 n fd fe c = some y → b' (midOf n y) = true) ∧ (b' m = true) ∧ (b' ((fd (n + m)).toNat - n) = true) ∧ ∀ x, b' x = true → b x = true ∨ (Cn n fd fe m x ∧ (x ≠ m → gd n fd fe b' x))
  | 0, s, b, c, s', b', r, _, _, _, _, h => by simp [fol] at h
  | F + 1, s, b, c, s', b', r, hcl, hcn, hpar, hb, h => by
    rw [fol_step hd he h0, nxt_code] at h
    obtain ⟨f1, f2⟩ := hcn.free hc hm hbm
    obtain ⟨⟨g1, g2⟩, g3, g4, g5⟩ := hc _ f1 f2
    by_cases hcn2 : c < n
    · have em0 : midOf n c = c := by simp [midOf, hcn2]
      rw [em0] at hcn hpar hb f1 f2 g1 g2 g3 g4 g5
      rw [if_pos hcn2] at hpar
      have hT : T2 n fd fe c = some (n + (fe c).toNat) := by simp only [T2]; rw [if_pos hcn2, if_pos g1]
      have hpe := he.par_up hcn2 g1
      rw [hT] at h
      simp only [midOf_add] at h
      rw [if_neg (by omega)] at h
      obtain ⟨i1, i2, i3, i4, i5⟩ := fol_loop hd he h0 hc hm hbm F _ _ (n + (fe c).toNat) s' b' r (by omega) (by rw [midOf_add]; exact hcn.e) (by rw [midOf_add, if_neg (by omega)]; omega) (by rw [midOf_add, bset_t]; exact .inl (.inl rfl)) h
      have mono : ∀ x, b x = true → b' x = true := fun x hx => i1 x (by rw [bset_t]; exact .inr hx)
      refine ⟨mono, fun y hy => ?_, i3, i4, fun x hx => ?_⟩
      · rw [hT] at hy; simp only [Option.some.injEq] at hy; subst hy
        rw [midOf_add]; exact i1 _ (by rw [bset_t]; exact .inl rfl)
      · rcases i5 x hx with h1 | h1
        · rw [bset_t] at h1
          rcases h1 with rfl | h1
          · refine .inr ⟨hcn.e, fun hxm => ⟨fun _ => ?_, fun hle => ?_⟩⟩
            · rw [he.back (show c < 2 * n by omega)]
              rcases hb with hb | hb
              · exact mono _ hb
              · rw [hb]; exact i3
            · have := i2 ((fd (n + (fe c).toNat)).toNat - n) (by simp only [T2]; rw [if_neg (by omega), if_pos hle])
              have hd2 := hd.lt (n + (fe c).toNat)
              rwa [show midOf n ((fd (n + (fe c).toNat)).toNat - n) = (fd (n + (fe c).toNat)).toNat - n by simp only [midOf]; rw [if_pos (by omega)]] at this
          · exact .inl h1
        · exact .inr h1
    · obtain ⟨x0, rfl⟩ : ∃ x0, c = n + x0 := ⟨c - n, by omega⟩
      rw [midOf_add] at hcn hpar hb f1 f2 g1 g2 g3 g4 g5
      rw [if_neg hcn2] at hpar
      have hlt := g4
      have em : midOf n ((fd (n + x0)).toNat - n) = (fd (n + x0)).toNat - n := by simp only [midOf]; rw [if_pos hlt]
      have el : n + ((fd (n + x0)).toNat - n) = (fd (n + x0)).toNat := by omega
      have hT : T2 n fd fe (n + x0) = some ((fd (n + x0)).toNat - n) := by simp only [T2]; rw [if_neg hcn2, if_pos g3]
      have hpd := hd.par_low f1 g3
      rw [hT] at h
      simp only [em] at h
      by_cases hst : (((fd (n + x0)).toNat - n : Nat) : Int) = m
      · rw [if_pos hst] at h
        simp only [Option.some.injEq, Prod.mk.injEq] at h
        obtain ⟨_, rfl, _⟩ := h
        have hst2 : (fd (n + x0)).toNat - n = m := by omega
        have edm : (fd (n + m)).toNat - n = x0 := by rw [← hst2, el, hd.back (show n + x0 < 2 * n by omega)]; omega
        refine ⟨fun x hx => by rw [bset_t]; exact .inr hx, fun y hy => ?_, by rw [bset_t]; exact .inl hst2.symm, ?_, fun x hx => ?_⟩
        · rw [hT] at hy; simp only [Option.some.injEq] at hy; subst hy
          rw [em, bset_t]; exact .inl rfl
        · rw [edm, bset_t]
          rcases hb with hb | hb
          · exact .inr hb
          · exact .inl (by omega)
        · rw [bset_t] at hx
          rcases hx with rfl | hx
          · exact .inr ⟨hcn.d, fun hxm => absurd hst2 hxm⟩
          · exact .inl hx
      · rw [if_neg hst] at h
        obtain ⟨i1, i2, i3, i4, i5⟩ := fol_loop hd he h0 hc hm hbm F _ _ ((fd (n + x0)).toNat - n) s' b' r (by omega) (by rw [em]; exact hcn.d) (by rw [em, if_pos hlt]; omega) (by rw [em, bset_t]; exact .inl (.inl rfl)) h
        have mono : ∀ x, b x = true → b' x = true := fun x hx => i1 x (by rw [bset_t]; exact .inr hx)
        refine ⟨mono, fun y hy => ?_, i3, i4, fun x hx => ?_⟩
        · rw [hT] at hy; simp only [Option.some.injEq] at hy; subst hy
          rw [em]; exact i1 _ (by rw [bset_t]; exact .inl rfl)
        · rcases i5 x hx with h1 | h1
          · rw [bset_t] at h1
            rcases h1 with rfl | h1
            · refine .inr ⟨hcn.d, fun hxm => ⟨fun hlt2 => ?_, fun _ => ?_⟩⟩
              · have := i2 (n + (fe ((fd (n + x0)).toNat - n)).toNat) (by simp only [T2]; rw [if_pos hlt, if_pos hlt2])
                rwa [midOf_add] at this
              · rw [el, hd.back (show n + x0 < 2 * n by omega), show n + x0 - n = x0 by omega]
                rcases hb with hb | hb
                · exact mono _ hb
                · rw [hb]; exact i3
            · exact .inl h1
          · exact .inr h1

/-- A walk along a loop comes back. -/
theorem fol_back (hd : Ln n fd) (he : Ln n fe) (h0 : 1 ≤ n) {b0 : Nat → Bool} (hc : Cl2 n fd fe b0) {m : Nat} (hm : m < n) (hbm : b0 m = false) (F : Nat) (hF : 2 * n + 1 ≤ F) (s : σ) : ∃ s' b' r, fol n fd fe mt m F s b0 true m = some (s', b', r) ∧ ∀ x, b' x = true ↔ b0 x = true ∨ Cn n fd fe m x := by
  have el : lowOf n m = true := by simp [lowOf, hm]
  have em : midOf n m = m := by simp [midOf, hm]
  cases hf : fol n fd fe mt m F s b0 true m with
  | none =>
    exfalso
    rw [← el] at hf
    have all := fol_none hd he h0 F _ _ _ hf
    rcases orbit (T2_lt hd he) (T2_inj hd he) (show m < 2 * n by omega) with h1 | ⟨k, hk0, hkn, h1⟩
    · obtain ⟨x, h2, _⟩ := all (2 * n) (by omega)
      rw [h1] at h2; simp at h2
    · obtain ⟨x, h2, h3⟩ := all k (by omega)
      rw [h1] at h2; simp at h2; subst h2
      exact h3 hk0 (by rw [em])
  | some x =>
    obtain ⟨s', b', r⟩ := x
    refine ⟨s', b', r, rfl, ?_⟩
    rw [← el] at hf
    obtain ⟨i1, i2, i3, i4, i5⟩ := fol_loop hd he h0 hc hm hbm F s b0 m s' b' r (by omega) (by rw [em]; exact .refl) (by rw [em, if_pos hm]; omega) (.inr em) hf
    obtain ⟨⟨g1, g2⟩, g3, g4, g5⟩ := hc m hm hbm
    have hT : T2 n fd fe m = some (n + (fe m).toNat) := by simp only [T2]; rw [if_pos hm, if_pos g1]
    have gm : gd n fd fe b' m := ⟨fun _ => by have := i2 _ hT; rwa [midOf_add] at this, fun _ => i4⟩
    intro x
    constructor
    · intro hx
      rcases i5 x hx with h | h
      · exact .inl h
      · exact .inr h.1
    · rintro (h | h)
      · exact i1 x h
      · refine h.all hc hm hbm i3 (fun y hy hy1 hy2 => ?_)
        by_cases e : y = m
        · subst e; exact gm
        · rcases i5 y hy1 with h5 | h5
          · rw [hy2] at h5; simp at h5
          · exact h5.2 e

def unm (n : Nat) (b : Nat → Bool) : Nat := ((List.range n).filter fun x => !b x).length
theorem unm_lt {b b' : Nat → Bool} {x : Nat} (hx : x < n) (hb : b x = false) (hb' : b' x = true) (h : ∀ y, b y = true → b' y = true) : unm n b' < unm n b :=
  countP_lt (List.range n) x (List.mem_range.2 hx) (by simp [hb]) (by simp [hb']) fun y hy => by
    cases hby : b y with
    | false => rfl
    | true => rw [h y hby] at hy; simp at hy

/-- The reference's marks along a loop. -/
theorem rlp_loop (hd : Ln n fd) (he : Ln n fe) {b0 : Nat → Bool} (hc : Cl2 n fd fe b0) {m : Nat} (hm : m < n) (hbm : b0 m = false) : ∀ (F : Nat) (b : Nat → Bool) (q : Nat), unm n b < F → (∀ x, b0 x = true → b x = true) → (∀ x, b x = true → b0 x = true ∨ Cn n fd fe m x) → Cn n fd fe m q →
    (∀ x, x < n → b x = true → b0 x = false → b ((fd (n + x)).toNat - n) = true) → (∀ x, x < n → b x = true → b0 x = false → x ≠ m → x ≠ (fe q).toNat → b (fe x).toNat = true ∧ (fe x).toNat ≠ (fe q).toNat) →
    ((q = m ∧ ∀ x, b x = true → b0 x = true) ∨ b (fe q).toNat = true) → ∃ b', rlp n fd fe F b q = some b' ∧ ∀ x, b' x = true ↔ b0 x = true ∨ Cn n fd fe m x
  | 0, b, q, hF, _, _, _, _, _, _ => absurd hF (by omega)
  | F + 1, b, q, hF, hsub, hnew, hq, hD, hE, hst => by
    obtain ⟨q1, q2⟩ := hq.free hc hm hbm
    obtain ⟨⟨g1, g2⟩, g3, g4, g5⟩ := hc q q1 q2
    have hpe := he.par_up q1 g1
    have hpd := hd.par_low q1 g3
    have dq := hd.bd (n + q)
    cases hb : b q with
    | true =>
      refine ⟨b, by simp only [rlp, hb, if_true], fun x => ⟨hnew x, ?_⟩⟩
      have hbe : b (fe q).toNat = true := by
        rcases hst with ⟨rfl, h⟩ | h
        · rw [h q hb] at hbm; simp at hbm
        · exact h
      have hqm : q = m := by
        refine Classical.byContradiction fun hne => ?_
        have := hE q q1 hb q2 hne (by omega)
        exact this.2 rfl
      subst hqm
      rintro (h | h)
      · exact hsub x h
      · refine h.all hc hm hbm hb (fun y hy hy1 hy2 => ⟨fun hlt => ?_, fun _ => hD y hy hy1 hy2⟩)
        by_cases e1 : y = q
        · subst e1; exact hbe
        · by_cases e2 : y = (fe q).toNat
          · subst e2; rw [he.back (show q < 2 * n by omega)]; exact hb
          · exact (hE y hy hy1 hy2 e1 e2).1
    | false =>
      obtain ⟨y, hy⟩ : ∃ y : Nat, (fd (n + q)).toNat = n + y := ⟨(fd (n + q)).toNat - n, by omega⟩
      have ey : (fd (n + q)).toNat - n = y := by omega
      rw [ey] at g4 g5 hpd
      have hcy : Cn n fd fe m y := by have := hq.d; rwa [ey] at this
      obtain ⟨⟨k1, k2⟩, k3, k4, k5⟩ := hc y g4 g5
      have hpy := he.par_up g4 k1
      have hdy : (fd (n + y)).toNat - n = q := by rw [← hy, hd.back (show n + q < 2 * n by omega)]; omega
      have hby : b y = false := by
        cases h : b y with
        | false => rfl
        | true =>
          have := hD y g4 h g5
          rw [hdy, hb] at this; simp at this
      have hee := he.back (show y < 2 * n by omega)
      have mono : ∀ x, b x = true → (bset (bset b q) y) x = true := fun x hx => by rw [bset_t, bset_t]; exact .inr (.inr hx)
      have hlt : unm n (bset (bset b q) y) < unm n b := unm_lt q1 hb (by rw [bset_t, bset_t]; exact .inr (.inl rfl)) mono
      have key : ∃ b', rlp n fd fe F (bset (bset b q) y) (fe y).toNat = some b' ∧ ∀ x, b' x = true ↔ b0 x = true ∨ Cn n fd fe m x := by
        refine rlp_loop hd he hc hm hbm F (bset (bset b q) y) (fe y).toNat (by omega) (fun x hx => mono x (hsub x hx)) (fun x hx => ?_) hcy.e (fun x hxn hx hx0 => ?_) (fun x hxn hx hx0 hxm hxe => ?_) (.inr (by rw [hee, bset_t]; exact .inl rfl))
        · rw [bset_t, bset_t] at hx
          rcases hx with rfl | rfl | hx
          · exact .inr hcy
          · exact .inr hq
          · exact hnew x hx
        · rw [bset_t, bset_t] at hx
          rw [bset_t, bset_t]
          rcases hx with rfl | rfl | hx
          · exact .inr (.inl hdy)
          · exact .inl ey
          · exact .inr (.inr (hD x hxn hx hx0))
        · rw [hee] at hxe ⊢
          rw [bset_t, bset_t] at hx
          rw [bset_t, bset_t]
          rcases hx with rfl | rfl | hx
          · exact absurd rfl hxe
          · rcases hst with ⟨rfl, _⟩ | h
            · exact absurd rfl hxm
            · exact ⟨.inr (.inr h), fun e => by rw [e, hby] at h; simp at h⟩
          · by_cases e : x = (fe q).toNat
            · subst e
              rw [he.back (show q < 2 * n by omega)]
              exact ⟨.inr (.inl rfl), by omega⟩
            · have := hE x hxn hx hx0 hxm e
              exact ⟨.inr (.inr this.1), fun e => by rw [e, hby] at this; simp at this⟩
      obtain ⟨b', r1, r2⟩ := key
      refine ⟨b', ?_, r2⟩
      simp only [rlp, hb, Bool.false_eq_true, if_false]
      rw [if_neg (show ¬ fd (n + q) < n by omega), ey, if_neg (show ¬ (n : Int) ≤ fe y by have := he.bd y; omega)]
      exact r1

theorem bool_ext {b b' : Nat → Bool} (h : ∀ x, b x = true ↔ b' x = true) : b = b' := by
  funext x
  have := h x
  cases h1 : b x <;> cases h2 : b' x <;> simp_all

/-- Both sides find the same loops. -/
theorem loops_both (hd : Ln n fd) (he : Ln n fe) (h0 : 1 ≤ n) (F : Nat) (hF : 2 * n + 1 ≤ F) (lp : σ → σ) (s1 : σ) (b1 : Nat → Bool) (hc : Cl2 n fd fe b1) : ∀ k, k ≤ n → ∃ s b c, pr2 n fd fe mt lp F s1 b1 k = some (s, b) ∧ rl2 n fd fe F b1 k = some (b, c) ∧ Cl2 n fd fe b
  | 0, _ => ⟨s1, b1, 0, rfl, rfl, hc⟩
  | k + 1, hk => by
    obtain ⟨s, b, c, e1, e2, e3⟩ := loops_both hd he h0 F hF lp s1 b1 hc k (by omega)
    cases hb : b k with
    | true => exact ⟨s, b, c, by simp only [pr2, e1, hb, if_true], by simp only [rl2, e2, hb, if_true], e3⟩
    | false =>
      obtain ⟨s', b', r, f1, f2⟩ := fol_back (mt := mt) hd he h0 e3 (show k < n by omega) hb F hF s
      have hu : unm n b ≤ n := by
        have := List.length_filter_le (fun x => !b x) (List.range n)
        simpa [unm] using this
      obtain ⟨b'', g1, g2⟩ := rlp_loop hd he e3 (show k < n by omega) hb F b k (by omega) (fun x hx => hx) (fun x hx => .inl hx) .refl (fun x _ h1 h2 => by rw [h1] at h2; simp at h2) (fun x _ h1 h2 => by rw [h1] at h2; simp at h2) (.inl ⟨rfl, fun x hx => hx⟩)
      have e : b'' = b' := bool_ext fun x => by rw [g2, f2]
      subst e
      exact ⟨lp s', b'', c + 1, by simp only [pr2, e1, hb, f1, Bool.false_eq_true, if_false], by simp only [rl2, e2, hb, g1, Bool.false_eq_true, if_false], cl2_next hd he e3 f2⟩

/-- The product's walks end on both sides; the loops are the same. -/
theorem prod_ends (hd : Ln n fd) (he : Ln n fe) (h0 : 1 ≤ n) (F : Nat) (hF : 2 * n + 1 ≤ F) (en : σ → Nat → Int → σ) (lp : σ → σ) (s0 : σ) : ∃ s1 b1 s2 b2 c, pr1 n fd fe mt en F s0 n = some (s1, b1) ∧ pr2 n fd fe mt lp F s1 b1 n = some (s2, b2) ∧ rl2 n fd fe F b1 n = some (b2, c) := by
  obtain ⟨s1, b1, e1, e2, e3⟩ := pr1_ends (mt := mt) (en := en) hd he h0 F hF s0 n (Nat.le_refl _)
  obtain ⟨s2, b2, c, f1, f2, _⟩ := loops_both (mt := mt) hd he h0 F hF lp s1 b1 (cl2_of hd he e2 e3) n (Nat.le_refl _)
  exact ⟨s1, b1, s2, b2, c, e1, f1, f2⟩

end
end Go.Proofs.Ytkpjaffbbppneaa

/- The product of two diagrams: both sides' contracts. -/
namespace Go.Proofs.Ytkpjaffbbppneaa
open Go Go.RowKit

/-- Open brackets stand at places of their depth's parity. -/
def SP : List Nat → Prop
  | [] => True
  | i :: r => (i + r.length) % 2 = 0 ∧ SP r
theorem pst_par (t : Nat → Int) : ∀ k out stk, pst t k = some (out, stk) → SP stk ∧ (k + stk.length) % 2 = 0 ∧ ∀ i, i < k → i ∉ stk → (i + out i) % 2 = 1
  | 0, out, stk, h => by simp [pst] at h; obtain ⟨_, rfl⟩ := h; simp [SP]
  | k + 1, out, stk, h => by
    simp only [pst] at h
    cases hp : pst t k with
    | none => simp [hp] at h
    | some s =>
      obtain ⟨o, st⟩ := s
      obtain ⟨i1, i2, i3⟩ := pst_par t k o st hp
      have lt := (pst_lt t k o st hp).2
      simp only [hp] at h
      split at h
      · simp at h; obtain ⟨rfl, rfl⟩ := h
        refine ⟨⟨by omega, i1⟩, by simp; omega, fun i hi hn => ?_⟩
        simp at hn
        exact i3 i (by omega) hn.2
      · split at h
        · simp at h
        · cases st with
          | nil => simp at h
          | cons j r =>
            simp at h; obtain ⟨rfl, rfl⟩ := h
            simp only [SP] at i1
            simp only [List.length_cons] at i2
            have hj := lt j (by simp)
            refine ⟨i1.2, by omega, fun i hi hn => ?_⟩
            simp only [fset]
            by_cases e1 : i = k
            · subst e1; rw [if_pos rfl]; omega
            · rw [if_neg e1]
              by_cases e2 : i = j
              · subst e2; rw [if_pos rfl]; omega
              · rw [if_neg e2]
                exact i3 i (by omega) (by simp [e2, hn])

theorem isD_ln (n : Nat) (f : Nat → Int) (hf16 : ∀ i, 16 ≤ i → f i = 0) (h : isD n f = true) : 1 ≤ n ∧ n ≤ 8 ∧ Ln n f := by
  simp only [isD, Bool.and_eq_true, decide_eq_true_eq] at h
  obtain ⟨⟨⟨hn1, hn2⟩, hs⟩, hc⟩ := h
  have eN : (2 * (n : Int)).toNat = 2 * n := by omega
  rw [eN] at hc
  simp only [Int.toNat_natCast] at hc
  cases hp : pst (sg n f) (2 * n) with
  | none => rw [hp] at hc; simp at hc
  | some x =>
    obtain ⟨out, stk⟩ := x
    cases stk with
    | cons i r => rw [hp] at hc; simp at hc
    | nil =>
      rw [hp] at hc
      simp only [List.all_eq_true, List.mem_range, beq_iff_eq] at hc
      have nc := nc_of_done hp
      have par := (pst_par _ _ _ _ hp).2.2
      have hv : ∀ i : Nat, i < 2 * n → f i = plc n (out (plc n i).toNat) := by
        intro i hi
        rw [← hc i (by omega), jn_val n out (2 * n) (Nat.le_refl _), if_pos]
        have := plc_bd (n := n) (x := i) (by omega) (by omega) (by omega)
        exact ⟨hi, by omega⟩
      have pb : ∀ i : Nat, i < 2 * n → ∃ j : Nat, plc n i = j ∧ j < 2 * n ∧ plc n (j : Int) = i := by
        intro i hi
        have := plc_bd (n := n) (x := i) (by omega) (by omega) (by omega)
        refine ⟨(plc n i).toNat, by omega, by omega, ?_⟩
        rw [Int.toNat_of_nonneg this.1]; exact this.2.2
      have ob : ∀ j : Nat, j < 2 * n → ∃ k : Nat, out j = k ∧ k < 2 * n := by
        intro j hj
        have := nc.bd j hj
        exact ⟨(out j).toNat, by omega, by omega⟩
      refine ⟨by omega, by omega, ⟨fun i => ?_, fun i hi => ?_, fun i hi => ?_⟩⟩
      · by_cases hi : i < 2 * n
        · obtain ⟨j, e1, e2, e3⟩ := pb i hi
          obtain ⟨k, e4, e5⟩ := ob j e2
          rw [hv i hi, e1, Int.toNat_natCast, e4]
          have := plc_bd (n := n) (x := k) (by omega) (by omega) (by omega)
          omega
        · by_cases h16 : i < 16
          · rw [← hc i h16, jn_val n out (2 * n) (Nat.le_refl _), if_neg (by omega)]; omega
          · rw [hf16 i (by omega)]; omega
      · obtain ⟨j, e1, e2, e3⟩ := pb i hi
        obtain ⟨k, e4, e5⟩ := ob j e2
        obtain ⟨l, e6, e7, e8⟩ := pb k e5
        have h1 : f i = l := by rw [hv i hi, e1, Int.toNat_natCast, e4, e6]
        rw [h1, Int.toNat_natCast, hv l e7, e8, Int.toNat_natCast]
        have := nc.inv j e2
        rw [e4, Int.toNat_natCast] at this
        rw [this, e3]
      · obtain ⟨j, e1, e2, e3⟩ := pb i hi
        obtain ⟨k, e4, e5⟩ := ob j e2
        obtain ⟨l, e6, e7, e8⟩ := pb k e5
        have h1 : f i = l := by rw [hv i hi, e1, Int.toNat_natCast, e4, e6]
        rw [h1, e8, e1]
        have := par j e2 (by simp)
        rw [e4] at this
        exact this

/-- The product of two diagrams, and the loops. -/
def prd (n : Nat) (fd fe : Nat → Int) : (Nat → Int) × Nat :=
  match pr1 n fd fe pmt pen 17 (fun _ => 0, 0) n with
  | some (s1, b1) => match rl2 n fd fe 17 b1 n with
    | some (_, c) => (s1.1, c)
    | none => (fun _ => 0, 0)
  | none => (fun _ => 0, 0)

theorem pr2_ps {n : Nat} {fd fe : Nat → Int} {F : Nat} {s1 : PS} {b1 : Nat → Bool} : ∀ (k : Nat) (s : PS) (b b' : Nat → Bool) (c : Nat), k ≤ 8 → s1.2 = 0 → pr2 n fd fe pmt plp F s1 b1 k = some (s, b) → rl2 n fd fe F b1 k = some (b', c) → (∀ j s b b' c, j ≤ k → pr2 n fd fe pmt plp F s1 b1 j = some (s, b) → rl2 n fd fe F b1 j = some (b', c) → b = b') → s = (s1.1, (c : Int))
  | 0, s, b, b', c, _, h0, h1, h2, _ => by
    simp [pr2] at h1; simp [rl2] at h2
    obtain ⟨rfl, _⟩ := h1; obtain ⟨_, rfl⟩ := h2
    exact Prod.ext rfl h0
  | k + 1, s, b, b', c, hk, h0, h1, h2, hs => by
    simp only [pr2] at h1; simp only [rl2] at h2
    cases e1 : pr2 n fd fe pmt plp F s1 b1 k with
    | none => simp [e1] at h1
    | some x =>
      obtain ⟨s3, b3⟩ := x
      cases e2 : rl2 n fd fe F b1 k with
      | none => simp [e2] at h2
      | some y =>
        obtain ⟨b4, c4⟩ := y
        have eb := hs k _ _ _ _ (by omega) e1 e2
        subst eb
        have ih := pr2_ps k s3 b3 b3 c4 (by omega) h0 e1 e2 fun j s b b' c hj => hs j s b b' c (by omega)
        rw [e1] at h1; rw [e2] at h2
        simp only at h1 h2
        split at h1
        · rename_i hb
          rw [if_pos hb] at h2
          simp only [Option.some.injEq, Prod.mk.injEq] at h1 h2
          obtain ⟨rfl, _⟩ := h1; obtain ⟨_, rfl⟩ := h2
          exact ih
        · rename_i hb
          rw [if_neg hb] at h2
          split at h1
          · simp at h1
          · rename_i s5 b5 r5 hf
            split at h2
            · simp at h2
            · simp only [Option.some.injEq, Prod.mk.injEq] at h1 h2
              obtain ⟨rfl, _⟩ := h1; obtain ⟨_, rfl⟩ := h2
              have e5 : s5 = s3 := fol_pmt _ _ _ _ _ _ _ _ hf
              rw [e5, ih]
              have hc4 := rl2_le k _ _ e2
              simp only [plp]
              rw [wrap_id (by omega) (by omega)]
              congr 1

theorem prd_run {n : Nat} {fd fe : Nat → Int} (hd : Ln n fd) (he : Ln n fe) (h0 : 1 ≤ n) (h1 : n ≤ 8) : ∃ s1 b1 s2 b2, pr1 n fd fe pmt pen 17 (fun _ => 0, 0) n = some (s1, b1) ∧ pr2 n fd fe pmt plp 17 s1 b1 n = some (s2, b2) ∧ rl2 n fd fe 17 b1 n = some (b2, (prd n fd fe).2) ∧ s1.1 = (prd n fd fe).1 ∧ s2 = ((prd n fd fe).1, ((prd n fd fe).2 : Int)) := by
  obtain ⟨s1, b1, s2, b2, c, e1, e2, e3⟩ := prod_ends (mt := pmt) hd he h0 17 (by omega) pen plp (fun _ => 0, 0)
  have hp : prd n fd fe = (s1.1, c) := by simp only [prd, e1, e3]
  refine ⟨s1, b1, s2, b2, e1, e2, by rw [hp]; exact e3, by rw [hp], ?_⟩
  rw [hp]
  have hz : ∀ k s b, pr1 n fd fe pmt pen 17 (fun _ => 0, 0) k = some (s, b) → s.2 = 0 := by
    intro k
    induction k with
    | zero => intro s b h; simp [pr1] at h; rw [← h.1]
    | succ k ih =>
      intro s b h
      simp only [pr1] at h
      cases h1 : pr1 n fd fe pmt pen 17 (fun _ => 0, 0) k with
      | none => simp [h1] at h
      | some x =>
        obtain ⟨s3, b3⟩ := x
        have := ih s3 b3 h1
        rw [h1] at h
        simp only at h
        split at h
        · simp at h
        · rename_i f1
          split at h
          · simp at h
          · rename_i f2
            simp only [Option.some.injEq, Prod.mk.injEq] at h
            rw [← h.1]
            have q1 := fol_pmt _ _ _ _ _ _ _ _ f1
            have q2 := fol_pmt _ _ _ _ _ _ _ _ f2
            simp only [pen, q2, q1]; exact this
  have hcl := prod_ends (mt := pmt) hd he h0 17 (by omega) pen plp (fun _ => 0, 0)
  obtain ⟨t1, t2, t3, t4, t5⟩ := pr1_ends (mt := pmt) (en := pen) hd he h0 17 (by omega) (fun _ => 0, 0) n (Nat.le_refl _)
  rw [e1] at t3
  simp only [Option.some.injEq, Prod.mk.injEq] at t3
  obtain ⟨_, rfl⟩ := t3
  refine pr2_ps n s2 b2 b2 c h1 (hz n s1 b1 e1) e2 e3 fun j s b b' c hj g1 g2 => ?_
  obtain ⟨u1, u2, u3, u4, u5, _⟩ := loops_both (mt := pmt) hd he h0 17 (by omega) plp s1 b1 (cl2_of hd he t4 t5) j hj
  rw [u4] at g1; rw [u5] at g2
  simp only [Option.some.injEq, Prod.mk.injEq] at g1 g2
  rw [← g1.2, ← g2.1]

theorem times_k {n : Nat} {fd fe : Nat → Int} (hd : Ln n fd) (he : Ln n fe) (h0 : 1 ≤ n) (h1 : n ≤ 8) (m : List AO) (K : AV → List AO → Prop) (hk : K (.tup [.agg (dg n (prd n fd fe).1), I (prd n fd fe).2]) m) : ACalls Try.prog 35 [.agg (dg n fd), .agg (dg n fe)] m K := by
  obtain ⟨s1, b1, s2, b2, e1, e2, e3, e4, e5⟩ := prd_run hd he h0 h1
  exact times_c n fd fe 17 h0 h1 hd.bd he.bd s1 s2 b1 b2 e1 e2 m K (by rw [e5]; exact hk)

theorem l01Times_k {n : Nat} {fd fe : Nat → Int} (hd : Ln n fd) (he : Ln n fe) (h0 : 1 ≤ n) (h1 : n ≤ 8) (m : List AO) (K : AV → List AO → Prop) (hk : K (.tup [.agg (dg n (prd n fd fe).1), I (prd n fd fe).2]) m) : ACalls Try.prog 44 [.agg (dg n fd), .agg (dg n fe)] m K := by
  obtain ⟨s1, b1, s2, b2, e1, e2, e3, e4, e5⟩ := prd_run hd he h0 h1
  exact l01Times_c n fd fe 17 h0 h1 hd.bd he.bd s1 b1 b2 _ e1 e3 m K (by rw [e4]; exact hk)

end Go.Proofs.Ytkpjaffbbppneaa

/- Arcs of half diagrams: the reference's side. -/
namespace Go.Proofs.Ytkpjaffbbppneaa
open Go Go.RowKit

/-- The reference's arcs: open points stand at their own places. -/
def l4 (o : Nat → Int) (i : Nat) : Int := if o i = -1 then i else o i
theorem l4_open (o : Nat → Int) (k : Nat) : l4 (fset o k (-1)) = fset (l4 o) k k := by
  funext i; simp only [l4, fset]; by_cases h : i = k
  · subst h; simp
  · simp [h]
theorem l4_of {o : Nat → Int} {i : Nat} {v : Int} (h : o i = v) (hv : v ≠ -1) : l4 o i = v := by
  unfold l4; rw [if_neg (by rw [h]; exact hv), h]
theorem l4_eq {o o' : Nat → Int} {i : Nat} (h : o i = o' i) : l4 o i = l4 o' i := by
  unfold l4; by_cases h1 : o i = -1
  · rw [if_pos h1, if_pos (by rw [← h]; exact h1)]
  · rw [if_neg h1, if_neg (by rw [← h]; exact h1), h]
theorem fset_at (f : Nat → Int) (i : Nat) (v : Int) : fset f i v i = v := by simp [fset]
theorem fset_ne (f : Nat → Int) {i j : Nat} (v : Int) (h : j ≠ i) : fset f i v j = f j := by simp [fset, h]
theorem l4_arc (o : Nat → Int) (i k : Nat) : l4 (fset (fset o i k) k i) = fset (fset (l4 o) i k) k i := by
  funext j
  by_cases h : j = k
  · subst h
    rw [fset_at, l4_of (fset_at _ _ _) (by omega)]
  · rw [fset_ne _ _ h, l4_eq (fset_ne _ _ h)]
    by_cases h2 : j = i
    · subst h2
      rw [fset_at, l4_of (fset_at _ _ _) (by omega)]
    · rw [fset_ne _ _ h2, l4_eq (fset_ne _ _ h2)]

def l4K (s : List UInt8) (m : List AO) (K : AV → List AO → Prop) : Prop :=
  if 1 ≤ s.length ∧ s.length ≤ 8 then match ast (sb s) s.length with
    | some (out, stk) => K (.tup [.agg (arr 8 (l4 out)), B (decide (stk = []))]) m
    | none => ∀ g, K (.tup [.agg (arr 8 g), B false]) m
  else ∀ g, K (.tup [.agg (arr 8 g), B false]) m

@[simp] theorem arr_take (N : Nat) (f : Nat → Int) : (arr N f).take N = arr N f := List.take_of_length_le (by simp)
@[simp] theorem splice_arr (N : Nat) (f g : Nat → Int) : splice (arr N f) 0 (arr N g) = arr N g := splice_full (by simp)
theorem arr8_z : [AV.s (Value.int IntKind.i64 0), AV.s (Value.int IntKind.i64 0), AV.s (Value.int IntKind.i64 0), AV.s (Value.int IntKind.i64 0), AV.s (Value.int IntKind.i64 0), AV.s (Value.int IntKind.i64 0), AV.s (Value.int IntKind.i64 0), AV.s (Value.int IntKind.i64 0)] = arr 8 fun _ => 0 := rfl

set_option maxHeartbeats 2000000 in
theorem l04Arcs_c (s : List UInt8) (m : List AO) (K : AV → List AO → Prop) (hs : s.length ≤ 1000000) (hk : l4K s m K) : ACalls Try.prog 59 [Str s] m K := by
  refine ACalls.enter Try.func59 rfl rfl Try.ntmps59 (congrArg Array.toList Try.results59) (by simp) fun hc => ?_
  have hcl : Closed m := ‹_›
  have fin : ∀ mm tl (v : AV) (K : AV → List AO → Prop), mm = m ++ tl → v.sc m.length = true → K v m → ∃ m', Trunc m.length mm v m' ∧ K v m' := fun mm tl v K e hv hk => dropE (n := m.length) m tl e (Nat.le_refl _) hcl hv hk
  have bad : ∀ g mm tl, mm = m ++ tl → (∀ g, K (.tup [.agg (arr 8 g), B false]) m) → ∃ m', Trunc m.length mm (.tup [.agg (arr 8 g), B false]) m' ∧ K (.tup [.agg (arr 8 g), B false]) m' := fun g mm tl e hk => fin mm tl _ K e (by simp [AV.sc, scs]) (hk g)
  by_cases h1 : 1 ≤ s.length
  · have c1 : ¬ ((s.length : Int) < 1) := by omega
    by_cases h8 : s.length ≤ 8
    · have c2 : ¬ ((8 : Int) < s.length) := by omega
      simp (disch := omega) [arr8_z, arr_zero, splice_full, aLen, c1, c2]
      unfold l4K at hk
      rw [if_pos ⟨h1, h8⟩] at hk
      refine go_loop (α := {x : Nat × (Nat → Int) × List Nat × List AV × Nat // ast (sb s) x.1 = some (x.2.1, x.2.2.1) ∧ x.1 ≤ s.length})
        (fun x => mkE [(0, Str s), (2, .ptr m.length 0 0), (4, .ptr (m.length + 2) 0 0), (5, .slice (m.length + 1) 0 x.1.2.2.1.length x.1.2.2.2.2), (6, I x.1.1)])
        (fun x => m ++ [.cells (arr 8 fun _ => 0) 0 1, .cells (stkL x.1.2.2.1 ++ x.1.2.2.2.1) x.1.2.2.2.2 1, .cells (arr 8 (l4 x.1.2.1)) 0 1])
        (fun x => s.length - x.1.1) ⟨(0, fun _ => 0, [], [], 0), rfl, Nat.zero_le _⟩ (Wk.same rfl (by simp (disch := omega))) (fun ⟨(k, out, stk, junk, g), hp, hkl⟩ => ?_)
      obtain ⟨hl1, hl2⟩ := ast_lt _ _ _ _ hp
      simp only at hp hkl hl1 hl2
      by_cases hc : k < s.length
      · have hsb : ((s[k]'hc).toNat : Int) = sb s k := by simp [sb, hc]
        have hk8 : k < 8 := by omega
        have none_of : ast (sb s) (k + 1) = none → (∀ g, K (.tup [.agg (arr 8 g), B false]) m) := fun h => by
          rw [ast_none _ _ h _ hc] at hk; exact hk
        by_cases h40 : sb s k = 40
        · simp (disch := omega) [hc, hsb, h40, stkL_take]
          refine ⟨⟨(k + 1, out, k :: stk, [], g + 1), by simp [ast, hp, h40], hc⟩, Wk.cut [.cells (arr 8 fun _ => 0) 0 1, .cells (stkL (k :: stk)) (g + 1) 1, .cells (arr 8 (l4 out)) 0 1] [_] (by simp [stkL_push]; rfl) (by simp) (by simp (disch := omega)) (Nat.le_refl _) ?_ ?_, by simp; omega⟩
          · exact Closed.app hcl (by simp [AO.sc])
          · simp [allS, AV.sc]
        by_cases h41 : sb s k = 41
        · cases stk with
          | nil =>
            have hz : ((0 : Nat) : Int) = 0 := rfl
            simp (disch := omega) [hc, hsb, h40, h41, splice_full]
            exact bad _ _ _ rfl (none_of (by simp [ast, hp, h41]))
          | cons i r =>
            have hi : i < k := hl2 i (by simp)
            have hr : r.length + 1 ≤ k := by simpa using hl1
            have hz : ¬((r.length : Int) + 1 = 0) := by omega
            simp (disch := omega) [hc, hsb, h40, h41, stkL_at, arr_set, hz]
            refine ⟨⟨(k + 1, fset (fset out i k) k i, r, I i :: junk, g), by simp [ast, hp, h41], hc⟩, Wk.same (by simp [stkL_push, l4_arc]) (by simp (disch := omega)), by simp; omega⟩
        · by_cases h124 : sb s k = 124
          · cases stk with
            | nil =>
              simp (disch := omega) [hc, hsb, h40, h41, h124, arr_set]
              refine ⟨⟨(k + 1, fset out k (-1), [], junk, g), by simp [ast, hp, h124], hc⟩, Wk.same (by simp [l4_open]) (by simp (disch := omega)), by simp; omega⟩
            | cons i r =>
              have hr : r.length + 1 ≤ k := by simpa using hl1
              have hz : (0 : Int) < (r.length : Int) + 1 := by omega
              simp (disch := omega) [hc, hsb, h40, h41, h124, hz, splice_full]
              exact bad _ _ _ rfl (none_of (by simp [ast, hp, h124]))
          · simp (disch := omega) [hc, hsb, h40, h41, h124, splice_full]
            exact bad _ _ _ rfl (none_of (by simp [ast, hp, h40, h41, h124]))
      · have e : k = s.length := by omega
        subst e
        simp only [hp] at hk
        have hz : (decide ((stk.length : Int) = 0)) = decide (stk = []) := by
          cases stk with
          | nil => rfl
          | cons i r => simp; omega
        simp (disch := omega) [hc, hz, splice_full]
        exact fin _ _ _ K rfl (by simp [AV.sc, scs]) hk
    · have c2 : ((8 : Int) < s.length) := by omega
      unfold l4K at hk
      rw [if_neg (by omega)] at hk
      simp (disch := omega) [arr8_z, arr_zero, splice_full, aLen, c1, c2]
      exact bad _ _ _ rfl hk
  · have c1 : ((s.length : Int) < 1) := by omega
    unfold l4K at hk
    rw [if_neg (by omega)] at hk
    simp (disch := omega) [arr8_z, arr_zero, splice_full, aLen, c1]
    exact bad _ _ _ rfl hk

/-- A half diagram. -/
def isH (s : List UInt8) : Bool := decide (1 ≤ s.length) && decide (s.length ≤ 8) && match ast (sb s) s.length with
  | some (_, []) => true
  | _ => false

theorem l04Is_c (s : List UInt8) (m : List AO) (K : AV → List AO → Prop) (hs : s.length ≤ 1000000) (hk : K (B (isH s)) m) : ACalls Try.prog 42 [Str s] m K := by
  refine ACalls.enter Try.func42 rfl rfl Try.ntmps42 (congrArg Array.toList Try.results42) (by simp) fun hc => ?_
  have hcl : Closed m := ‹_›
  simp (disch := omega)
  refine goCall_n rfl (l04Arcs_c s _ _ hs ?_)
  unfold l4K
  split
  · rename_i h
    cases ha : ast (sb s) s.length with
    | none =>
      have e : isH s = false := by simp [isH, ha]
      rw [e] at hk
      intro g
      simp (disch := omega) [splice_full]
      exact dropE (n := m.length) m _ rfl (Nat.le_refl _) hcl (by simp [AV.sc, scs]) hk
    | some x =>
      obtain ⟨out, stk⟩ := x
      have e : isH s = decide (stk = []) := by
        cases stk <;> simp [isH, ha, h.1, h.2]
      rw [e] at hk
      simp (disch := omega) [splice_full]
      exact dropE (n := m.length) m _ rfl (Nat.le_refl _) hcl (by simp [AV.sc, scs]) hk
  · rename_i h
    have e : isH s = false := by
      have : (decide (1 ≤ s.length) && decide (s.length ≤ 8)) = false := by rw [Bool.and_eq_false_iff, decide_eq_false_iff_not, decide_eq_false_iff_not]; omega
      simp only [isH, this, Bool.false_and]
    rw [e] at hk
    intro g
    simp (disch := omega) [splice_full]
    exact dropE (n := m.length) m _ rfl (Nat.le_refl _) hcl (by simp [AV.sc, scs]) hk

end Go.Proofs.Ytkpjaffbbppneaa

/- Diagrams of two halves: both sides. -/
namespace Go.Proofs.Ytkpjaffbbppneaa
open Go Go.RowKit

theorem dg_congr {n : Int} {f g : Nat → Int} (h : ∀ i, i < 16 → f i = g i) : dg n f = dg n g := by
  simp only [dg, mts]
  congr 1
  exact List.map_congr_left fun i hi => by rw [h i (by simpa using hi)]

theorem ast_facts (t : Nat → Int) : ∀ k out stk, ast t k = some (out, stk) → (∀ i, i ∈ stk → t i = 40) ∧ (∀ j, -1 ≤ out j ∧ (out j < k ∨ out j = 0)) ∧ ∀ i, i < k → (out i = -1 ↔ t i = 124) ∧ (i ∉ stk → out i ≠ i)
  | 0, out, stk, h => by simp [ast] at h; obtain ⟨rfl, rfl⟩ := h; simp
  | k + 1, out, stk, h => by
    simp only [ast] at h
    cases hp : ast t k with
    | none => simp [hp] at h
    | some s =>
      obtain ⟨o, st⟩ := s
      obtain ⟨i1, i2, i3⟩ := ast_facts t k o st hp
      have lt := (ast_lt t k o st hp).2
      simp only [hp] at h
      split at h
      · rename_i hc
        simp at h; obtain ⟨rfl, rfl⟩ := h
        refine ⟨by simp, fun j => ?_, fun i hi => ?_⟩
        · have := i2 j; simp only [fset]; split <;> omega
        · simp only [fset]
          by_cases e : i = k
          · subst e; rw [if_pos rfl]; simp [hc.1]
          · rw [if_neg e]
            have := i3 i (by omega)
            rw [hc.2] at this
            exact this
      · rename_i hc
        split at h
        · rename_i h40
          simp at h; obtain ⟨rfl, rfl⟩ := h
          refine ⟨fun i hi => ?_, fun j => ?_, fun i hi => ?_⟩
          · rcases List.mem_cons.1 hi with rfl | hi
            · exact h40
            · exact i1 i hi
          · have := i2 j; omega
          · by_cases e : i = k
            · subst e
              refine ⟨⟨fun e => ?_, fun e => by omega⟩, fun hn => absurd (List.mem_cons_self) hn⟩
              exact absurd e (ast_z t i o st hp i (Nat.le_refl _))
            · have := i3 i (by omega)
              exact ⟨this.1, fun hn => this.2 (fun h => hn (List.mem_cons_of_mem _ h))⟩
        · split at h
          · simp at h
          · rename_i h40 h41
            have h41 : t k = 41 := by simpa using h41
            cases st with
            | nil => simp at h
            | cons j r =>
              simp at h; obtain ⟨rfl, rfl⟩ := h
              have hj := lt j (by simp)
              have tj := i1 j (by simp)
              refine ⟨fun i hi => i1 i (by simp [hi]), fun x => ?_, fun i hi => ?_⟩
              · have := i2 x; simp only [fset]; split
                · omega
                · split <;> omega
              · simp only [fset]
                by_cases e1 : i = k
                · subst e1; rw [if_pos rfl]; exact ⟨by omega, fun _ => by omega⟩
                · rw [if_neg e1]
                  by_cases e2 : i = j
                  · subst e2; rw [if_pos rfl]; exact ⟨by omega, fun _ => by omega⟩
                  · rw [if_neg e2]
                    have := i3 i (by omega)
                    exact ⟨this.1, fun hn => this.2 (by simp [e2, hn])⟩
where
  ast_z (t : Nat → Int) : ∀ k out stk, ast t k = some (out, stk) → ∀ i, k ≤ i → out i ≠ -1
  | 0, out, stk, h, i, _ => by simp [ast] at h; obtain ⟨rfl, _⟩ := h; simp
  | k + 1, out, stk, h, i, hi => by
    simp only [ast] at h
    cases hp : ast t k with
    | none => simp [hp] at h
    | some s =>
      obtain ⟨o, st⟩ := s
      have ih := ast_z t k o st hp i (by omega)
      have lt := (ast_lt t k o st hp).2
      simp only [hp] at h
      split at h
      · simp at h; obtain ⟨rfl, _⟩ := h
        rw [fset_ne _ _ (by omega)]; exact ih
      · split at h
        · simp at h; obtain ⟨rfl, _⟩ := h; exact ih
        · split at h
          · simp at h
          · cases st with
            | nil => simp at h
            | cons j r =>
              simp at h; obtain ⟨rfl, _⟩ := h
              have := lt j (by simp)
              rw [fset_ne _ _ (by omega), fset_ne _ _ (by omega)]; exact ih

/-- The given side's marks: one half's arcs. -/
def oh1 (n fr : Nat) (o : Nat → Int) (f : Nat → Int) : Nat → Nat → Int
  | 0 => f
  | k + 1 => if 0 ≤ o k then fset (oh1 n fr o f k) (fr * n + k) (fr * n + o k) else oh1 n fr o f k
/-- Open points joined. -/
def oh2 (n : Nat) (pa pb : List Nat) (f : Nat → Int) : Nat → Nat → Int
  | 0 => f
  | k + 1 => fset (fset (oh2 n pa pb f k) (pa.getD k 0) (n + pb.getD k 0 : Nat)) (n + pb.getD k 0) (pa.getD k 0)
/-- The diagram of two halves. -/
def ohf (n : Nat) (oa ob : Nat → Int) (pa pb : List Nat) : Nat → Int := oh2 n pa pb (oh1 n 1 ob (oh1 n 0 oa (fun _ => 0) n) n) pa.length
/-- The reference's marks. -/
def rf1 (n : Nat) (oa ob : Nat → Int) : Nat → Nat → Int
  | 0 => fun _ => 0
  | k + 1 => fset (fset (rf1 n oa ob k) k (l4 oa k)) (n + k) (n + l4 ob k)

theorem oh1_val (n fr : Nat) (o f : Nat → Int) : ∀ K i, oh1 n fr o f K i = if fr * n ≤ i ∧ i < fr * n + K ∧ 0 ≤ o (i - fr * n) then fr * n + o (i - fr * n) else f i
  | 0, i => by rw [if_neg (by omega)]; rfl
  | K + 1, i => by
    have ih := oh1_val n fr o f K i
    simp only [oh1]
    by_cases e : i = fr * n + K
    · subst e
      rw [Nat.add_sub_cancel_left] at *
      by_cases h : 0 ≤ o K
      · rw [if_pos h, fset_at, if_pos ⟨by omega, by omega, h⟩]
      · rw [if_neg h, ih, if_neg (by omega), if_neg (by omega)]
    · have e1 : (if 0 ≤ o K then fset (oh1 n fr o f K) (fr * n + K) (fr * n + o K) else oh1 n fr o f K) i = oh1 n fr o f K i := by
        split
        · rw [fset_ne _ _ e]
        · rfl
      rw [e1, ih]
      by_cases h : fr * n ≤ i ∧ i < fr * n + K ∧ 0 ≤ o (i - fr * n)
      · rw [if_pos h, if_pos ⟨h.1, by omega, h.2.2⟩]
      · rw [if_neg h, if_neg (by omega)]

theorem rf1_val (n : Nat) (oa ob : Nat → Int) : ∀ K, K ≤ n → ∀ i, rf1 n oa ob K i = if i < K then l4 oa i else if n ≤ i ∧ i < n + K then n + l4 ob (i - n) else 0
  | 0, _, i => by rw [if_neg (by omega), if_neg (by omega)]; rfl
  | K + 1, hK, i => by
    have ih := rf1_val n oa ob K (by omega) i
    simp only [rf1]
    by_cases e : i = n + K
    · subst e
      rw [fset_at, if_neg (by omega), if_pos (by omega), Nat.add_sub_cancel_left]
    · rw [fset_ne _ _ e]
      by_cases e2 : i = K
      · subst e2; rw [fset_at, if_pos (by omega)]
      · rw [fset_ne _ _ e2, ih]
        by_cases h : i < K
        · rw [if_pos h, if_pos (by omega)]
        · rw [if_neg h, if_neg (show ¬ i < K + 1 by omega)]
          by_cases h3 : n ≤ i ∧ i < n + K
          · rw [if_pos h3, if_pos (show n ≤ i ∧ i < n + (K + 1) by omega)]
          · rw [if_neg h3, if_neg (show ¬ (n ≤ i ∧ i < n + (K + 1)) by omega)]

theorem oh2_eq (n : Nat) (pa pb : List Nat) (f g : Nat → Int) (i : Nat) : ∀ k, (f i = g i ∨ ∃ j, j < k ∧ (i = pa.getD j 0 ∨ i = n + pb.getD j 0)) → oh2 n pa pb f k i = oh2 n pa pb g k i
  | 0, h => by
    rcases h with h | ⟨j, hj, _⟩
    · exact h
    · omega
  | k + 1, h => by
    simp only [oh2]
    by_cases e1 : i = n + pb.getD k 0
    · rw [e1, fset_at, fset_at]
    · rw [fset_ne _ _ e1, fset_ne _ _ e1]
      by_cases e2 : i = pa.getD k 0
      · rw [e2, fset_at, fset_at]
      · rw [fset_ne _ _ e2, fset_ne _ _ e2]
        refine oh2_eq n pa pb f g i k ?_
        rcases h with h | ⟨j, hj, hx⟩
        · exact .inl h
        · by_cases e : j = k
          · subst e; rcases hx with hx | hx
            · exact absurd hx e2
            · exact absurd hx e1
          · exact .inr ⟨j, by omega, hx⟩

theorem mem_getD {l : List Nat} {x : Nat} (h : x ∈ l) : ∃ j, j < l.length ∧ x = l.getD j 0 := by
  obtain ⟨j, hj, rfl⟩ := List.mem_iff_getElem.1 h
  exact ⟨j, hj, by simp [hj]⟩

/-- Both sides' marks end alike. -/
theorem ref_ohf {a b : List UInt8} {n : Nat} {oa ob : Nat → Int} (ha : a.length = n) (hb : b.length = n) (ea : ast (sb a) n = some (oa, [])) (eb : ast (sb b) n = some (ob, [])) (hl : (opn a n).length = (opn b n).length) (i : Nat) :
    oh2 n (opn a n) (opn b n) (rf1 n oa ob n) (opn a n).length i = ohf n oa ob (opn a n) (opn b n) i := by
  obtain ⟨_, a2, a3⟩ := ast_facts _ _ _ _ ea
  obtain ⟨_, b2, b3⟩ := ast_facts _ _ _ _ eb
  unfold ohf
  refine oh2_eq n _ _ _ _ i _ ?_
  rw [rf1_val n oa ob n (Nat.le_refl _), oh1_val, oh1_val]
  by_cases h1 : i < n
  · rw [if_pos h1]
    by_cases h2 : sb a i = 124
    · right
      obtain ⟨j, hj, e⟩ := mem_getD (show i ∈ opn a n by simp [opn, h1, h2])
      exact ⟨j, hj, .inl e⟩
    · left
      have h3 : oa i ≠ -1 := fun e => h2 ((a3 i h1).1.1 e)
      have h4 := a2 i
      rw [if_neg (by omega)]
      have e0 : 0 * n = 0 := Nat.zero_mul n
      rw [e0, Nat.sub_zero, if_pos (by omega)]
      rw [l4, if_neg h3]; simp
  · rw [if_neg h1]
    by_cases h2 : n ≤ i ∧ i < n + n
    · rw [if_pos h2]
      obtain ⟨x, rfl⟩ : ∃ x, i = n + x := ⟨i - n, by omega⟩
      have hx : x < n := by omega
      rw [Nat.one_mul, Nat.add_sub_cancel_left]
      by_cases h3 : sb b x = 124
      · right
        obtain ⟨j, hj, e⟩ := mem_getD (show x ∈ opn b n by simp [opn, hx, h3])
        exact ⟨j, by omega, .inr (by omega)⟩
      · left
        have h4 : ob x ≠ -1 := fun e => h3 ((b3 x hx).1.1 e)
        have h5 := b2 x
        rw [if_pos (by omega), l4, if_neg h4]; simp
    · left
      rw [if_neg h2, if_neg (by omega), if_neg (by omega)]

end Go.Proofs.Ytkpjaffbbppneaa

/- Diagrams of two halves: the given side's walk. -/
namespace Go.Proofs.Ytkpjaffbbppneaa
open Go Go.RowKit

theorem getD_mem {l : List Nat} {k : Nat} (h : k < l.length) : l.getD k 0 ∈ l := by
  rw [List.getD_eq_getElem?_getD, List.getElem?_eq_getElem h]; simp
theorem ns_at (l : List Nat) {k : Nat} (h : k < l.length) : (ns l)[k]? = some (I (l.getD k 0)) := by simp [ns, h]
theorem opn_lt {s : List UInt8} {n x : Nat} (h : x ∈ opn s n) : x < n := by simp [opn] at h; exact h.1

/-- The marks when so many halves are done. -/
def ohS (n : Nat) (oa ob : Nat → Int) : Nat → Nat → Int
  | 0 => fun _ => 0
  | 1 => oh1 n 0 oa (fun _ => 0) n
  | _ => oh1 n 1 ob (oh1 n 0 oa (fun _ => 0) n) n

set_option maxHeartbeats 4000000 in
theorem ofHalves_c (n : Nat) (a b : List UInt8) (oa ob : Nat → Int) (h0 : 1 ≤ n) (h8 : n ≤ 8) (ha : a.length = n) (hb : b.length = n) (ea : ast (sb a) n = some (oa, [])) (eb : ast (sb b) n = some (ob, [])) (hl : (opn a n).length = (opn b n).length)
    (m : List AO) (K : AV → List AO → Prop) (hk : K (.agg (dg n (ohf n oa ob (opn a n) (opn b n)))) m) : ACalls Try.prog 36 [Str a, Str b] m K := by
  refine ACalls.enter Try.func36 rfl rfl Try.ntmps36 (congrArg Array.toList Try.results36) (by simp) fun hc => ?_
  have hcl : Closed m := ‹_›
  have ba := (ast_facts _ _ _ _ ea).2.1
  have bb := (ast_facts _ _ _ _ eb).2.1
  simp (disch := omega) [ha, aLen]
  refine go_loop (α := {x : Nat // x ≤ 2}) (fun x => mkE [(0, Str a), (1, Str b), (4, .ptr m.length 0 0), (5, I n), (6, .ptr (m.length + 1) 0 0), (22, .slice (m.length + 2) 0 2 0), (23, I 2), (24, I x.1)])
    (fun x => m ++ [.cells (dg 0 fun _ => 0) 0 1, .cells (dg n (ohS n oa ob x.1)) 0 1, .cells [Str a, Str b] 0 1]) (fun x => 2 - x.1) ⟨0, by omega⟩ (Wk.same rfl (by simp (disch := omega))) (fun ⟨x, hx⟩ => ?_)
  by_cases hx2 : x < 2
  · obtain ⟨c, oc, hget, hcl2, ec, eo, bc⟩ : ∃ (c : List UInt8) (oc : Nat → Int), [Str a, Str b][x]? = some (Str c) ∧ c.length = n ∧ ast (sb c) n = some (oc, []) ∧ ohS n oa ob (x + 1) = oh1 n x oc (ohS n oa ob x) n ∧ ∀ j, -1 ≤ oc j ∧ (oc j < n ∨ oc j = 0) := by
      by_cases e : x = 0
      · subst e; exact ⟨a, oa, rfl, ha, ea, rfl, ba⟩
      · have : x = 1 := by omega
        subst this; exact ⟨b, ob, rfl, hb, eb, rfl, bb⟩
    have hx3 : (x : Int) < 2 := by omega
    have hget2 : ∀ h, [Str a, Str b][x]'h = Str c := fun h => by rw [List.getElem?_eq_getElem h] at hget; exact Option.some.inj hget
    simp (disch := omega) [hx3, hget2, hx2]
    refine goCall_n rfl (arcs_c c _ _ (by omega) ?_)
    unfold arcK
    rw [hcl2, ec]
    simp (disch := omega) [hcl2]
    refine go_loop (α := {k : Nat // k ≤ n}) (fun k => mkE [(0, Str a), (1, Str b), (4, .ptr m.length 0 0), (5, I n), (6, .ptr (m.length + 1) 0 0), (7, I x), (22, .slice (m.length + 2) 0 2 0), (23, I 2), (24, I x), (34, .slice (m.length + 3) 0 n 0), (35, I n), (36, I k.1)])
      (fun k => m ++ [.cells (dg 0 fun _ => 0) 0 1, .cells (dg n (oh1 n x oc (ohS n oa ob x) k.1)) 0 1, .cells [Str a, Str b] 0 1, .cells (arr n oc) 0 1]) (fun k => n - k.1) ⟨0, Nat.zero_le _⟩ (Wk.same rfl (by simp (disch := omega))) (fun ⟨k, hk2⟩ => ?_)
    by_cases hc : k < n
    · have bk := bc k
      have e3 : ((x : Int) * n) = ((x * n : Nat) : Int) := by simp
      have hxn : x * n ≤ n := by
        have : x = 0 ∨ x = 1 := by omega
        rcases this with rfl | rfl <;> simp
      have e4 : ((x * n : Nat) : Int) + k = ((x * n + k : Nat) : Int) := by simp
      have w1 : IntKind.i64.wrap ((x : Int) * n) = ((x * n : Nat) : Int) := by rw [e3]; exact wrap_id (by omega) (by omega)
      have w2 : IntKind.i64.wrap (((x * n : Nat) : Int) + k) = ((x * n + k : Nat) : Int) := by rw [e4]; exact wrap_id (by omega) (by omega)
      have w3 : IntKind.i64.wrap (((x * n : Nat) : Int) + oc k) = ((x * n : Nat) : Int) + oc k := wrap_id (by omega) (by omega)
      by_cases h5 : 0 ≤ oc k
      · simp (disch := omega) [hc, arr_at, h5, w1, w2, w3, wrap8_id]
        have e5 : ((x : Int) * n + k).toNat = x * n + k := by rw [e3, e4, Int.toNat_natCast]
        exact ⟨⟨k + 1, hc⟩, Wk.same (by simp [oh1, h5, e5]) (by simp (disch := omega)), by simp; omega⟩
      · simp (disch := omega) [hc, arr_at, h5]
        exact ⟨⟨k + 1, hc⟩, Wk.same (by simp [oh1, h5]) (by simp (disch := omega)), by simp; omega⟩
    · have e : k = n := by omega
      subst e
      simp (disch := omega) [hc]
      exact ⟨⟨x + 1, by omega⟩, Wk.cut [.cells (dg 0 fun _ => 0) 0 1, .cells (dg k (ohS k oa ob (x + 1))) 0 1, .cells [Str a, Str b] 0 1] [.cells (arr k oc) 0 1] (by simp [eo]) (by simp) (by simp (disch := omega)) (Nat.le_refl _) (hcl.app (by simp [AO.sc, scs, AV.sc])) (by simp [allS, AV.sc]), by simp; omega⟩
  · have e : x = 2 := by omega
    subst e
    simp (disch := omega) [hx2]
    refine goCall_n rfl (openPoints_c b _ _ (by omega) ?_)
    simp (disch := omega) [hb]
    refine goCall_n rfl (openPoints_c a _ _ (by omega) ?_)
    simp (disch := omega) [ha]
    have lb := opn_le b n
    have ohz : ohS n oa ob 2 = oh1 n 1 ob (oh1 n 0 oa (fun _ => 0) n) n := rfl
    refine go_loop (α := {j : Nat // j ≤ (opn a n).length}) (fun j => mkE [(4, .ptr m.length 0 0), (5, I n), (6, .ptr (m.length + 1) 0 0), (13, .slice (m.length + 3) 0 (opn b n).length (opn b n).length), (61, .slice (m.length + 4) 0 (opn a n).length (opn a n).length), (62, I (opn a n).length), (63, I j.1)])
      (fun j => m ++ [.cells (dg 0 fun _ => 0) 0 1, .cells (dg n (oh2 n (opn a n) (opn b n) (ohS n oa ob 2) j.1)) 0 1, .cells [Str a, Str b] 0 1, .cells (ns (opn b n)) (opn b n).length 1, .cells (ns (opn a n)) (opn a n).length 1])
      (fun j => (opn a n).length - j.1) ⟨0, Nat.zero_le _⟩ (Wk.same rfl (by simp (disch := omega))) (fun ⟨j, hj⟩ => ?_)
    by_cases hc : j < (opn a n).length
    · have hcb : j < (opn b n).length := by omega
      have p1 := opn_lt (List.getElem_mem hc)
      have p2 := opn_lt (List.getElem_mem hcb)
      simp (disch := omega) [hc, hcb, ns_at]
      refine goCall_n rfl (join_c (m.length + 1) (opn a n)[j] (n + (opn b n)[j]) n (oh2 n (opn a n) (opn b n) (ohS n oa ob 2) j) _ _ (by simp (disch := omega)) (by omega) (by omega) ?_)
      simp (disch := omega)
      exact ⟨⟨j + 1, hc⟩, Wk.same (by simp [oh2, hc, hcb]) (by simp (disch := omega)), by simp; omega⟩
    · have e : j = (opn a n).length := by omega
      subst e
      simp (disch := omega) [hc]
      exact dropE (n := m.length) m _ rfl (Nat.le_refl _) hcl (by simp [AV.sc, scs]) hk

end Go.Proofs.Ytkpjaffbbppneaa

/- Diagrams of two halves: the reference's walk. -/
namespace Go.Proofs.Ytkpjaffbbppneaa
open Go Go.RowKit

/-- Open points of a lower half, as points. -/
def nsp (n : Nat) (l : List Nat) : List AV := l.map fun i : Nat => I ((n + i : Nat) : Int)
@[simp] theorem nsp_len (n : Nat) (l : List Nat) : (nsp n l).length = l.length := by simp [nsp]
@[simp] theorem nsp_sc (L n : Nat) (l : List Nat) : scs L (nsp n l) = true := scs_map L (fun i : Nat => .int .i64 ((n + i : Nat) : Int)) _
theorem nsp_at (n : Nat) (l : List Nat) {k : Nat} (h : k < l.length) : (nsp n l)[k]? = some (I ((n + l[k] : Nat) : Int)) := by simp [nsp, h]
theorem nsp_app (n : Nat) (l : List Nat) (k : Nat) : nsp n (l ++ [k]) = nsp n l ++ [I ((n + k : Nat) : Int)] := by simp [nsp]
theorem ns_at' (l : List Nat) {k : Nat} (h : k < l.length) : (ns l)[k]? = some (I l[k]) := by simp [ns, h]

set_option maxHeartbeats 4000000 in
theorem l04Diagram_c (n : Nat) (a b : List UInt8) (oa ob : Nat → Int) (h0 : 1 ≤ n) (h8 : n ≤ 8) (ha : a.length = n) (hb : b.length = n) (ea : ast (sb a) n = some (oa, [])) (eb : ast (sb b) n = some (ob, [])) (hl : (opn a n).length = (opn b n).length)
    (m : List AO) (K : AV → List AO → Prop) (hk : K (.agg (dg n (ohf n oa ob (opn a n) (opn b n)))) m) : ACalls Try.prog 45 [Str a, Str b] m K := by
  refine ACalls.enter Try.func45 rfl rfl Try.ntmps45 (congrArg Array.toList Try.results45) (by simp) fun hc => ?_
  have hcl : Closed m := ‹_›
  have fa := ast_facts _ _ _ _ ea
  have fb := ast_facts _ _ _ _ eb
  have ba := fa.2.1
  have bb := fb.2.1
  simp (disch := omega) [ha, aLen]
  refine goCall_n rfl (l04Arcs_c a _ _ (by omega) ?_)
  unfold l4K
  rw [if_pos (by omega), ha, ea]
  simp (disch := omega)
  refine goCall_n rfl (l04Arcs_c b _ _ (by omega) ?_)
  unfold l4K
  rw [if_pos (by omega), hb, eb]
  simp (disch := omega)
  refine go_loop (α := {k : Nat // k ≤ n}) (fun k => mkE [(4, .ptr m.length 0 0), (5, I n), (6, .ptr (m.length + 3) 0 0), (7, .slice (m.length + 1) 0 (opn a k.1).length (opn a k.1).length), (8, .slice (m.length + 2) 0 (opn b k.1).length (opn b k.1).length), (9, .ptr (m.length + 4) 0 0), (11, .ptr (m.length + 5) 0 0), (13, I k.1)])
    (fun k => m ++ [.cells (dg 0 fun _ => 0) 0 1, .cells (ns (opn a k.1)) (opn a k.1).length 1, .cells (nsp n (opn b k.1)) (opn b k.1).length 1, .cells (dg n (rf1 n oa ob k.1)) 0 1, .cells (arr 8 (l4 oa)) 0 1, .cells (arr 8 (l4 ob)) 0 1])
    (fun k => n - k.1) ⟨0, Nat.zero_le _⟩ (Wk.same rfl (by simp (disch := omega) [opn])) (fun ⟨k, hk2⟩ => ?_)
  have la := opn_le a k
  have lb := opn_le b k
  by_cases hc : k < n
  · have qa : ∀ k, k < n → 0 ≤ l4 oa k ∧ l4 oa k < n := fun k hk => by have := ba k; unfold l4; split <;> omega
    have qb : ∀ k, k < n → 0 ≤ l4 ob k ∧ l4 ob k < n := fun k hk => by have := bb k; unfold l4; split <;> omega
    have qak := qa k hc
    have qbk := qb k hc
    have xa : l4 oa k = k ↔ sb a k = 124 := by
      have h1 := fa.2.2 k hc
      have h2 := h1.2 (by simp)
      rw [← h1.1]; unfold l4
      by_cases h : oa k = -1
      · rw [if_pos h]; simp [h]
      · rw [if_neg h]; exact ⟨fun e => absurd e h2, fun e => absurd e h⟩
    have xb : l4 ob k = k ↔ sb b k = 124 := by
      have h1 := fb.2.2 k hc
      have h2 := h1.2 (by simp)
      rw [← h1.1]; unfold l4
      by_cases h : ob k = -1
      · rw [if_pos h]; simp [h]
      · rw [if_neg h]; exact ⟨fun e => absurd e h2, fun e => absurd e h⟩
    have ta : List.take (opn a k).length (ns (opn a k)) = ns (opn a k) := take_len (by simp)
    have tb : List.take (opn b k).length (nsp n (opn b k)) = nsp n (opn b k) := take_len (by simp)
    have hk8 : k < 8 := by omega
    have rfk : rf1 n oa ob (k + 1) = fset (fset (rf1 n oa ob k) k (l4 oa k)) (n + k) (n + l4 ob k) := rfl
    have enk : ((n : Int) + k).toNat = n + k := by omega
    by_cases ca : sb a k = 124
    · have ea2 : opn a (k + 1) = opn a k ++ [k] := by rw [opn_succ, if_pos ca]
      have va := xa.2 ca
      by_cases cb : sb b k = 124
      · have eb2 : opn b (k + 1) = opn b k ++ [k] := by rw [opn_succ, if_pos cb]
        have vb := xb.2 cb
        simp (disch := omega) [hc, arr_at, wrap8_id, va, vb, ta, tb, enk]
        exact ⟨⟨k + 1, hc⟩, Wk.cut [.cells (dg 0 fun _ => 0) 0 1, .cells (ns (opn a (k + 1))) (opn a (k + 1)).length 1, .cells (nsp n (opn b (k + 1))) (opn b (k + 1)).length 1, .cells (dg n (rf1 n oa ob (k + 1))) 0 1, .cells (arr 8 (l4 oa)) 0 1, .cells (arr 8 (l4 ob)) 0 1] [_, _]
          (by simp [rfk, ea2, eb2, ns_app, nsp_app, va, vb]; exact ⟨rfl, rfl⟩) (by simp) (by simp (disch := omega) [ea2, eb2]) (Nat.le_refl _) (hcl.app (by simp [AO.sc, scs, AV.sc])) (by simp [allS, AV.sc]), by simp; omega⟩
      · have eb2 : opn b (k + 1) = opn b k := by rw [opn_succ, if_neg cb]
        have vb : ¬ l4 ob k = k := fun e => cb (xb.1 e)
        simp (disch := omega) [hc, arr_at, wrap8_id, va, vb, ta, tb, enk]
        exact ⟨⟨k + 1, hc⟩, Wk.cut [.cells (dg 0 fun _ => 0) 0 1, .cells (ns (opn a (k + 1))) (opn a (k + 1)).length 1, .cells (nsp n (opn b (k + 1))) (opn b (k + 1)).length 1, .cells (dg n (rf1 n oa ob (k + 1))) 0 1, .cells (arr 8 (l4 oa)) 0 1, .cells (arr 8 (l4 ob)) 0 1] [_]
          (by simp [rfk, ea2, eb2, ns_app, nsp_app, va]; rfl) (by simp) (by simp (disch := omega) [ea2, eb2]) (Nat.le_refl _) (hcl.app (by simp [AO.sc, scs, AV.sc])) (by simp [allS, AV.sc]), by simp; omega⟩
    · have ea2 : opn a (k + 1) = opn a k := by rw [opn_succ, if_neg ca]
      have va : ¬ l4 oa k = k := fun e => ca (xa.1 e)
      by_cases cb : sb b k = 124
      · have eb2 : opn b (k + 1) = opn b k ++ [k] := by rw [opn_succ, if_pos cb]
        have vb := xb.2 cb
        simp (disch := omega) [hc, arr_at, wrap8_id, va, vb, ta, tb, enk]
        exact ⟨⟨k + 1, hc⟩, Wk.cut [.cells (dg 0 fun _ => 0) 0 1, .cells (ns (opn a (k + 1))) (opn a (k + 1)).length 1, .cells (nsp n (opn b (k + 1))) (opn b (k + 1)).length 1, .cells (dg n (rf1 n oa ob (k + 1))) 0 1, .cells (arr 8 (l4 oa)) 0 1, .cells (arr 8 (l4 ob)) 0 1] [_]
          (by simp [rfk, ea2, eb2, ns_app, nsp_app, vb]; rfl) (by simp) (by simp (disch := omega) [ea2, eb2]) (Nat.le_refl _) (hcl.app (by simp [AO.sc, scs, AV.sc])) (by simp [allS, AV.sc]), by simp; omega⟩
      · have eb2 : opn b (k + 1) = opn b k := by rw [opn_succ, if_neg cb]
        have vb : ¬ l4 ob k = k := fun e => cb (xb.1 e)
        simp (disch := omega) [hc, arr_at, wrap8_id, va, vb, ta, tb, enk]
        exact ⟨⟨k + 1, hc⟩, Wk.cut [.cells (dg 0 fun _ => 0) 0 1, .cells (ns (opn a (k + 1))) (opn a (k + 1)).length 1, .cells (nsp n (opn b (k + 1))) (opn b (k + 1)).length 1, .cells (dg n (rf1 n oa ob (k + 1))) 0 1, .cells (arr 8 (l4 oa)) 0 1, .cells (arr 8 (l4 ob)) 0 1] []
          (by simp [rfk, ea2, eb2, ns_app, nsp_app]) (by simp) (by simp (disch := omega) [ea2, eb2]) (Nat.le_refl _) (hcl.app (by simp [AO.sc, scs, AV.sc])) (by simp [allS, AV.sc]), by simp; omega⟩
  · have e : k = n := by omega
    subst e
    simp (disch := omega) [hc]
    refine go_loop (α := {j : Nat // j ≤ (opn a k).length}) (fun j => mkE [(4, .ptr m.length 0 0), (6, .ptr (m.length + 3) 0 0), (7, .slice (m.length + 1) 0 (opn a k).length (opn a k).length), (8, .slice (m.length + 2) 0 (opn b k).length (opn b k).length), (14, I j.1)])
      (fun j => m ++ [.cells (dg 0 fun _ => 0) 0 1, .cells (ns (opn a k)) (opn a k).length 1, .cells (nsp k (opn b k)) (opn b k).length 1, .cells (dg k (oh2 k (opn a k) (opn b k) (rf1 k oa ob k) j.1)) 0 1, .cells (arr 8 (l4 oa)) 0 1, .cells (arr 8 (l4 ob)) 0 1])
      (fun j => (opn a k).length - j.1) ⟨0, Nat.zero_le _⟩ (Wk.same rfl (by simp (disch := omega))) (fun ⟨j, hj⟩ => ?_)
    by_cases hc2 : j < (opn a k).length
    · have hcb : j < (opn b k).length := by omega
      have p1 := opn_lt (List.getElem_mem hc2)
      have p2 := opn_lt (List.getElem_mem hcb)
      have enk : ((k : Int) + (opn b k)[j]).toNat = k + (opn b k)[j] := by omega
      simp (disch := omega) [hc2, hcb, ns_at', nsp_at, wrap8_id, enk]
      refine go_drawn [] false (by kernel_rfl) (by kernel_rfl) ?_
      simp (disch := omega) [hc2, hcb, ns_at', nsp_at, wrap8_id, enk]
      refine go_drawn [] false (by kernel_rfl) (by kernel_rfl) ?_
      simp (disch := omega) [hc2, hcb, ns_at', nsp_at, wrap8_id, enk]
      exact ⟨⟨j + 1, hc2⟩, Wk.same (by simp [oh2, hc2, hcb]) (by simp (disch := omega)), by simp; omega⟩
    · have e : j = (opn a k).length := by omega
      subst e
      have hk' : K (.agg (dg k (oh2 k (opn a k) (opn b k) (rf1 k oa ob k) (opn a k).length))) m := by
        rw [dg_congr (fun i _ => ref_ohf ha hb ea eb hl i)]; exact hk
      simp (disch := omega) [hc2]
      exact dropE (n := m.length) m _ rfl (Nat.le_refl _) hcl (by simp [AV.sc, scs]) hk'

end Go.Proofs.Ytkpjaffbbppneaa

/- Lists of half diagrams: the given side. -/
namespace Go.Proofs.Ytkpjaffbbppneaa
open Go Go.RowKit

theorem str_app (s t : List UInt8) : (⟨s.toArray⟩ : ByteArray) ++ (⟨t.toArray⟩ : ByteArray) = ⟨(s ++ t).toArray⟩ := by
  apply ByteArray.ext
  simp
theorem str_add (s t : List UInt8) (h : s.length + t.length ≤ 1000000) : abin .add (.string ⟨s.toArray⟩) (.string ⟨t.toArray⟩) = some (.string ⟨(s ++ t).toArray⟩) := by
  simp only [abin, str_size, str_app]
  rw [if_pos (by omega)]

/-- Texts of half diagrams, as the given side lists them. -/
def hvs : Nat → List UInt8 → Nat → Nat → List (List UInt8)
  | 0, t, _, _ => [t]
  | l + 1, t, u, o => (if u + o + 2 ≤ l + 1 then hvs l (t ++ [40]) (u + 1) o else []) ++ ((if 0 < u then hvs l (t ++ [41]) (u - 1) o else []) ++ (if u = 0 ∧ 0 < o then hvs l (t ++ [124]) u (o - 1) else []))

def hvL (m : List AO) (n : Nat) (l : List (List UInt8)) : List AO := m ++ [.cells [I n] 0 1, .cells (strs l) l.length 1, .cells [.slice (m.length + 1) 0 l.length l.length] 0 1, .cells [.fn 34 [.ptr m.length 0 0, .ptr (m.length + 2) 0 0, .ptr (m.length + 3) 0 0]] 0 1]
theorem hvL_len (m : List AO) (n : Nat) (l : List (List UInt8)) : (hvL m n l).length = m.length + 4 := by simp [hvL]
theorem strs_app (l : List (List UInt8)) (t : List UInt8) : strs (l ++ [t]) = strs l ++ [Str t] := by simp [strs]
theorem strs_take (l : List (List UInt8)) : (strs l).take l.length = strs l := take_len (by simp)

set_option maxHeartbeats 4000000 in
theorem halves1_c (m : List AO) (n : Nat) (hm : Closed m) (hn : n ≤ 8) : ∀ (left : Nat) (t : List UInt8) (u o : Nat) (l : List (List UInt8)) (K : AV → List AO → Prop), t.length + left = n → u ≤ 20 → o ≤ 20 → l.length ≤ 1000000 → (hvs left t u o).length + l.length ≤ 1000000 → K (.tup []) (hvL m n (l ++ hvs left t u o)) →
    ACalls Try.prog 34 [Str t, I u, I o, .ptr m.length 0 0, .ptr (m.length + 2) 0 0, .ptr (m.length + 3) 0 0] (hvL m n l) K
  | left, t, u, o, l, K, hl, hu, ho, hlen, hlen2, hk => by
    refine ACalls.enter Try.func34 rfl rfl Try.ntmps34 (congrArg Array.toList Try.results34) (by simp) fun hc => ?_
    have hcl : Closed (hvL m n l) := ‹_›
    have htn : t.length ≤ 8 := by omega
    cases left with
    | zero =>
      have e0 : (n : Int) - t.length = 0 := by omega
      simp only [hvL]
      simp (disch := omega) [e0, aLen, strs_take]
      have hcl2 : Closed (hvL m n (l ++ [t])) := hm.app (by simp [AO.sc, scs, AV.sc])
      refine dropE (hvL m n (l ++ [t])) [.cells [Str t] 0 1] (by simp [hvL, strs_app]) (by simp [hvL]) hcl2 (by simp [AV.sc, scs]) ?_
      simpa [hvs] using hk
    | succ left =>
      have e0 : ¬ (n : Int) - t.length = 0 := by omega
      have e1 : (n : Int) - t.length = left + 1 := by omega
      have a40 : (⟨t.toArray⟩ : ByteArray) ++ ⟨#[40]⟩ = ⟨(t ++ [40]).toArray⟩ := str_app t [40]
      have a41 : (⟨t.toArray⟩ : ByteArray) ++ ⟨#[41]⟩ = ⟨(t ++ [41]).toArray⟩ := str_app t [41]
      have a124 : (⟨t.toArray⟩ : ByteArray) ++ ⟨#[124]⟩ = ⟨(t ++ [124]).toArray⟩ := str_app t [124]
      have hMl : ∀ l, Closed (hvL m n l) := fun l => hm.app (by simp [AO.sc, scs, AV.sc])
      have c0 : ∀ l, content (hvL m n l) m.length 0 = some [I n] := fun l => by simp only [hvL]; simp (disch := omega)
      have c3 : ∀ l, content (hvL m n l) (m.length + 3) 0 = some [.fn 34 [.ptr m.length 0 0, .ptr (m.length + 2) 0 0, .ptr (m.length + 3) 0 0]] := fun l => by simp only [hvL]; simp (disch := omega)
      have e2 : ¬ ((left : Int) + 1 = 0) := by omega
      simp only [hvs] at hlen2 hk
      by_cases h1 : u + o + 2 ≤ left + 1
      · rw [if_pos h1] at hlen2 hk
        have y1 : (u : Int) + o + 2 ≤ left + 1 := by omega
        simp (disch := omega) [c0, c3, e0, e1, e2, aLen, a40, a41, a124, y1]
        refine goCall_n rfl (halves1_c m n hm hn left (t ++ [40]) (u + 1) o l _ (by simp; omega) (by omega) (by omega) (by omega) (by simp at hlen2 ⊢; omega) ?_)
        by_cases h2 : 0 < u
        · obtain ⟨u, rfl⟩ : ∃ u', u = u' + 1 := ⟨u - 1, by omega⟩
          rw [if_pos h2, if_neg (show ¬ (u + 1 = 0 ∧ 0 < o) by omega)] at hlen2 hk
          have z1 : ((0 : Int) < u + 1) := by omega
          have z5 : ¬ ((u : Int) + 1 = 0) := by omega
          simp (disch := omega) [c0, c3, e0, e1, e2, aLen, a40, a41, a124, z1]
          refine goCall_n rfl (halves1_c m n hm hn left (t ++ [41]) u o (l ++ hvs left (t ++ [40]) (u + 1 + 1) o) _ (by simp; omega) (by omega) (by omega) (by simp at hlen2 ⊢; omega) (by simp at hlen2 ⊢; omega) ?_)
          simp (disch := omega) [c0, c3, e0, e1, e2, aLen, a40, a41, a124, z5]
          exact keep (by simpa using hk)
        · have hu0 : u = 0 := by omega
          subst hu0
          rw [if_neg h2] at hlen2 hk
          by_cases h3 : 0 < o
          · obtain ⟨o, rfl⟩ : ∃ o', o = o' + 1 := ⟨o - 1, by omega⟩
            rw [if_pos ⟨rfl, h3⟩] at hlen2 hk
            have z3 : ((0 : Int) < o + 1) := by omega
            simp (disch := omega) [c0, c3, e0, e1, e2, aLen, a40, a41, a124, z3]
            refine goCall_n rfl (halves1_c m n hm hn left (t ++ [124]) 0 o (l ++ hvs left (t ++ [40]) (0 + 1) (o + 1)) _ (by simp; omega) (by omega) (by omega) (by simp at hlen2 ⊢; omega) (by simp at hlen2 ⊢; omega) ?_)
            simp (disch := omega)
            exact keep (by simpa using hk)
          · rw [if_neg (fun e => h3 e.2)] at hlen2 hk
            simp (disch := omega) [c0, c3, e0, e1, e2, aLen, a40, a41, a124, h3]
            exact keep (by simpa using hk)
      · rw [if_neg h1] at hlen2 hk
        have y1 : ¬ (u : Int) + o + 2 ≤ left + 1 := by omega
        simp (disch := omega) [c0, c3, e0, e1, e2, aLen, a40, a41, a124, y1]
        by_cases h2 : 0 < u
        · obtain ⟨u, rfl⟩ : ∃ u', u = u' + 1 := ⟨u - 1, by omega⟩
          rw [if_pos h2, if_neg (show ¬ (u + 1 = 0 ∧ 0 < o) by omega)] at hlen2 hk
          have z1 : ((0 : Int) < u + 1) := by omega
          have z5 : ¬ ((u : Int) + 1 = 0) := by omega
          simp (disch := omega) [c0, c3, e0, e1, e2, aLen, a40, a41, a124, z1]
          refine goCall_n rfl (halves1_c m n hm hn left (t ++ [41]) u o (l) _ (by simp; omega) (by omega) (by omega) (by simp at hlen2 ⊢; omega) (by simp at hlen2 ⊢; omega) ?_)
          simp (disch := omega) [c0, c3, e0, e1, e2, aLen, a40, a41, a124, z5]
          exact keep (by simpa using hk)
        · have hu0 : u = 0 := by omega
          subst hu0
          rw [if_neg h2] at hlen2 hk
          by_cases h3 : 0 < o
          · obtain ⟨o, rfl⟩ : ∃ o', o = o' + 1 := ⟨o - 1, by omega⟩
            rw [if_pos ⟨rfl, h3⟩] at hlen2 hk
            have z3 : ((0 : Int) < o + 1) := by omega
            simp (disch := omega) [c0, c3, e0, e1, e2, aLen, a40, a41, a124, z3]
            refine goCall_n rfl (halves1_c m n hm hn left (t ++ [124]) 0 o (l) _ (by simp; omega) (by omega) (by omega) (by simp at hlen2 ⊢; omega) (by simp at hlen2 ⊢; omega) ?_)
            simp (disch := omega)
            exact keep (by simpa using hk)
          · rw [if_neg (fun e => h3 e.2)] at hlen2 hk
            simp (disch := omega) [c0, c3, e0, e1, e2, aLen, a40, a41, a124, h3]
            exact keep (by simpa using hk)

end Go.Proofs.Ytkpjaffbbppneaa

/- Lists of half diagrams: both sides' lists. -/
namespace Go.Proofs.Ytkpjaffbbppneaa
open Go Go.RowKit

theorem halves_c (n k : Nat) (m : List AO) (K : AV → List AO → Prop) (hn : n ≤ 8) (hk2 : k ≤ 8) (hlen : (hvs n [] 0 k).length ≤ 1000000)
    (hk : K (.slice (m.length + 1) 0 (hvs n [] 0 k).length (hvs n [] 0 k).length) (m ++ [.cells [I n] 0 1, .cells (strs (hvs n [] 0 k)) (hvs n [] 0 k).length 1])) : ACalls Try.prog 15 [I n, I k] m K := by
  refine ACalls.enter Try.func15 rfl rfl Try.ntmps15 (congrArg Array.toList Try.results15) (by simp) fun hc => ?_
  have hcl : Closed m := ‹_›
  simp (disch := omega)
  have hst : m ++ [AO.cells [I n] 0 1, .cells [] 0 1, .cells [.slice (m.length + 1) 0 0 0] 0 1, .cells [.fn 34 [.ptr m.length 0 0, .ptr (m.length + 2) 0 0, .ptr (m.length + 3) 0 0]] 0 1] = hvL m n [] := rfl
  have h1 := halves1_c m n hcl hn n [] 0 k []
  rw [hst]
  refine goCall_n rfl (h1 _ (by simp) (by omega) (by omega) (by simp) (by simpa using hlen) ?_)
  simp only [hvL, List.nil_append]
  simp (disch := omega)
  exact dropE (n := m.length) (m ++ [.cells [I n] 0 1, .cells (strs (hvs n [] 0 k)) (hvs n [] 0 k).length 1]) [_, _] (by simp; exact ⟨rfl, rfl⟩) (by simp) (hcl.app (by simp [AO.sc, scs, AV.sc])) (by simp [AV.sc]) hk

/-- All texts of three signs. -/
def ext3 (l : List (List UInt8)) : List (List UInt8) := l.flatMap fun t => [t ++ [40], t ++ [41], t ++ [124]]
def all3 : Nat → List (List UInt8)
  | 0 => [[]]
  | i + 1 => ext3 (all3 i)
theorem ext3_len (l : List (List UInt8)) : (ext3 l).length = 3 * l.length := by
  induction l with
  | nil => rfl
  | cons a l ih => simp only [ext3, List.flatMap_cons, List.length_append] at ih ⊢; rw [ih]; simp; omega
theorem all3_len (i : Nat) : (all3 i).length = 3 ^ i := by
  induction i with
  | zero => rfl
  | succ i ih => rw [all3, ext3_len, ih, Nat.pow_succ]; omega
theorem all3_txt : ∀ (i : Nat) (t : List UInt8), t ∈ all3 i → t.length = i
  | 0, t, h => by simp [all3] at h; simp [h]
  | i + 1, t, h => by
    simp only [all3, ext3, List.mem_flatMap] at h
    obtain ⟨u, hu, ht⟩ := h
    have := all3_txt i u hu
    simp at ht
    rcases ht with rfl | rfl | rfl <;> simp [this]
theorem all3_bd (i : Nat) (h : i ≤ 8) : (all3 i).length ≤ 6561 := by
  rw [all3_len]
  exact Nat.le_trans (Nat.pow_le_pow_right (by decide) h) (by decide)
/-- The reference's list of half diagrams. -/
def rhv (n k : Nat) : List (List UInt8) := (all3 n).filter fun t => isH t && (opn t t.length).length == k

def gg : Nat → Nat
  | 0 => 0
  | i + 1 => (all3 i).length
def oldR (i : Nat) : List AO := (List.range i).map fun j => .cells (strs (all3 j)) (gg j) 1
theorem oldR_succ (i : Nat) : oldR (i + 1) = oldR i ++ [.cells (strs (all3 i)) (gg i) 1] := by simp [oldR, List.range_succ]
theorem oldR_len (i : Nat) : (oldR i).length = i := by simp [oldR]
theorem oldR_sc (i L : Nat) : ∀ o ∈ oldR i, o.sc L = true := by
  intro o ho; simp only [oldR, List.mem_map] at ho; obtain ⟨j, _, rfl⟩ := ho; simp [AO.sc]
theorem take_succ_get {α : Type} {l : List α} {j : Nat} (h : j < l.length) : l.take (j + 1) = l.take j ++ [l[j]] := (List.take_append_getElem h).symm
theorem ext3_app (l : List (List UInt8)) (t : List UInt8) : ext3 (l ++ [t]) = ext3 l ++ [t ++ [40], t ++ [41], t ++ [124]] := by simp [ext3]

set_option maxHeartbeats 4000000 in
theorem l04Halves_c (n k : Nat) (m : List AO) (K : AV → List AO → Prop) (hn : n ≤ 8) (hk2 : k ≤ 8)
    (hk : K (.slice (m ++ oldR (n + 1)).length 0 (rhv n k).length (rhv n k).length) (m ++ oldR (n + 1) ++ [.cells (strs (rhv n k)) (rhv n k).length 1])) : ACalls Try.prog 26 [I n, I k] m K := by
  refine ACalls.enter Try.func26 rfl rfl Try.ntmps26 (congrArg Array.toList Try.results26) (by simp) fun hc => ?_
  have hcl : Closed m := ‹_›
  have clo : ∀ i, Closed (m ++ oldR i) := fun i => hcl.app fun o ho => oldR_sc i _ o ho
  simp (disch := omega)
  refine go_loop (α := {i : Nat // i ≤ n}) (fun i => mkE [(0, I n), (1, I k), (5, .slice (m ++ oldR i.1).length 0 (all3 i.1).length (gg i.1)), (6, I i.1)]) (fun i => (m ++ oldR i.1) ++ [.cells (strs (all3 i.1)) (gg i.1) 1]) (fun i => n - i.1) ⟨0, Nat.zero_le _⟩
    (Wk.same (by simp [oldR, all3, gg, strs]) (by simp (disch := omega) [oldR, all3, gg])) (fun ⟨i, hi⟩ => ?_)
  have hcm := clo i
  obtain ⟨m1, hm1⟩ : ∃ m1, m1 = m ++ oldR i := ⟨_, rfl⟩
  have hl1 : m1.length = m.length + i := by rw [hm1]; simp [oldR_len]
  rw [← hm1] at hcm
  simp only [← hm1]
  have hb := all3_bd i (by omega)
  by_cases hc : i < n
  · simp (disch := omega) [hc]
    refine go_loop (α := {j : Nat // j ≤ (all3 i).length}) (fun j => mkE [(0, I n), (1, I k), (5, .slice m1.length 0 (all3 i).length (gg i)), (6, I i), (7, .slice (m1.length + 1) 0 (ext3 ((all3 i).take j.1)).length j.1), (8, I j.1)])
      (fun j => m1 ++ [.cells (strs (all3 i)) (gg i) 1, .cells (strs (ext3 ((all3 i).take j.1))) j.1 1]) (fun j => (all3 i).length - j.1) ⟨0, Nat.zero_le _⟩ (Wk.same rfl (by simp (disch := omega) [ext3])) (fun ⟨j, hj⟩ => ?_)
    by_cases hc2 : j < (all3 i).length
    · have hL : (ext3 ((all3 i).take j)).length = 3 * j := by rw [ext3_len, List.length_take]; omega
      have hL2 : (ext3 ((all3 i).take (j + 1))).length = 3 * j + 3 := by rw [ext3_len, List.length_take]; omega
      have htx := all3_txt i _ (List.getElem_mem hc2)
      have a40 : (⟨((all3 i)[j]).toArray⟩ : ByteArray) ++ ⟨#[40]⟩ = ⟨((all3 i)[j] ++ [40]).toArray⟩ := str_app _ [40]
      have a41 : (⟨((all3 i)[j]).toArray⟩ : ByteArray) ++ ⟨#[41]⟩ = ⟨((all3 i)[j] ++ [41]).toArray⟩ := str_app _ [41]
      have a124 : (⟨((all3 i)[j]).toArray⟩ : ByteArray) ++ ⟨#[124]⟩ = ⟨((all3 i)[j] ++ [124]).toArray⟩ := str_app _ [124]
      simp (disch := omega) [hc2, strs_at]
      refine go_drawn [] false (by kernel_rfl) (by kernel_rfl) ?_
      have tk : List.take (3 * j) (strs (ext3 ((all3 i).take j))) = strs (ext3 ((all3 i).take j)) := take_len (by simp [hL])
      have ex : ext3 ((all3 i).take (j + 1)) = ext3 ((all3 i).take j) ++ [(all3 i)[j] ++ [40], (all3 i)[j] ++ [41], (all3 i)[j] ++ [124]] := by rw [take_succ_get hc2, ext3_app]
      have sx : strs (ext3 ((all3 i).take (j + 1))) = strs (ext3 ((all3 i).take j)) ++ [Str ((all3 i)[j] ++ [40]), Str ((all3 i)[j] ++ [41]), Str ((all3 i)[j] ++ [124])] := by rw [ex]; simp [strs]
      simp (disch := omega) [hc2, strs_at, hL, a40, a41, a124, tk]
      exact ⟨⟨j + 1, hc2⟩, Wk.cut [.cells (strs (all3 i)) (gg i) 1, .cells (strs (ext3 ((all3 i).take (j + 1)))) (j + 1) 1] [_] (by simp [sx]; rfl) (by simp) (by simp (disch := omega) [hL2]) (by show m.length ≤ m1.length; omega) (hcm.app (by simp [AO.sc])) (by simp [allS, AV.sc]), by simp; omega⟩
    · have e : j = (all3 i).length := by omega
      subst e
      have e2 : ext3 ((all3 i).take (all3 i).length) = all3 (i + 1) := by rw [List.take_length]; rfl
      rw [e2]
      simp (disch := omega) [hc2]
      exact ⟨⟨i + 1, hc⟩, Wk.same (by simp [hm1, oldR_succ]; rfl) (by simp (disch := omega) [hm1, oldR_len, gg, Nat.add_assoc]), by simp; omega⟩
  · have e : i = n := by omega
    subst e
    simp (disch := omega) [hc]
    obtain ⟨G, hG⟩ : ∃ G : List UInt8 → Bool, G = fun t => isH t && (opn t t.length).length == k := ⟨_, rfl⟩
    have hrv : rhv i k = (all3 i).filter G := by rw [hG]; rfl
    have Gs : ∀ {j : Nat} (h : j < (all3 i).length), ((all3 i).take (j + 1)).filter G = ((all3 i).take j).filter G ++ if G (all3 i)[j] then [(all3 i)[j]] else [] := by
      intro j h
      rw [take_succ_get h, List.filter_append]
      congr 1
      by_cases hg : G (all3 i)[j] = true <;> simp [hg]
    have Gl : ∀ j, (((all3 i).take j).filter G).length ≤ 6561 := fun j => Nat.le_trans (List.length_filter_le _ _) (by rw [List.length_take]; omega)
    refine go_loop (α := {j : Nat // j ≤ (all3 i).length}) (fun j => mkE [(1, I k), (5, .slice m1.length 0 (all3 i).length (gg i)), (9, .slice (m1.length + 1) 0 (((all3 i).take j.1).filter G).length (((all3 i).take j.1).filter G).length), (10, I j.1)])
      (fun j => m1 ++ [.cells (strs (all3 i)) (gg i) 1, .cells (strs (((all3 i).take j.1).filter G)) (((all3 i).take j.1).filter G).length 1]) (fun j => (all3 i).length - j.1) ⟨0, Nat.zero_le _⟩ (Wk.same rfl (by simp (disch := omega))) (fun ⟨j, hj⟩ => ?_)
    have glj := Gl j
    by_cases hc2 : j < (all3 i).length
    · have htx := all3_txt i _ (List.getElem_mem hc2)
      have gs := Gs hc2
      have stay : G (all3 i)[j] = false → ((all3 i).take (j + 1)).filter G = ((all3 i).take j).filter G := fun h => by rw [gs, h]; simp
      simp (disch := omega) [hc2, strs_at]
      refine goCall_n rfl (l04Is_c _ _ _ (by omega) ?_)
      cases h1 : isH (all3 i)[j] with
      | false =>
        have g0 := stay (by rw [hG]; simp [h1])
        simp (disch := omega)
        exact ⟨⟨j + 1, hc2⟩, Wk.same (by simp [g0]) (by simp (disch := omega) [g0]), by simp; omega⟩
      | true =>
        have hol := opn_le (all3 i)[j] (all3 i)[j].length
        simp (disch := omega) [hc2, strs_at]
        refine goCall_n rfl (l04Open_c _ _ _ (by omega) ?_)
        by_cases h2 : (opn (all3 i)[j] (all3 i)[j].length).length = k
        · have g1 : ((all3 i).take (j + 1)).filter G = ((all3 i).take j).filter G ++ [(all3 i)[j]] := by rw [gs, if_pos (by rw [hG]; simp [h1, h2])]
          have h2' : (((opn (all3 i)[j] (all3 i)[j].length).length : Nat) : Int) = (k : Int) := by omega
          have g2 : (((all3 i).take (j + 1)).filter G).length = (((all3 i).take j).filter G).length + 1 := by rw [g1]; simp
          have g3 : strs (((all3 i).take (j + 1)).filter G) = strs (((all3 i).take j).filter G) ++ [Str (all3 i)[j]] := by rw [g1, strs_app]
          simp (disch := omega) [hc2, strs_at, h2, strs_take]
          exact ⟨⟨j + 1, hc2⟩, Wk.cut [.cells (strs (all3 i)) (gg i) 1, .cells (strs (((all3 i).take (j + 1)).filter G)) (((all3 i).take (j + 1)).filter G).length 1] [_] (by simp [g3, g2]; rfl) (by simp) (by simp (disch := omega) [g2]) (by show m.length ≤ m1.length; omega) (hcm.app (by simp [AO.sc])) (by simp [allS, AV.sc]), by simp; omega⟩
        · have g0 := stay (by rw [hG]; simp [h1, h2])
          have h2' : decide ((((opn (all3 i)[j] (all3 i)[j].length).length : Nat) : Int) = (k : Int)) = false := by rw [decide_eq_false_iff_not]; omega
          simp (disch := omega) [h2']
          exact ⟨⟨j + 1, hc2⟩, Wk.same (by simp [g0]) (by simp (disch := omega) [g0]), by simp; omega⟩
    · have e : j = (all3 i).length := by omega
      subst e
      rw [hrv] at hk
      have e2 : m ++ oldR (i + 1) = m1 ++ [.cells (strs (all3 i)) (gg i) 1] := by rw [oldR_succ, hm1, List.append_assoc]
      rw [e2] at hk
      simp (disch := omega) [hc2, List.take_length]
      exact keep (by simpa using hk)

end Go.Proofs.Ytkpjaffbbppneaa

/- Half diagrams of at most six points, looked through one by one (plain). -/
namespace Go.Proofs.Ytkpjaffbbppneaa
open Go Go.RowKit

/-- All texts of two signs. -/
def all2 : Nat → List (List UInt8)
  | 0 => [[]]
  | i + 1 => (all2 i).flatMap fun t => [t ++ [40], t ++ [41]]
theorem all2_mem : ∀ (n : Nat) (t : List UInt8), t.length = n → (∀ x ∈ t, x = 40 ∨ x = 41) → t ∈ all2 n
  | 0, t, h, _ => by simp [all2]; exact List.eq_nil_of_length_eq_zero h
  | n + 1, t, h, hx => by
    have hne : t ≠ [] := by intro e; subst e; simp at h
    have e := List.dropLast_concat_getLast hne
    have hl : t.dropLast.length = n := by simp; omega
    have ih := all2_mem n t.dropLast hl fun x hxm => hx x ((List.dropLast_sublist t).subset hxm)
    have hg := hx (t.getLast hne) (List.getLast_mem hne)
    simp only [all2, List.mem_flatMap]
    refine ⟨_, ih, ?_⟩
    rcases hg with hg | hg <;> rw [hg] at e
    · exact List.mem_cons.2 (.inl e.symm)
    · exact List.mem_cons.2 (.inr (List.mem_cons.2 (.inl e.symm)))
theorem all3_mem : ∀ (n : Nat) (t : List UInt8), t.length = n → (∀ x ∈ t, x = 40 ∨ x = 41 ∨ x = 124) → t ∈ all3 n
  | 0, t, h, _ => by simp [all3]; exact List.eq_nil_of_length_eq_zero h
  | n + 1, t, h, hx => by
    have hne : t ≠ [] := by intro e; subst e; simp at h
    have e := List.dropLast_concat_getLast hne
    have hl : t.dropLast.length = n := by simp; omega
    have ih := all3_mem n t.dropLast hl fun x hxm => hx x ((List.dropLast_sublist t).subset hxm)
    have hg := hx (t.getLast hne) (List.getLast_mem hne)
    simp only [all3, ext3, List.mem_flatMap]
    refine ⟨_, ih, ?_⟩
    rcases hg with hg | hg | hg <;> rw [hg] at e
    · exact List.mem_cons.2 (.inl e.symm)
    · exact List.mem_cons.2 (.inr (List.mem_cons.2 (.inl e.symm)))
    · exact List.mem_cons.2 (.inr (List.mem_cons.2 (.inr (List.mem_cons.2 (.inl e.symm)))))

def LnB (n : Nat) (f : Nat → Int) : Bool := (List.range (2 * n)).all fun i => decide (0 ≤ f i) && (decide (f i < 2 * n) && (f (f i).toNat == i && (plc n i + plc n (f i)) % 2 == 1))
def isBal (N : Nat) (T : List UInt8) : Bool := match pst (sb T) N with
  | some (_, []) => true
  | _ => false
/-- What is looked at: a diagram by its text, acting on a half diagram. -/
def chkA (n : Nat) (T : List UInt8) (a : List UInt8) : Bool :=
  match pst (sb T) (2 * n) with
  | some (out, []) => match ast (sb a) n with
    | some (oa, []) =>
      let g := ohf n oa oa (opn a n) (opn a n)
      let h := uby (hss n (prd n (jn n out (2 * n)) g).1 0 n)
      LnB n g && (decide ((opn h n).length ≤ (opn a n).length) && (decide ((opn h n).length < (opn a n).length) || isH h))
    | _ => false
  | _ => false
/-- All half diagrams of n points. -/
def hvA (n : Nat) : List (List UInt8) := (List.range (n + 1)).flatMap fun k => if (n - k) % 2 = 0 then hvs n [] 0 k else []

theorem bal_1 : (all2 2).all (fun T => !isBal 2 T || (hvs 2 [] 0 0).contains T) = true := by kernel_rfl
theorem bal_2 : (all2 4).all (fun T => !isBal 4 T || (hvs 4 [] 0 0).contains T) = true := by kernel_rfl
theorem bal_3 : (all2 6).all (fun T => !isBal 6 T || (hvs 6 [] 0 0).contains T) = true := by kernel_rfl
theorem bal_4 : (all2 8).all (fun T => !isBal 8 T || (hvs 8 [] 0 0).contains T) = true := by kernel_rfl
theorem bal_5 : (all2 10).all (fun T => !isBal 10 T || (hvs 10 [] 0 0).contains T) = true := by kernel_rfl
theorem bal_6 : (all2 12).all (fun T => !isBal 12 T || (hvs 12 [] 0 0).contains T) = true := by kernel_rfl
theorem lists_6 : (List.range 7).all (fun n => n == 0 || (List.range (n + 1)).all fun k => (n - k) % 2 == 1 || rhv n k == hvs n [] 0 k) = true := by kernel_rfl

theorem act_1 : (hvs 2 [] 0 0).all (fun T => (hvA 1).all (chkA 1 T)) = true := by kernel_rfl
theorem act_2 : (hvs 4 [] 0 0).all (fun T => (hvA 2).all (chkA 2 T)) = true := by kernel_rfl
theorem act_3 : (hvs 6 [] 0 0).all (fun T => (hvA 3).all (chkA 3 T)) = true := by kernel_rfl
theorem act_4 : (hvs 8 [] 0 0).all (fun T => (hvA 4).all (chkA 4 T)) = true := by kernel_rfl
theorem act_5a : ((hvs 10 [] 0 0).take 21).all (fun T => (hvA 5).all (chkA 5 T)) = true := by kernel_rfl
theorem act_5b : ((hvs 10 [] 0 0).drop 21).all (fun T => (hvA 5).all (chkA 5 T)) = true := by kernel_rfl
theorem act_6_0 : (((hvs 12 [] 0 0).drop 0).take 12).all (fun T => (hvA 6).all (chkA 6 T)) = true := by kernel_rfl
theorem act_6_1 : (((hvs 12 [] 0 0).drop 12).take 12).all (fun T => (hvA 6).all (chkA 6 T)) = true := by kernel_rfl
theorem act_6_2 : (((hvs 12 [] 0 0).drop 24).take 12).all (fun T => (hvA 6).all (chkA 6 T)) = true := by kernel_rfl
theorem act_6_3 : (((hvs 12 [] 0 0).drop 36).take 12).all (fun T => (hvA 6).all (chkA 6 T)) = true := by kernel_rfl
theorem act_6_4 : (((hvs 12 [] 0 0).drop 48).take 12).all (fun T => (hvA 6).all (chkA 6 T)) = true := by kernel_rfl
theorem act_6_5 : (((hvs 12 [] 0 0).drop 60).take 12).all (fun T => (hvA 6).all (chkA 6 T)) = true := by kernel_rfl
theorem act_6_6 : (((hvs 12 [] 0 0).drop 72).take 12).all (fun T => (hvA 6).all (chkA 6 T)) = true := by kernel_rfl
theorem act_6_7 : (((hvs 12 [] 0 0).drop 84).take 12).all (fun T => (hvA 6).all (chkA 6 T)) = true := by kernel_rfl
theorem act_6_8 : (((hvs 12 [] 0 0).drop 96).take 12).all (fun T => (hvA 6).all (chkA 6 T)) = true := by kernel_rfl
theorem act_6_9 : (((hvs 12 [] 0 0).drop 108).take 12).all (fun T => (hvA 6).all (chkA 6 T)) = true := by kernel_rfl
theorem act_6_10 : (((hvs 12 [] 0 0).drop 120).take 12).all (fun T => (hvA 6).all (chkA 6 T)) = true := by kernel_rfl

theorem all_cut {α : Type} (p : α → Bool) : ∀ (c k : Nat) (l : List α), 0 < c → l.length ≤ c * k → (∀ i, i < k → ((l.drop (c * i)).take c).all p = true) → l.all p = true
  | c, k, l, hc, hl, h => by
    rw [List.all_eq_true]
    intro x hx
    obtain ⟨j, hj, rfl⟩ := List.mem_iff_getElem.1 hx
    have hjc : j / c < k := by
      rw [Nat.div_lt_iff_lt_mul hc, Nat.mul_comm]; omega
    have := h (j / c) hjc
    rw [List.all_eq_true] at this
    refine this _ ?_
    rw [List.mem_iff_getElem?]
    refine ⟨j % c, ?_⟩
    rw [List.getElem?_take, if_pos (Nat.mod_lt _ hc), List.getElem?_drop, Nat.div_add_mod, List.getElem?_eq_getElem hj]

theorem act_6 : (hvs 12 [] 0 0).all (fun T => (hvA 6).all (chkA 6 T)) = true := by
  refine all_cut _ 12 11 _ (by decide) (by decide +kernel) fun i hi => ?_
  match i, hi with
  | 0, _ => exact act_6_0
  | 1, _ => exact act_6_1
  | 2, _ => exact act_6_2
  | 3, _ => exact act_6_3
  | 4, _ => exact act_6_4
  | 5, _ => exact act_6_5
  | 6, _ => exact act_6_6
  | 7, _ => exact act_6_7
  | 8, _ => exact act_6_8
  | 9, _ => exact act_6_9
  | 10, _ => exact act_6_10

theorem act_5 : (hvs 10 [] 0 0).all (fun T => (hvA 5).all (chkA 5 T)) = true := by
  rw [← List.take_append_drop 21 (hvs 10 [] 0 0), List.all_append, act_5a, act_5b]; rfl

theorem act_all (n : Nat) (h0 : 1 ≤ n) (h6 : n ≤ 6) (T : List UInt8) (hT : T.length = 2 * n) (hx : ∀ x ∈ T, x = 40 ∨ x = 41) (hb : isBal (2 * n) T = true) (a : List UInt8) (ha : a ∈ hvA n) : chkA n T a = true := by
  have hm := all2_mem (2 * n) T hT hx
  have key : ∀ (N : Nat) (L : List (List UInt8)), 2 * n = N → (all2 N).all (fun T => !isBal N T || L.contains T) = true → L.all (fun T => (hvA n).all (chkA n T)) = true → chkA n T a = true := by
    intro N L e h1 h2
    rw [e] at hm hb
    rw [List.all_eq_true] at h1 h2
    have := h1 T hm
    rw [hb] at this
    have := h2 T (by simpa using this)
    rw [List.all_eq_true] at this
    exact this a ha
  have hn : n = 1 ∨ n = 2 ∨ n = 3 ∨ n = 4 ∨ n = 5 ∨ n = 6 := by omega
  rcases hn with rfl | rfl | rfl | rfl | rfl | rfl
  · exact key 2 _ rfl bal_1 act_1
  · exact key 4 _ rfl bal_2 act_2
  · exact key 6 _ rfl bal_3 act_3
  · exact key 8 _ rfl bal_4 act_4
  · exact key 10 _ rfl bal_5 act_5
  · exact key 12 _ rfl bal_6 act_6

theorem lists_all (n k : Nat) (h0 : 1 ≤ n) (h6 : n ≤ 6) (hk : k ≤ n) (hp : (n - k) % 2 = 0) : rhv n k = hvs n [] 0 k := by
  have h := lists_6
  rw [List.all_eq_true] at h
  have h1 := h n (List.mem_range.2 (by omega))
  rw [show (n == 0) = false by simp; omega, Bool.false_or, List.all_eq_true] at h1
  have h2 := h1 k (List.mem_range.2 (by omega))
  rw [hp] at h2
  simpa using h2

end Go.Proofs.Ytkpjaffbbppneaa

/- Diagrams that act on half diagrams: both sides. -/
namespace Go.Proofs.Ytkpjaffbbppneaa
open Go Go.RowKit

theorem fol_out_bd {σ : Type} {n : Nat} {fd fe : Nat → Int} {mt : σ → Bool → Nat → σ} (hd : Ln n fd) (he : Ln n fe) (h0 : 1 ≤ n) : ∀ (F : Nat) (s : σ) (b : Nat → Bool) (low : Bool) (pt : Nat) (s' : σ) (b' : Nat → Bool) (r : Int), fol n fd fe mt (-1) F s b low pt = some (s', b', r) → 0 ≤ r ∧ r < 2 * n
  | 0, s, b, low, pt, s', b', r, h => by simp [fol] at h
  | F + 1, s, b, low, pt, s', b', r, h => by
    rw [fol_step hd he h0] at h
    split at h
    · simp only [Option.some.injEq, Prod.mk.injEq] at h
      obtain ⟨_, _, rfl⟩ := h
      have := hd.bd pt
      have := he.bd pt
      split <;> omega
    · rw [if_neg (by omega)] at h
      exact fol_out_bd hd he h0 F _ _ _ _ _ _ _ h

theorem prd_bd {n : Nat} {fd fe : Nat → Int} (hd : Ln n fd) (he : Ln n fe) (h0 : 1 ≤ n) (h1 : n ≤ 8) : ∀ i, 0 ≤ (prd n fd fe).1 i ∧ (prd n fd fe).1 i < 2 * n := by
  obtain ⟨s1, b1, s2, b2, e1, _, _, e4, _⟩ := prd_run hd he h0 h1
  rw [← e4]
  have key : ∀ k s b, pr1 n fd fe pmt pen 17 (fun _ => 0, 0) k = some (s, b) → ∀ i, 0 ≤ s.1 i ∧ s.1 i < 2 * n := by
    intro k
    induction k with
    | zero => intro s b h i; simp [pr1] at h; rw [← h.1]; simp; omega
    | succ k ih =>
      intro s b h
      simp only [pr1] at h
      cases h1 : pr1 n fd fe pmt pen 17 (fun _ => 0, 0) k with
      | none => simp [h1] at h
      | some x =>
        obtain ⟨s3, b3⟩ := x
        have hi := ih s3 b3 h1
        rw [h1] at h
        simp only at h
        split at h
        · simp at h
        · rename_i s4 b4 r4 f1
          split at h
          · simp at h
          · rename_i s5 b5 r5 f2
            simp only [Option.some.injEq, Prod.mk.injEq] at h
            rw [← h.1]
            have q1 := fol_pmt _ _ _ _ _ _ _ _ f1
            have q2 := fol_pmt _ _ _ _ _ _ _ _ f2
            have r1 := fol_out_bd hd he h0 _ _ _ _ _ _ _ _ f1
            have r2 := fol_out_bd hd he h0 _ _ _ _ _ _ _ _ f2
            intro i
            simp only [pen, q2, q1, fset]
            rw [wrap8_id (by omega) (by omega), wrap8_id (by omega) (by omega)]
            have := hi i
            split
            · omega
            · split <;> omega
  exact key n s1 b1 e1

/-- A diagram acts on a half diagram: the half, empty where open points are lost; the loops. -/
def actH (n : Nat) (f : Nat → Int) (a : List UInt8) (oa : Nat → Int) : List UInt8 := uby (hss n (prd n f (ohf n oa oa (opn a n) (opn a n))).1 0 n)
def actL (n : Nat) (f : Nat → Int) (a : List UInt8) (oa : Nat → Int) : Nat := (prd n f (ohf n oa oa (opn a n) (opn a n))).2
def actR (n : Nat) (f : Nat → Int) (a : List UInt8) (oa : Nat → Int) : List UInt8 := if (opn (actH n f a oa) n).length < (opn a n).length then [] else actH n f a oa

@[simp] theorem actH_len (n : Nat) (f : Nat → Int) (a : List UInt8) (oa : Nat → Int) : (actH n f a oa).length = n := by simp [actH]

theorem acted_c (p n : Nat) (f : Nat → Int) (a : List UInt8) (oa : Nat → Int) (h0 : 1 ≤ n) (h8 : n ≤ 8) (hf : Ln n f) (ha : a.length = n) (ea : ast (sb a) n = some (oa, [])) (hg : Ln n (ohf n oa oa (opn a n) (opn a n)))
    (m : List AO) (K : AV → List AO → Prop) (hp : content m p 0 = some (dg n f)) (hk : K (.tup [Str (actR n f a oa), I (actL n f a oa)]) m) : ACalls Try.prog 17 [.ptr p 0 0, Str a] m K := by
  refine ACalls.enter Try.func17 rfl rfl Try.ntmps17 (congrArg Array.toList Try.results17) (by simp) fun hc => ?_
  have hcl : Closed m := ‹_›
  have hpl := content_lt hp
  have pb := prd_bd hf hg h0 h8
  simp (disch := omega)
  refine go_drawn3 [(11, 6)] (by kernel_rfl) (by kernel_rfl) ?_
  simp (disch := omega) [hp]
  refine goCall_e rfl (fun m2 => ofHalves_c n a a oa oa h0 h8 ha ha ea ea rfl m2 _ ⟨rfl, rfl⟩) ?_
  simp (disch := omega)
  refine goCall_e rfl (fun m2 => times_k hf hg h0 h8 m2 _ ⟨rfl, rfl⟩) ?_
  have hne : ¬ p = m.length := by omega
  simp (disch := omega) [hne]
  refine goCall_n rfl (halfOf_c m.length n 0 (prd n f (ohf n oa oa (opn a n) (opn a n))).1 _ _ (by simp (disch := omega)) h0 h8 (by omega) (fun i => by have := pb i; omega) ?_)
  rw [show uby (hss n (prd n f (ohf n oa oa (opn a n) (opn a n))).1 0 n) = actH n f a oa from rfl, show (prd n f (ohf n oa oa (opn a n) (opn a n))).2 = actL n f a oa from rfl]
  simp (disch := omega)
  refine goCall_n rfl (openPoints_c (actH n f a oa) _ _ (by simp; omega) ?_)
  simp (disch := omega)
  refine goCall_n rfl (openPoints_c a _ _ (by omega) ?_)
  have l1 := opn_le (actH n f a oa) n
  have l2 := opn_le a n
  simp (disch := omega) [ha]
  unfold actR at hk
  by_cases hlt : (opn (actH n f a oa) n).length < (opn a n).length
  · rw [if_pos hlt] at hk
    have hd : decide (((opn (actH n f a oa) n).length : Int) < ((opn a n).length : Int)) = true := by rw [decide_eq_true_iff]; omega
    simp (disch := omega) [hd, hlt]
    exact dropE (n := m.length) m _ rfl (Nat.le_refl _) hcl (by simp [AV.sc, scs]) hk
  · rw [if_neg hlt] at hk
    have hd : decide (((opn (actH n f a oa) n).length : Int) < ((opn a n).length : Int)) = false := by rw [decide_eq_false_iff_not]; omega
    simp (disch := omega) [hd, hlt]
    exact dropE (n := m.length) m _ rfl (Nat.le_refl _) hcl (by simp [AV.sc, scs]) hk

theorem l04Act_c (n : Nat) (f : Nat → Int) (a : List UInt8) (oa : Nat → Int) (h0 : 1 ≤ n) (h8 : n ≤ 8) (hf : Ln n f) (ha : a.length = n) (ea : ast (sb a) n = some (oa, [])) (hg : Ln n (ohf n oa oa (opn a n) (opn a n))) (hle : (opn (actH n f a oa) n).length ≤ (opn a n).length)
    (m : List AO) (K : AV → List AO → Prop) (hk : K (.tup [Str (actR n f a oa), I (actL n f a oa)]) m) : ACalls Try.prog 27 [.agg (dg n f), Str a] m K := by
  refine ACalls.enter Try.func27 rfl rfl Try.ntmps27 (congrArg Array.toList Try.results27) (by simp) fun hc => ?_
  have hcl : Closed m := ‹_›
  have pb := prd_bd hf hg h0 h8
  simp (disch := omega)
  refine go_drawn3 [(2, 6)] (by kernel_rfl) (by kernel_rfl) ?_
  simp (disch := omega)
  refine goCall_e rfl (fun m2 => l04Diagram_c n a a oa oa h0 h8 ha ha ea ea rfl m2 _ ⟨rfl, rfl⟩) ?_
  simp (disch := omega)
  refine goCall_e rfl (fun m2 => l01Times_k hf hg h0 h8 m2 _ ⟨rfl, rfl⟩) ?_
  simp (disch := omega)
  refine goCall_n rfl (l04Half_c n (prd n f (ohf n oa oa (opn a n) (opn a n))).1 _ _ h0 h8 (fun i => by have := pb i; omega) (fun i _ => (pb i).2) ?_)
  rw [show uby (hss n (prd n f (ohf n oa oa (opn a n) (opn a n))).1 0 n) = actH n f a oa from rfl, show (prd n f (ohf n oa oa (opn a n) (opn a n))).2 = actL n f a oa from rfl]
  simp (disch := omega)
  refine goCall_n rfl (l04Open_c (actH n f a oa) _ _ (by simp; omega) ?_)
  simp (disch := omega)
  refine goCall_n rfl (l04Open_c a _ _ (by omega) ?_)
  simp (disch := omega) [ha]
  unfold actR at hk
  by_cases hlt : (opn (actH n f a oa) n).length < (opn a n).length
  · rw [if_pos hlt] at hk
    have hd : decide (((opn (actH n f a oa) n).length : Int) = ((opn a n).length : Int)) = false := by rw [decide_eq_false_iff_not]; omega
    simp (disch := omega) [hd]
    exact dropE (n := m.length) m _ rfl (Nat.le_refl _) hcl (by simp [AV.sc, scs]) hk
  · rw [if_neg hlt] at hk
    have hd : decide (((opn (actH n f a oa) n).length : Int) = ((opn a n).length : Int)) = true := by rw [decide_eq_true_iff]; omega
    simp (disch := omega) [hd]
    exact dropE (n := m.length) m _ rfl (Nat.le_refl _) hcl (by simp [AV.sc, scs]) hk

end Go.Proofs.Ytkpjaffbbppneaa

/- Cell tables: the given side. -/
namespace Go.Proofs.Ytkpjaffbbppneaa
open Go Go.RowKit

/-- Rows of numbers, object by object; their addresses. -/
def rowsO (N : Nat) (R : Nat → Nat → Int) (k : Nat) : List AO := (List.range k).map fun i => .cells (arr N (R i)) 0 1
def refs (B N k : Nat) : List AV := (List.range k).map fun i => .slice (B + i) 0 N 0
@[simp] theorem rowsO_len (N : Nat) (R : Nat → Nat → Int) (k : Nat) : (rowsO N R k).length = k := by simp [rowsO]
@[simp] theorem refs_len (B N k : Nat) : (refs B N k).length = k := by simp [refs]
theorem rowsO_succ (N : Nat) (R : Nat → Nat → Int) (k : Nat) : rowsO N R (k + 1) = rowsO N R k ++ [.cells (arr N (R k)) 0 1] := by simp [rowsO, List.range_succ]
theorem refs_succ (B N k : Nat) : refs B N (k + 1) = refs B N k ++ [.slice (B + k) 0 N 0] := by simp [refs, List.range_succ]
theorem refs_take (B N k : Nat) : (refs B N k).take k = refs B N k := take_len (by simp)
theorem rows_c (N : Nat) (R : Nat → Nat → Int) (k g : Nat) (l : List AO) : content (rowsO N R k ++ l) k g = content l 0 g := by simp [content, List.getElem?_append_right]
theorem rows_c1 (N : Nat) (R : Nat → Nat → Int) (k j g : Nat) (l : List AO) : content (rowsO N R k ++ l) (k + j) g = content l j g := by simp [content, List.getElem?_append_right]
theorem rows_g (N : Nat) (R : Nat → Nat → Int) (k : Nat) (l : List AO) : (rowsO N R k ++ l)[k]? = l[0]? := by simp [List.getElem?_append_right]
theorem rows_s (N : Nat) (R : Nat → Nat → Int) (k : Nat) (l : List AO) (o : AO) : (rowsO N R k ++ l).set k o = rowsO N R k ++ l.set 0 o := by simp [List.set_append]
theorem rowsO_sc (N : Nat) (R : Nat → Nat → Int) (k L : Nat) : ∀ o ∈ rowsO N R k, o.sc L = true := by
  intro o ho; simp only [rowsO, List.mem_map] at ho; obtain ⟨j, _, rfl⟩ := ho; simp [AO.sc]
theorem refs_sc (B N k L : Nat) (h : B + k ≤ L) : scs L (refs B N k) = true := by
  refine scs_mem fun x hx => ?_
  simp only [refs, List.mem_map, List.mem_range] at hx
  obtain ⟨j, hj, rfl⟩ := hx
  simp [AV.sc]; omega
theorem rows_get (N : Nat) (R : Nat → Nat → Int) (k i : Nat) (h : i < k) (l : List AO) : (rowsO N R k ++ l)[i]? = some (.cells (arr N (R i)) 0 1) := by
  rw [List.getElem?_append_left (by simpa using h)]; simp [rowsO, h]
theorem refs_at (B N k i : Nat) (h : i < k) : (refs B N k)[i]? = some (.slice (B + i) 0 N 0) := by simp [refs, h]

def arcF (n : Nat) (a : List UInt8) : Nat → Int := match ast (sb a) n with
  | some (o, _) => o
  | none => fun _ => 0
def AR (n : Nat) (f : Nat → Int) (a : List UInt8) : List UInt8 := actR n f a (arcF n a)
def AL (n : Nat) (f : Nat → Int) (a : List UInt8) : Nat := actL n f a (arcF n a)

/-- What the walks need of a list of half diagrams. -/
structure HGood (n : Nat) (f : Nat → Int) (L : List (List UInt8)) : Prop where
  n0 : 1 ≤ n
  n6 : n ≤ 6
  ln : Ln n f
  len : L.length ≤ 100
  nd : L.Nodup
  each : ∀ a ∈ L, a.length = n ∧ ast (sb a) n = some (arcF n a, []) ∧ Ln n (ohf n (arcF n a) (arcF n a) (opn a n) (opn a n)) ∧ (opn (actH n f a (arcF n a)) n).length ≤ (opn a n).length ∧ (AR n f a ≠ [] → AR n f a ∈ L)

/-- A row of a cell table. -/
def ctR (p c : Int) (n : Nat) (f : Nat → Int) (L : List (List UInt8)) (i j : Nat) : Int := if L[j]? = some (AR n f (L.getD i [])) then pw c p (AL n f (L.getD i [])) else 0

theorem idx_row {L : List (List UInt8)} (hnd : L.Nodup) {b : List UInt8} (hb : b ∈ L) : ∃ j : Nat, idxS L b = (j : Int) ∧ j < L.length ∧ ∀ (v : Int) x, x < L.length → fset (fun _ => 0) j v x = if L[x]? = some b then v else 0 := by
  have hs : (L.findIdx? (fun x => b == x)).isSome = true := by
    rw [List.findIdx?_isSome, List.any_eq_true]; exact ⟨b, hb, by simp⟩
  obtain ⟨j, hj⟩ := Option.isSome_iff_exists.1 hs
  have h1 := List.findIdx?_eq_some_iff_getElem.1 hj
  obtain ⟨hlt, he, _⟩ := h1
  have he : b = L[j] := by simpa using he
  refine ⟨j, by simp [idxS, hj], hlt, fun v x hx => ?_⟩
  rw [List.getElem?_eq_getElem hx, fset]
  by_cases e : x = j
  · subst e; rw [if_pos rfl, if_pos (by rw [he])]
  · rw [if_neg e, if_neg]
    intro h
    simp only [Option.some.injEq] at h
    rw [he] at h
    have hp := List.pairwise_iff_getElem.1 hnd
    rcases Nat.lt_trichotomy x j with hlt2 | e2 | hlt2
    · exact hp x j hx hlt hlt2 h
    · exact e e2
    · exact hp j x hlt hx hlt2 h.symm
theorem arr_congr {N : Nat} {f g : Nat → Int} (h : ∀ i, i < N → f i = g i) : arr N f = arr N g := List.map_congr_left fun i hi => by rw [h i (by simpa using hi)]

def ctM (m : List AO) (n k : Nat) (f : Nat → Int) (L : List (List UInt8)) : List AO := m ++ [.cells (dg n f) 0 1, .cells (dg n f) 0 17, .cells [I n] 0 1, .cells (strs L) L.length 1]

def ctK (p c : Int) (n k : Nat) (f : Nat → Int) (L : List (List UInt8)) (m : List AO) (K : AV → List AO → Prop) : Prop :=
  K (.tup [.slice (m.length + 4) 0 L.length L.length, I 0]) (ctM m n k f L ++ .cells (refs (m.length + 5) L.length L.length) L.length 1 :: rowsO L.length (ctR p c n f L) L.length)

set_option maxHeartbeats 4000000 in
theorem CellTable_c (p c : Int) (n k : Nat) (f : Nat → Int) (m : List AO) (K : AV → List AO → Prop) (hfb : ∀ i, 0 ≤ f i ∧ f i ≤ 255) (hd : isD n f = true) (hF : isF p c = true) (hR : okR n k 6 = true) (hk8 : k ≤ 8) (hG : HGood n f (hvs n [] 0 k))
    (hk : ctK p c n k f (hvs n [] 0 k) m K) : ACalls Try.prog 6 [I p, I c, .agg (dg n f), I k] m K := by
  refine ACalls.enter Try.func6 rfl rfl Try.ntmps6 (congrArg Array.toList Try.results6) (by simp) fun hc => ?_
  have hcl : Closed m := ‹_›
  obtain ⟨h0, h6, hln, hlen, hnd, each⟩ := hG
  have hdgs : dg (n : Int) f = dgs [((n : Int), f)] := by simp [dgs]
  simp (disch := omega)
  refine goCall_n rfl (invalid_c (m.length + 1) 0 [((n : Int), f)] _ _ (by simp (disch := omega) [hdgs]) (by simp) (by simpa using hfb) ?_)
  have hif : (if ([((n : Int), f)].all fun d => isD d.1 d.2) = true then (0 : Int) else 1) = 0 := by simp [hd]
  rw [hif]
  simp (disch := omega)
  refine goCall_n rfl (tableOk_c _ _ _ _ _ _ ?_)
  rw [hF, hR]
  simp (disch := omega)
  refine goCall_n rfl (n_c m.length n f _ _ (by simp (disch := omega)) ?_)
  simp (disch := omega)
  refine goCall_n rfl (halves_c n k _ _ (by omega) hk8 (by omega) ?_)
  obtain ⟨L, hL⟩ : ∃ L, L = hvs n [] 0 k := ⟨_, rfl⟩
  rw [← hL] at hlen hnd each hk ⊢
  have hst : m ++ [AO.cells (dg n f) 0 1, .cells (dg n f) 0 17, .cells [I n] 0 1, .cells (strs L) L.length 1, .cells [] 0 1] = ctM m n k f L ++ .cells (refs (m.length + 5) L.length 0) 0 1 :: rowsO L.length (ctR p c n f L) 0 := by simp [ctM, refs, rowsO]
  have hl4 : (ctM m n k f L).length = m.length + 4 := by simp [ctM]
  have cL : ∀ l, content (ctM m n k f L ++ l) (m.length + 3) L.length = some (strs L) := fun l => by simp only [ctM]; simp (disch := omega)
  have cd : ∀ l, content (ctM m n k f L ++ l) m.length 0 = some (dg n f) := fun l => by simp only [ctM]; simp (disch := omega)
  have hcM : Closed (ctM m n k f L) := hcl.app (by simp [AO.sc, scs, AV.sc])
  simp (disch := omega) [Nat.add_assoc, aLen]
  rw [hst]
  have pb := isP_bd (show isP p = true by simp only [isF, Bool.and_eq_true] at hF; exact hF.1)
  have cb : 0 ≤ c ∧ c ≤ 100 := by simp only [isF, Bool.and_eq_true, decide_eq_true_eq] at hF; omega
  obtain ⟨M4, hM4⟩ : ∃ M4, M4 = ctM m n k f L := ⟨_, rfl⟩
  unfold ctK at hk
  rw [← hM4] at hl4 cL cd hcM hk ⊢
  have e5 : m.length + 5 = M4.length + 1 := by omega
  have e4 : m.length + 4 = M4.length := by omega
  rw [e5, e4] at hk
  rw [e5, e4]
  refine go_loop (α := {i : Nat // i ≤ L.length}) (fun i => mkE [(0, I p), (1, I c), (6, .ptr m.length 0 0), (10, .slice (m.length + 3) 0 L.length L.length), (11, .slice M4.length 0 i.1 i.1), (34, .slice (m.length + 3) 0 L.length L.length), (35, I L.length), (36, I i.1)])
    (fun i => M4 ++ .cells (refs (M4.length + 1) L.length i.1) i.1 1 :: rowsO L.length (ctR p c n f L) i.1) (fun i => L.length - i.1) ⟨0, Nat.zero_le _⟩ (Wk.same rfl (by simp (disch := omega))) (fun ⟨i, hi⟩ => ?_)
  by_cases hc : i < L.length
  · obtain ⟨ha1, ha2, ha3, ha4, ha5⟩ := each L[i] (List.getElem_mem hc)
    have hnl : ¬ L.length = 0 := by omega
    simp (disch := omega) [hc, cL, strs_at, aLen, arr_zero]
    refine goCall_n rfl (acted_c m.length n f L[i] (arcF n L[i]) h0 (by omega) hln ha1 ha2 ha3 _ _ (by simp (disch := omega) [cd]) ?_)
    rw [show actR n f L[i] (arcF n L[i]) = AR n f L[i] from rfl, show actL n f L[i] (arcF n L[i]) = AL n f L[i] from rfl]
    have hlb : AL n f L[i] ≤ 1000 := by
      obtain ⟨_, _, _, _, _, _, e3, _⟩ := prd_run hln ha3 h0 (show n ≤ 8 by omega)
      have := rl2_le _ _ _ e3
      show (prd n f _).2 ≤ 1000
      omega
    have hgd : L.getD i [] = L[i] := by rw [List.getD_eq_getElem?_getD, List.getElem?_eq_getElem hc]; rfl
    have row : ∀ (g : Nat → Int), (∀ x, x < L.length → g x = ctR p c n f L i x) → ∀ (tl : List AO) env, allE env [(0, I p), (1, I c), (6, .ptr m.length 0 0), (10, .slice (m.length + 3) 0 L.length L.length), (11, .slice M4.length 0 (i + 1) (i + 1)), (34, .slice (m.length + 3) 0 L.length L.length), (35, I L.length), (36, I (i + 1))] →
        ∃ x' : {i : Nat // i ≤ L.length}, Wk m.length env (M4 ++ .cells (refs (M4.length + 1) L.length i ++ [.slice (M4.length + (i + 1)) 0 L.length 0]) (i + 1) 1 :: (rowsO L.length (ctR p c n f L) i ++ .cells (arr L.length g) 0 1 :: tl)) (mkE [(0, I p), (1, I c), (6, .ptr m.length 0 0), (10, .slice (m.length + 3) 0 L.length L.length), (11, .slice M4.length 0 x'.1 x'.1), (34, .slice (m.length + 3) 0 L.length L.length), (35, I L.length), (36, I x'.1)])
          (M4 ++ .cells (refs (M4.length + 1) L.length x'.1) x'.1 1 :: rowsO L.length (ctR p c n f L) x'.1) ∧ L.length - x'.1 < L.length - i := by
      intro g hg tl env he
      refine ⟨⟨i + 1, hc⟩, Wk.cut (.cells (refs (M4.length + 1) L.length (i + 1)) (i + 1) 1 :: rowsO L.length (ctR p c n f L) (i + 1)) tl ?_ rfl he (by omega) (hcM.app ?_) (by simp [allS, AV.sc]; omega), by simp; omega⟩
      · rw [refs_succ, rowsO_succ, arr_congr hg, show M4.length + 1 + i = M4.length + (i + 1) by omega]; simp
      · intro o ho
        rcases List.mem_cons.1 ho with rfl | ho
        · exact refs_sc _ _ _ _ (by simp; omega)
        · exact rowsO_sc _ _ _ _ o ho
    cases hne : (AR n f L[i]) with
    | nil =>
      simp (disch := omega) [cL, aLen, rows_c, rows_c1, rows_g, rows_s, refs_take]
      exact row (fun _ => 0) (fun x hx => by
        unfold ctR
        rw [hgd, hne, if_neg]
        intro h
        obtain ⟨hx2, hx3⟩ := List.getElem?_eq_some_iff.1 h
        have := (each L[x] (List.getElem_mem hx)).1
        rw [hx3] at this; simp at this; omega) [_] _ (by simp (disch := omega))
    | cons b0 bt =>
      rw [← hne]
      have hbn : AR n f L[i] ≠ [] := by rw [hne]; simp
      have hemp : (AR n f L[i]).isEmpty = false := by rw [hne]; rfl
      obtain ⟨j, hj1, hj2, hj3⟩ := idx_row hnd (ha5 hbn)
      simp (disch := omega) [hemp]
      refine goCall_n rfl (indexS_c (m.length + 3) L.length L (AR n f L[i]) _ _ (by simp (disch := omega) [cL]) (by omega) ?_)
      rw [hj1]
      simp (disch := omega)
      refine goCall_n rfl (power_c c p (AL n f L[i]) _ _ pb (by omega) (by omega) ?_)
      simp (disch := omega) [cL, aLen, hj2, rows_c, rows_c1, rows_g, rows_s, refs_take]
      exact row (fset (fun _ => 0) j (pw c p (AL n f L[i]))) (fun x hx => by rw [hj3 _ x hx, ctR, hgd]) [_] _ (by simp (disch := omega))
  · have e : i = L.length := by omega
    subst e
    simp (disch := omega) [hc]
    exact keep hk

/-- The code of p, c, a diagram and k. -/
def ctC (p c n k : Int) (f : Nat → Int) : Int := if isD n f = true then (if (isF p c && okR n k 6) = true then 0 else 2) else 1

theorem CellTable_bad (p c n k : Int) (f : Nat → Int) (m : List AO) (K : AV → List AO → Prop) (hfb : ∀ i, 0 ≤ f i ∧ f i ≤ 255) (hne : ctC p c n k f ≠ 0) (hk : K (.tup [.s (.slice none 0 0), I (ctC p c n k f)]) m) : ACalls Try.prog 6 [I p, I c, .agg (dg n f), I k] m K := by
  refine ACalls.enter Try.func6 rfl rfl Try.ntmps6 (congrArg Array.toList Try.results6) (by simp) fun hc => ?_
  have hcl : Closed m := ‹_›
  have hdgs : dg n f = dgs [(n, f)] := by simp [dgs]
  simp (disch := omega)
  refine goCall_n rfl (invalid_c (m.length + 1) 0 [(n, f)] _ _ (by simp (disch := omega) [hdgs]) (by simp) (by simpa using hfb) ?_)
  unfold ctC at hk hne
  by_cases hd : isD n f = true
  · have hif : (if ([(n, f)].all fun d => isD d.1 d.2) = true then (0 : Int) else 1) = 0 := by simp [hd]
    rw [hif]
    rw [if_pos hd] at hk hne
    simp (disch := omega)
    refine goCall_n rfl (tableOk_c _ _ _ _ _ _ ?_)
    by_cases hq : (isF p c && okR n k 6) = true
    · rw [if_pos hq] at hne; exact absurd rfl hne
    · rw [if_neg hq] at hk
      have hq2 : (isF p c && okR n k 6) = false := by simpa using hq
      rw [hq2]
      simp (disch := omega)
      exact dropE (n := m.length) m _ rfl (Nat.le_refl _) hcl (by simp [AV.sc, scs]) hk
  · have hif : (if ([(n, f)].all fun d => isD d.1 d.2) = true then (0 : Int) else 1) = 1 := by simp [hd]
    rw [hif]
    rw [if_neg hd] at hk
    simp (disch := omega)
    exact dropE (n := m.length) m _ rfl (Nat.le_refl _) hcl (by simp [AV.sc, scs]) hk

end Go.Proofs.Ytkpjaffbbppneaa

/- Cell tables: the reference's side. -/
namespace Go.Proofs.Ytkpjaffbbppneaa
open Go Go.RowKit

theorem l04Code_c (p c n k : Int) (f : Nat → Int) (m : List AO) (K : AV → List AO → Prop) (hfb : ∀ i, 0 ≤ f i ∧ f i ≤ 255) (hk : K (I (ctC p c n k f)) m) : ACalls Try.prog 10 [I p, I c, .agg (dg n f), I k] m K := by
  refine ACalls.enter Try.func10 rfl rfl Try.ntmps10 (congrArg Array.toList Try.results10) (by simp) fun hc => ?_
  have hcl : Closed m := ‹_›
  simp (disch := omega)
  refine goCall_n rfl (l01Is_c n f _ _ hfb ?_)
  rw [← isD_eq_isS n f hfb]
  unfold ctC at hk
  cases hd : isD n f with
  | false =>
    rw [hd, if_neg (by simp)] at hk
    simp (disch := omega)
    exact dropE (n := m.length) m _ rfl (Nat.le_refl _) hcl (by simp [AV.sc, scs]) hk
  | true =>
    rw [hd, if_pos rfl] at hk
    simp (disch := omega)
    refine goCall_n rfl (l04Numbers_c _ _ _ _ ?_)
    cases hF : isF p c with
    | false =>
      rw [hF, Bool.false_and, if_neg (by simp)] at hk
      simp (disch := omega)
      exact dropE (n := m.length) m _ rfl (Nat.le_refl _) hcl (by simp [AV.sc, scs]) hk
    | true =>
      simp (disch := omega)
      refine goCall_n rfl (l04Range_c _ _ _ _ _ (by omega) ?_)
      rw [hF, Bool.true_and] at hk
      cases hR : okR n k 6 with
      | false =>
        rw [hR, if_neg (by simp)] at hk
        simp (disch := omega)
        exact dropE (n := m.length) m _ rfl (Nat.le_refl _) hcl (by simp [AV.sc, scs]) hk
      | true =>
        rw [hR, if_pos rfl] at hk
        simp (disch := omega)
        exact dropE (n := m.length) m _ rfl (Nat.le_refl _) hcl (by simp [AV.sc, scs]) hk

def rcM (m : List AO) (n : Nat) (f : Nat → Int) (L : List (List UInt8)) : List AO := (m ++ [.cells (dg n f) 0 1]) ++ oldR (n + 1) ++ [.cells (strs L) L.length 1]

set_option maxHeartbeats 4000000 in
theorem l04Cell_c (p c : Int) (n k : Nat) (f : Nat → Int) (m : List AO) (K : AV → List AO → Prop) (hF : isF p c = true) (hk8 : k ≤ 8) (hG : HGood n f (rhv n k))
    (hk : K (.slice (rcM m n f (rhv n k)).length 0 (rhv n k).length (rhv n k).length) (rcM m n f (rhv n k) ++ .cells (refs ((rcM m n f (rhv n k)).length + 1) (rhv n k).length (rhv n k).length) (rhv n k).length 1 :: rowsO (rhv n k).length (ctR p c n f (rhv n k)) (rhv n k).length)) : ACalls Try.prog 11 [I p, I c, .agg (dg n f), I k] m K := by
  refine ACalls.enter Try.func11 rfl rfl Try.ntmps11 (congrArg Array.toList Try.results11) (by simp) fun hc => ?_
  have hcl : Closed m := ‹_›
  obtain ⟨h0, h6, hln, hlen, hnd, each⟩ := hG
  have pb := isP_bd (show isP p = true by simp only [isF, Bool.and_eq_true] at hF; exact hF.1)
  have cb : 0 ≤ c ∧ c ≤ 100 := by simp only [isF, Bool.and_eq_true, decide_eq_true_eq] at hF; omega
  simp (disch := omega)
  refine goCall_n rfl (l04Halves_c n k _ _ (by omega) hk8 ?_)
  obtain ⟨L, hL⟩ : ∃ L, L = rhv n k := ⟨_, rfl⟩
  rw [← hL] at hlen hnd each hk ⊢
  obtain ⟨M4, hM4⟩ : ∃ M4, M4 = rcM m n f L := ⟨_, rfl⟩
  have hb : ((m ++ [AO.cells (dg n f) 0 1]) ++ oldR (n + 1)).length + 1 = M4.length := by rw [hM4, rcM]; simp; omega
  have hcM : Closed M4 := by
    rw [hM4, rcM, List.append_assoc, List.append_assoc]
    refine hcl.app fun o ho => ?_
    rcases List.mem_append.1 ho with ho | ho
    · simp at ho; subst ho; simp [AO.sc]
    · rcases List.mem_append.1 ho with ho | ho
      · exact oldR_sc _ _ o ho
      · simp at ho; subst ho; simp [AO.sc]
  obtain ⟨P4, hP4⟩ : ∃ P4, P4 = (m ++ [AO.cells (dg n f) 0 1]) ++ oldR (n + 1) := ⟨_, rfl⟩
  have hMP : M4 = P4 ++ [.cells (strs L) L.length 1] := by rw [hM4, hP4]; rfl
  rw [← hP4] at hb ⊢
  rw [← hMP]
  have cL : ∀ l, content (M4 ++ l) P4.length L.length = some (strs L) := fun l => by rw [hMP, List.append_assoc]; simp (disch := omega)
  have hml : m.length < M4.length := by rw [hM4, rcM]; simp
  have cd : ∀ l, content (M4 ++ l) m.length 0 = some (dg n f) := fun l => by rw [hM4, rcM, List.append_assoc, List.append_assoc, List.append_assoc]; simp (disch := omega)
  rw [← hM4] at hk
  have hst : M4 ++ [AO.cells [] 0 1] = M4 ++ .cells (refs (M4.length + 1) L.length 0) 0 1 :: rowsO L.length (ctR p c n f L) 0 := by simp [refs, rowsO]
  simp (disch := omega)
  rw [hst]
  refine go_loop (α := {i : Nat // i ≤ L.length}) (fun i => mkE [(0, I p), (1, I c), (6, .ptr m.length 0 0), (9, .slice P4.length 0 L.length L.length), (10, .slice M4.length 0 i.1 i.1), (11, I i.1)])
    (fun i => M4 ++ .cells (refs (M4.length + 1) L.length i.1) i.1 1 :: rowsO L.length (ctR p c n f L) i.1) (fun i => L.length - i.1) ⟨0, Nat.zero_le _⟩ (Wk.same rfl (by simp (disch := omega))) (fun ⟨i, hi⟩ => ?_)
  by_cases hc : i < L.length
  · obtain ⟨ha1, ha2, ha3, ha4, ha5⟩ := each L[i] (List.getElem_mem hc)
    have hnl : ¬ L.length = 0 := by omega
    have hgd : L.getD i [] = L[i] := by rw [List.getD_eq_getElem?_getD, List.getElem?_eq_getElem hc]; rfl
    have hlb : AL n f L[i] ≤ 1000 := by
      obtain ⟨_, _, _, _, _, _, e3, _⟩ := prd_run hln ha3 h0 (show n ≤ 8 by omega)
      have := rl2_le _ _ _ e3
      show (prd n f _).2 ≤ 1000
      omega
    simp (disch := omega) [hc, cL, strs_at, aLen, arr_zero]
    refine go_drawn [] false (by kernel_rfl) (by kernel_rfl) ?_
    simp (disch := omega) [hc, cL, cd, strs_at]
    refine goCall_q rfl (l04Act_c n f L[i] (arcF n L[i]) h0 (by omega) hln ha1 ha2 ha3 ha4 _ _ ⟨rfl, rfl⟩) ?_
    rw [show actR n f L[i] (arcF n L[i]) = AR n f L[i] from rfl, show actL n f L[i] (arcF n L[i]) = AL n f L[i] from rfl]
    simp (disch := omega)
    obtain ⟨G, hG⟩ : ∃ G : Nat → Nat → Int, G = fun j x => if x < j ∧ L[x]? = some (AR n f L[i]) then pw c p (AL n f L[i]) else 0 := ⟨_, rfl⟩
    have G0 : arr L.length (fun _ => 0) = arr L.length (G 0) := arr_congr fun x _ => by rw [hG]; simp
    rw [G0]
    refine go_loop (α := {j : Nat // j ≤ L.length}) (fun j => mkE [(0, I p), (1, I c), (6, .ptr m.length 0 0), (9, .slice P4.length 0 L.length L.length), (10, .slice M4.length 0 i i), (11, I i), (12, .slice (M4.length + (i + 1)) 0 L.length 0), (13, Str (AR n f L[i])), (14, I (AL n f L[i])), (15, I j.1)])
      (fun j => M4 ++ .cells (refs (M4.length + 1) L.length i) i 1 :: (rowsO L.length (ctR p c n f L) i ++ [.cells (arr L.length (G j.1)) 0 1])) (fun j => L.length - j.1) ⟨0, Nat.zero_le _⟩ (Wk.same (by simp) (by simp (disch := omega))) (fun ⟨j, hj⟩ => ?_)
    by_cases hc2 : j < L.length
    · cases he : (L[j] == AR n f L[i]) with
      | true =>
        have he2 : L[j] = AR n f L[i] := by simpa using he
        have Gn : arr L.length (fset (G j) j (pw c p (AL n f L[i]))) = arr L.length (G (j + 1)) := arr_congr fun x hx => by
          rw [hG]; simp only [fset]
          by_cases e : x = j
          · subst e; rw [if_pos rfl, if_pos ⟨by omega, by rw [List.getElem?_eq_getElem hx, he2]⟩]
          · rw [if_neg e]
            by_cases h2 : x < j ∧ L[x]? = some (AR n f L[i])
            · rw [if_pos h2, if_pos ⟨by omega, h2.2⟩]
            · rw [if_neg h2, if_neg (fun h => h2 ⟨by omega, h.2⟩)]
        simp (disch := omega) [hc2, cL, strs_at, aLen, str_list, he]
        refine goCall_n rfl (l02Power_c c p (AL n f L[i]) _ _ pb (by omega) (by omega) ?_)
        simp (disch := omega) [hc2, rows_c, rows_c1, rows_g, rows_s]
        exact ⟨⟨j + 1, hc2⟩, Wk.same (by rw [Gn]) (by simp (disch := omega)), by simp; omega⟩
      | false =>
        have he2 : ¬ L[j] = AR n f L[i] := by simpa using he
        have Gn : arr L.length (G j) = arr L.length (G (j + 1)) := arr_congr fun x hx => by
          rw [hG]; simp only
          by_cases e : x = j
          · subst e
            rw [if_neg (by omega), if_neg]
            intro h
            rw [List.getElem?_eq_getElem hx] at h
            exact he2 (Option.some.inj h.2)
          · by_cases h2 : x < j ∧ L[x]? = some (AR n f L[i])
            · rw [if_pos h2, if_pos ⟨by omega, h2.2⟩]
            · rw [if_neg h2, if_neg (fun h => h2 ⟨by omega, h.2⟩)]
        simp (disch := omega) [hc2, cL, strs_at, aLen, str_list, he]
        exact ⟨⟨j + 1, hc2⟩, Wk.same (by rw [Gn]) (by simp (disch := omega)), by simp; omega⟩
    · have e : j = L.length := by omega
      subst e
      have Gn : arr L.length (G L.length) = arr L.length (ctR p c n f L i) := arr_congr fun x hx => by
        rw [hG]; simp only [ctR, hgd]
        by_cases h2 : L[x]? = some (AR n f L[i])
        · rw [if_pos h2, if_pos ⟨hx, h2⟩]
        · rw [if_neg h2, if_neg (fun h => h2 h.2)]
      simp (disch := omega) [hc2, cL, aLen, rows_c, rows_c1, rows_g, rows_s, refs_take]
      refine ⟨⟨i + 1, hc⟩, Wk.cut (.cells (refs (M4.length + 1) L.length (i + 1)) (i + 1) 1 :: rowsO L.length (ctR p c n f L) (i + 1)) [.cells [.slice (M4.length + (i + 1)) 0 L.length 0] 0 1] ?_ rfl (by simp (disch := omega)) (by show m.length ≤ M4.length; omega) (hcM.app ?_) (by simp [allS, AV.sc]; omega), by simp; omega⟩
      · rw [refs_succ, rowsO_succ, ← Gn, show M4.length + 1 + i = M4.length + (i + 1) by omega]; simp
      · intro o ho
        rcases List.mem_cons.1 ho with rfl | ho
        · exact refs_sc _ _ _ _ (by simp; omega)
        · exact rowsO_sc _ _ _ _ o ho
  · have e : i = L.length := by omega
    subst e
    simp (disch := omega) [hc, cL, aLen]
    exact keep hk

end Go.Proofs.Ytkpjaffbbppneaa

/- Lists of half diagrams of at most six points are as the walks need them (plain). -/
namespace Go.Proofs.Ytkpjaffbbppneaa
open Go Go.RowKit

theorem nd_6 : (List.range 7).all (fun n => (List.range (n + 1)).all fun k => decide ((hvs n [] 0 k).Nodup) && decide ((hvs n [] 0 k).length ≤ 100)) = true := by decide +kernel

theorem nd_all (n k : Nat) (h6 : n ≤ 6) (hk : k ≤ n) : (hvs n [] 0 k).Nodup ∧ (hvs n [] 0 k).length ≤ 100 := by
  have h := nd_6
  rw [List.all_eq_true] at h
  have h1 := h n (List.mem_range.2 (by omega))
  rw [List.all_eq_true] at h1
  have h2 := h1 k (List.mem_range.2 (by omega))
  simpa using h2

theorem pst_txs (n : Int) (f : Nat → Int) (N0 : Nat) : ∀ N, N ≤ N0 → pst (sb (uby (txs n f N0))) N = pst (sg n f) N := by
  intro N
  induction N with
  | zero => intro _; rfl
  | succ N ih =>
    intro hN
    simp only [pst, ih (by omega), sb_txs n f _ _ hN]

theorem oh2_far (n : Nat) (pa pb : List Nat) (f : Nat → Int) (h0 : 1 ≤ n) (ha : ∀ x ∈ pa, x < n) (hb : ∀ x ∈ pb, x < n) (i : Nat) (hi : 2 * n ≤ i) : ∀ k, oh2 n pa pb f k i = f i
  | 0 => rfl
  | k + 1 => by
    have g : ∀ (l : List Nat), (∀ x ∈ l, x < n) → l.getD k 0 < n := by
      intro l hl
      by_cases h : k < l.length
      · exact hl _ (getD_mem h)
      · rw [List.getD_eq_getElem?_getD, List.getElem?_eq_none (by omega)]; exact h0
    have g1 := g pa ha
    have g2 := g pb hb
    simp only [oh2]
    rw [fset_ne _ _ (by omega), fset_ne _ _ (by omega)]
    exact oh2_far n pa pb f h0 ha hb i hi k

theorem ohf_far (n : Nat) (a b : List UInt8) (oa ob : Nat → Int) (h0 : 1 ≤ n) (i : Nat) (hi : 2 * n ≤ i) : ohf n oa ob (opn a n) (opn b n) i = 0 := by
  unfold ohf
  rw [oh2_far n _ _ _ h0 (fun x hx => opn_lt hx) (fun x hx => opn_lt hx) i hi, oh1_val, if_neg (by omega), oh1_val, if_neg (by omega)]

theorem ln_of_b {n : Nat} {f : Nat → Int} (h : LnB n f = true) (hz : ∀ i, 2 * n ≤ i → f i = 0) (h0 : 1 ≤ n) : Ln n f := by
  simp only [LnB, List.all_eq_true, List.mem_range, Bool.and_eq_true, decide_eq_true_eq, beq_iff_eq] at h
  refine ⟨fun i => ?_, fun i hi => (h i hi).2.2.1, fun i hi => (h i hi).2.2.2⟩
  by_cases hi : i < 2 * n
  · exact ⟨(h i hi).1, (h i hi).2.1⟩
  · rw [hz i (by omega)]; omega

theorem hs_sign (n : Nat) (f : Nat → Int) (a i : Nat) : hs n f a i = 124 ∨ hs n f a i = 40 ∨ hs n f a i = 41 := by
  unfold hs; split
  · exact .inl rfl
  · split
    · exact .inr (.inl rfl)
    · exact .inr (.inr rfl)

theorem hvs_mem {n k : Nat} {a : List UInt8} (h0 : 1 ≤ n) (h6 : n ≤ 6) (hk : k ≤ n) (hp : (n - k) % 2 = 0) : a ∈ hvs n [] 0 k ↔ a ∈ all3 n ∧ isH a = true ∧ (opn a a.length).length = k := by
  rw [← lists_all n k h0 h6 hk hp, rhv, List.mem_filter, Bool.and_eq_true, beq_iff_eq]

theorem jn_eq {n : Nat} {f : Nat → Int} (hf16 : ∀ i, 16 ≤ i → f i = 0) (h : isD n f = true) : ∃ out, pst (sg n f) (2 * n) = some (out, []) ∧ f = jn n out (2 * n) := by
  simp only [isD, Bool.and_eq_true, decide_eq_true_eq] at h
  obtain ⟨⟨⟨hn1, hn2⟩, hs⟩, hc⟩ := h
  have eN : (2 * (n : Int)).toNat = 2 * n := by omega
  rw [eN] at hc
  simp only [Int.toNat_natCast] at hc
  cases hp : pst (sg n f) (2 * n) with
  | none => rw [hp] at hc; simp at hc
  | some x =>
    obtain ⟨out, stk⟩ := x
    cases stk with
    | cons i r => rw [hp] at hc; simp at hc
    | nil =>
      rw [hp] at hc
      simp only [List.all_eq_true, List.mem_range, beq_iff_eq] at hc
      refine ⟨out, rfl, ?_⟩
      funext i
      by_cases hi : i < 16
      · exact (hc i hi).symm
      · rw [hf16 i (by omega), jn_val n out (2 * n) (Nat.le_refl _), if_neg (by omega)]

theorem hgood (n k : Nat) (f : Nat → Int) (hf16 : ∀ i, 16 ≤ i → f i = 0) (hd : isD n f = true) (h6 : n ≤ 6) (hk : k ≤ n) (hp : (n - k) % 2 = 0) : HGood n f (hvs n [] 0 k) := by
  obtain ⟨h0, h8, hln⟩ := isD_ln n f hf16 hd
  obtain ⟨nd1, nd2⟩ := nd_all n k h6 hk
  obtain ⟨out, ho, hfe⟩ := jn_eq hf16 hd
  refine ⟨h0, h6, hln, nd2, nd1, fun a ha => ?_⟩
  have hm := (hvs_mem h0 h6 hk hp).1 ha
  have hal := all3_txt n a hm.1
  have hA : a ∈ hvA n := by
    simp only [hvA, List.mem_flatMap, List.mem_range]
    exact ⟨k, by omega, by rw [if_pos hp]; exact ha⟩
  have hT := pst_txs n f (2 * n) (2 * n) (Nat.le_refl _)
  rw [ho] at hT
  have hck := act_all n h0 h6 (uby (txs n f (2 * n))) (by simp) (by
    intro x hx
    simp only [uby, txs, List.mem_map, List.mem_range] at hx
    obtain ⟨y, ⟨j, hj, rfl⟩, rfl⟩ := hx
    unfold sg; split
    · exact .inl rfl
    · exact .inr rfl) (by simp only [isBal, hT]) a hA
  simp only [chkA, hT] at hck
  cases hq : ast (sb a) n with
  | none => rw [hq] at hck; simp at hck
  | some x =>
    obtain ⟨oa, stk⟩ := x
    cases stk with
    | cons i r => rw [hq] at hck; simp at hck
    | nil =>
      have hoa : arcF n a = oa := by simp only [arcF, hq]
      rw [hq] at hck
      rw [← hfe] at hck
      simp only [Bool.and_eq_true, Bool.or_eq_true, decide_eq_true_eq] at hck
      obtain ⟨c1, c2, c3⟩ := hck
      rw [hoa]
      have hH : uby (hss n (prd n f (ohf n oa oa (opn a n) (opn a n))).1 0 n) = actH n f a oa := rfl
      rw [hH] at c2 c3
      refine ⟨hal, rfl, ln_of_b c1 (fun i hi => ohf_far n a a oa oa h0 i hi) h0, c2, fun hne => ?_⟩
      unfold AR actR at hne ⊢
      rw [hoa] at hne ⊢
      by_cases hlt : (opn (actH n f a oa) n).length < (opn a n).length
      · rw [if_pos hlt] at hne; exact absurd rfl hne
      · rw [if_neg hlt]
        rcases c3 with c3 | c3
        · exact absurd c3 hlt
        · refine (hvs_mem h0 h6 hk hp).2 ⟨all3_mem n _ (by simp) ?_, c3, ?_⟩
          · intro x hx
            simp only [actH, uby, hss, List.mem_map, List.mem_range] at hx
            obtain ⟨y, ⟨j, hj, rfl⟩, rfl⟩ := hx
            rcases hs_sign n (prd n f (ohf n oa oa (opn a n) (opn a n))).1 0 j with h | h | h <;> rw [h]
            · exact .inr (.inr rfl)
            · exact .inl rfl
            · exact .inr (.inl rfl)
          · rw [actH_len]
            have := hm.2.2
            rw [hal] at this
            omega

end Go.Proofs.Ytkpjaffbbppneaa

/- The statement on CellTable, out of the law's run. -/
namespace Go.Proofs.Ytkpjaffbbppneaa
open Go Go.RowKit Go.ChangeShapes Go.WideShapes Go.ChangeAt
set_option maxRecDepth 100000

theorem ct_lifted (law : ∀ (p c k n : Int) (f : Nat → Int), i64 p → i64 c → i64 k → i64 n → (∀ i, 0 ≤ f i ∧ f i ≤ 255) → ACalls Try.prog 3 [I p, I c, .agg (dg n f), I k] [] fun v _ => v = B true)
    (os : Os) (started : os.Started) (H : Type) (enc : TypeId × Value → H) :
    ReturnsInHanded {} Try.checked os 3 .any (Rows.fnExactCellTableSpec.pre6 enc Try.prog Try.f3 Rows.fnExactCellTableRow.domain false) (Rows.fnExactCellTableSpec.post enc Try.prog Try.f3 false true false false) := by
  refine returnsInHanded_of_change (C := Try.checked) Try.own started (by kernel_rfl) Try.func3
    (ChangeSpec.witness6 (enc := enc) (C := Try.checked) false ⟨#[], #[.int .i64 0, .int .i64 0, .agg (#[.int .i64 0] ++ Array.replicate 16 (.int .u8 0)), .int .i64 0], []⟩ 8 (by kernel_rfl) (by kernel_rfl) (by kernel_rfl) (by kernel_rfl)) ?_
  intro W base args ds gs before hval0 hW hcnd _
  have hval : ∀ (j : Nat) t v, Try.f3.params[j]? = some t → args[j]? = some v → Value.okWide Try.prog W .any base t v := hval0
  have hW' := hW
  obtain ⟨p, q, hA0, hV, rfl, hfz, hnd⟩ := hW
  have hA : DataW.TrodAll enc Try.prog W 0 (fun _ => true) true Try.f3.params.toList args.toList ds p := hA0
  rw [Try.params3] at hA hval
  obtain ⟨v0, v1, v2, v3, d0, d1, d2, d3, p0, p1, p2, p3, rfl, rfl, rfl, h0, h1, h2, h3⟩ := trodAll_four hA
  have u2 : Try.prog.underlying 2 = some (.int .i64) := by kernel_rfl
  obtain ⟨a, rfl, wa⟩ := open_i64 u2 (hval 0 _ v0 rfl rfl)
  obtain ⟨b, rfl, wb⟩ := open_i64 u2 (hval 1 _ v1 rfl rfl)
  obtain ⟨n, f, hf, n1, n2, hr⟩ := open_dg [] (by obtain ⟨fs, hu, -⟩ := und_struct ti24 rfl; exact ⟨fs, hu⟩) (by kernel_rfl) (by kernel_rfl) (hval 2 _ v2 rfl rfl)
  obtain ⟨d, rfl, wd⟩ := open_i64 u2 (hval 3 _ v3 rfl rfl)
  obtain ⟨rfl, rfl⟩ := trodVars_none hV
  refine law_of_acalls (by simp only [VRs, and_true]; exact ⟨by simp [VR], by simp [VR], hr, by simp [VR]⟩) (law a b d n f wa wb wd ⟨n1, n2⟩ hf) fun W' hb => ⟨_, rfl, post_true hW' rfl hb rfl (by kernel_rfl) ?_⟩
  intro t ht
  have e : Try.f3.params.toList = [2, 2, 24, 2] := congrArg Array.toList Try.params3
  rw [e] at ht
  simp only [List.mem_cons, List.not_mem_nil, or_false] at ht
  rcases ht with rfl | rfl | rfl | rfl <;> exact ⟨by kernel_rfl, of_decide_eq_true (by kernel_rfl)⟩

/-- The statement follows when the law runs to true. -/
theorem ct_holds (law : ∀ (p c k n : Int) (f : Nat → Int), i64 p → i64 c → i64 k → i64 n → (∀ i, 0 ≤ f i ∧ f i ≤ 255) → ACalls Try.prog 3 [I p, I c, .agg (dg n f), I k] [] fun v _ => v = B true) : Rows.FnExactCellTableSaid :=
  OpenClaim.holds_of_wide 3 Try.f3 rfl rfl rfl rfl rfl rfl rfl ⟨rfl, rfl, rfl, rfl, rfl⟩ rfl rfl rfl rfl rfl (by kernel_rfl) Try.func3 (by kernel_rfl)
    (of_decide_eq_true (by kernel_rfl)) (by unfold Func.isWrapper; first | (rw [if_pos (by decide +kernel)]; kernel_rfl) | (rw [if_neg (by decide +kernel)]; exact ⟨rfl, rfl⟩))
    (fun os started H enc _ => ct_lifted law os started H enc)

end Go.Proofs.Ytkpjaffbbppneaa

/- Tables compared, marked and looked at again by the laws. -/
namespace Go.Proofs.Ytkpjaffbbppneaa
open Go Go.RowKit

theorem eqInt64S_c (a g b h N : Nat) (f f' : Nat → Int) (m : List AO) (K : AV → List AO → Prop) (hN : N ≤ 1000000) (ha : content m a g = some (arr N f)) (hb : content m b h = some (arr N f')) (he : ∀ i, i < N → f i = f' i) (hk : K (B true) m) : ACalls Try.prog 20 [.slice a 0 N g, .slice b 0 N h] m K := by
  refine ACalls.enter Try.func20 rfl rfl Try.ntmps20 (congrArg Array.toList Try.results20) (by simp) fun hc => ?_
  simp (disch := omega) [ha, hb, aLen]
  refine go_loop (α := {i : Nat // i ≤ N}) (fun i => mkE [(0, .slice a 0 N g), (1, .slice b 0 N h), (5, I i.1)]) (fun _ => m) (fun i => N - i.1) ⟨0, Nat.zero_le _⟩ (Wk.same rfl (by simp (disch := omega))) (fun ⟨i, hi⟩ => ?_)
  by_cases hc : i < N
  · have e := he i hc
    simp (disch := omega) [ha, hb, aLen, hc]
    refine go_drawn [] false (by kernel_rfl) (by kernel_rfl) ?_
    simp (disch := omega) [ha, hb, aLen, hc, arr_at, e]
    exact ⟨⟨i + 1, hc⟩, Wk.same rfl (by simp (disch := omega)), by simp; omega⟩
  · simp (disch := omega) [ha, hb, aLen, hc]
    exact keep hk

theorem heldInt64S_c (a g N : Nat) (k : Int) (m : List AO) (K : AV → List AO → Prop) (hN : N ≤ 1000000) (hk0 : 0 ≤ k ∧ k ≤ 1000000) (ha : content m a g = some (arr N fun j => k + j)) (hk : K (I (k + N)) m) : ACalls Try.prog 22 [.slice a 0 N g, I k] m K := by
  refine ACalls.enter Try.func22 rfl rfl Try.ntmps22 (congrArg Array.toList Try.results22) (by simp) fun hc => ?_
  simp (disch := omega) [ha, aLen]
  refine go_loop (α := {i : Nat // i ≤ N}) (fun i => mkE [(0, .slice a 0 N g), (1, I (k + i.1)), (5, I i.1)]) (fun _ => m) (fun i => N - i.1) ⟨0, Nat.zero_le _⟩ (Wk.same rfl (by simp (disch := omega))) (fun ⟨i, hi⟩ => ?_)
  by_cases hc : i < N
  · simp (disch := omega) [ha, aLen, hc, arr_at]
    exact ⟨⟨i + 1, hc⟩, Wk.same rfl (by simp (disch := omega) [Int.add_assoc]), by simp; omega⟩
  · have e : i = N := by omega
    subst e
    simp (disch := omega) [ha, aLen, hc]
    exact keep hk

theorem markInt64S_c (b N : Nat) (k : Int) (f : Nat → Int) (m : List AO) (K : AV → List AO → Prop) (hN : N ≤ 1000000) (hk0 : 0 ≤ k ∧ k ≤ 1000000) (hm : m[b]? = some (.cells (arr N f) 0 1)) (hk : K (I (k + N)) (m.set b (.cells (arr N fun j => k + j) 0 1))) : ACalls Try.prog 21 [.slice b 0 N 0, I k] m K := by
  refine ACalls.enter Try.func21 rfl rfl Try.ntmps21 (congrArg Array.toList Try.results21) (by simp) fun hc => ?_
  have hb := (List.getElem?_eq_some_iff.1 hm).1
  obtain ⟨F, hF⟩ : ∃ F : Nat → Nat → Int, F = fun (i x : Nat) => if x < i then k + (x : Int) else f x := ⟨_, rfl⟩
  have F0 : arr N f = arr N (F 0) := arr_congr fun x _ => by rw [hF]; simp
  have FN : arr N (F N) = arr N (fun j => k + j) := arr_congr fun x hx => by rw [hF]; simp [hx]
  have Fs : ∀ i, arr N (fset (F i) i (k + i)) = arr N (F (i + 1)) := fun i => arr_congr fun x _ => by
    rw [hF]; simp only [fset]
    by_cases e : x = i
    · subst e; rw [if_pos rfl, if_pos (by omega)]
    · rw [if_neg e]
      by_cases h : x < i
      · rw [if_pos h, if_pos (by omega)]
      · rw [if_neg h, if_neg (by omega)]
  have hm0 : m.set b (.cells (arr N (F 0)) 0 1) = m := by
    rw [← F0]
    apply List.ext_getElem?
    intro j
    by_cases e : b = j
    · subst e; rw [List.getElem?_set_self hb, hm]
    · rw [List.getElem?_set_ne e]
  have cM : ∀ i, content (m.set b (.cells (arr N (F i)) 0 1)) b 0 = some (arr N (F i)) := fun i => cont_set hb _ _ _
  have gM : ∀ i, (m.set b (.cells (arr N (F i)) 0 1))[b]? = some (.cells (arr N (F i)) 0 1) := fun i => List.getElem?_set_self hb
  have sM : ∀ i f', (m.set b (.cells (arr N (F i)) 0 1)).set b (.cells (arr N f') 0 1) = m.set b (.cells (arr N f') 0 1) := fun i f' => by simp
  simp (disch := omega)
  refine go_loop (α := {i : Nat // i ≤ N}) (fun i => mkE [(0, .slice b 0 N 0), (1, I (k + i.1)), (5, I i.1)]) (fun i => m.set b (.cells (arr N (F i.1)) 0 1)) (fun i => N - i.1) ⟨0, Nat.zero_le _⟩ (Wk.same hm0 (by simp (disch := omega))) (fun ⟨i, hi⟩ => ?_)
  by_cases hc : i < N
  · have cMi := cM i
    have gMi := gM i
    simp (disch := omega) [cMi, gMi, aLen, hc]
    exact ⟨⟨i + 1, hc⟩, Wk.same (by simp [← Fs]) (by simp (disch := omega) [Int.add_assoc]), by simp; omega⟩
  · have e : i = N := by omega
    subst e
    have cMi := cM i
    rw [FN] at *
    simp (disch := omega) [cMi, aLen, hc]
    exact keep hk

end Go.Proofs.Ytkpjaffbbppneaa

/- Tables of rows compared, marked and looked at again by the laws. -/
namespace Go.Proofs.Ytkpjaffbbppneaa
open Go Go.RowKit

/-- A table: none, or rows in memory. -/
def Tb (m : List AO) (s : AV) (N : Nat) (R : Nat → Nat → Int) : Prop := N ≤ 100 ∧ ((s = .s (.slice none 0 0) ∧ N = 0) ∨ ∃ a g B, s = .slice a 0 N g ∧ content m a g = some (refs B N N) ∧ ∀ i, i < N → content m (B + i) 0 = some (arr N (R i)))
/-- A table of own rows, beyond the objects that were there. -/
def TbO (n0 : Nat) (m : List AO) (s : AV) (N : Nat) (R : Nat → Nat → Int) : Prop := N ≤ 100 ∧ ((s = .s (.slice none 0 0) ∧ N = 0) ∨ ∃ a g B, s = .slice a 0 N g ∧ content m a g = some (refs B N N) ∧ n0 ≤ B ∧ a < B ∧ ∀ i, i < N → m[B + i]? = some (.cells (arr N (R i)) 0 1))
theorem TbO.tb {n0 : Nat} {m : List AO} {s : AV} {N : Nat} {R : Nat → Nat → Int} (h : TbO n0 m s N R) : Tb m s N R := by
  obtain ⟨hN, h⟩ := h
  refine ⟨hN, h.imp id ?_⟩
  rintro ⟨a, g, B, e, h1, _, _, h2⟩
  exact ⟨a, g, B, e, h1, fun i hi => by simp [content, h2 i hi]⟩
theorem Tb.app {m : List AO} {s : AV} {N : Nat} {R : Nat → Nat → Int} (h : Tb m s N R) (l : List AO) : Tb (m ++ l) s N R := by
  obtain ⟨hN, h⟩ := h
  refine ⟨hN, h.imp id ?_⟩
  rintro ⟨a, g, B, e, h1, h2⟩
  exact ⟨a, g, B, e, by rw [cont_old _ (content_lt h1)]; exact h1, fun i hi => by rw [cont_old _ (content_lt (h2 i hi))]; exact h2 i hi⟩

theorem eqInt64SS_c (s s' : AV) (N : Nat) (R R' : Nat → Nat → Int) (m : List AO) (K : AV → List AO → Prop) (h : Tb m s N R) (h' : Tb m s' N R') (he : ∀ i j, i < N → j < N → R i j = R' i j) (hk : K (B true) m) : ACalls Try.prog 7 [s, s'] m K := by
  obtain ⟨hN, h⟩ := h
  obtain ⟨_, h'⟩ := h'
  have go2 : ∀ a g B a' g' B', content m a g = some (refs B N N) → (∀ i, i < N → content m (B + i) 0 = some (arr N (R i))) → content m a' g' = some (refs B' N N) → (∀ i, i < N → content m (B' + i) 0 = some (arr N (R' i))) →
      ACalls Try.prog 7 [.slice a 0 N g, .slice a' 0 N g'] m K := by
    intro a g B a' g' B' h1 h2 h1' h2'
    refine ACalls.enter Try.func7 rfl rfl Try.ntmps7 (congrArg Array.toList Try.results7) (by simp) fun hc => ?_
    simp (disch := omega) [h1, h1', aLen]
    refine go_loop (α := {i : Nat // i ≤ N}) (fun i => mkE [(0, .slice a 0 N g), (1, .slice a' 0 N g'), (5, I i.1)]) (fun _ => m) (fun i => N - i.1) ⟨0, Nat.zero_le _⟩ (Wk.same rfl (by simp (disch := omega))) (fun ⟨i, hi⟩ => ?_)
    by_cases hc : i < N
    · simp (disch := omega) [h1, h1', aLen, hc]
      refine go_drawn [] false (by kernel_rfl) (by kernel_rfl) ?_
      simp (disch := omega) [h1, h1', aLen, hc, refs_at]
      refine goCall_q rfl (eqInt64S_c (B + i) 0 (B' + i) 0 N (R i) (R' i) _ _ (by omega) (h2 i hc) (h2' i hc) (fun j hj => he i j hc hj) ⟨rfl, rfl⟩) ?_
      simp (disch := omega)
      exact ⟨⟨i + 1, hc⟩, Wk.same rfl (by simp (disch := omega)), by simp; omega⟩
    · simp (disch := omega) [h1, h1', aLen, hc]
      exact keep hk
  rcases h with ⟨rfl, h0⟩ | ⟨a, g, B, rfl, h1, h2⟩
  · subst h0
    rcases h' with ⟨rfl, _⟩ | ⟨a', g', B', rfl, h1', h2'⟩
    · refine ACalls.enter Try.func7 rfl rfl Try.ntmps7 (congrArg Array.toList Try.results7) (by simp) fun hc => ?_
      simp (disch := omega) [aLen]
      refine go_loop (α := Unit) (fun _ => mkE [(0, .s (.slice none 0 0)), (5, I 0)]) (fun _ => m) (fun _ => 0) () (Wk.same rfl (by simp (disch := omega))) (fun _ => ?_)
      simp (disch := omega) [aLen]
      exact keep hk
    · refine ACalls.enter Try.func7 rfl rfl Try.ntmps7 (congrArg Array.toList Try.results7) (by simp) fun hc => ?_
      simp (disch := omega) [aLen, h1']
      refine go_loop (α := Unit) (fun _ => mkE [(0, .s (.slice none 0 0)), (5, I 0)]) (fun _ => m) (fun _ => 0) () (Wk.same rfl (by simp (disch := omega))) (fun _ => ?_)
      simp (disch := omega) [aLen]
      exact keep hk
  · rcases h' with ⟨rfl, h0⟩ | ⟨a', g', B', rfl, h1', h2'⟩
    · subst h0
      refine ACalls.enter Try.func7 rfl rfl Try.ntmps7 (congrArg Array.toList Try.results7) (by simp) fun hc => ?_
      simp (disch := omega) [aLen, h1]
      refine go_loop (α := Unit) (fun _ => mkE [(0, .slice a 0 0 g), (5, I 0)]) (fun _ => m) (fun _ => 0) () (Wk.same rfl (by simp (disch := omega))) (fun _ => ?_)
      simp (disch := omega) [aLen, h1]
      exact keep hk
    · exact go2 a g B a' g' B' h1 h2 h1' h2'

/-- The numbers that marks are. -/
def mkR (N : Nat) (i j : Nat) : Int := ((1 + i * N : Nat) : Int) + j
/-- Rows marked, so far. -/
def mkM (m : List AO) (B N : Nat) : Nat → List AO
  | 0 => m
  | i + 1 => (mkM m B N i).set (B + i) (.cells (arr N (mkR N i)) 0 1)
theorem mkM_len (m : List AO) (B N : Nat) : ∀ i, (mkM m B N i).length = m.length
  | 0 => rfl
  | i + 1 => by simp only [mkM, List.length_set, mkM_len m B N i]
theorem mkM_get (m : List AO) (B N : Nat) : ∀ i j, mkM m B N i = mkM m B N i → (j < B ∨ B + i ≤ j) → (mkM m B N i)[j]? = m[j]?
  | 0, j, _, _ => rfl
  | i + 1, j, _, h => by simp only [mkM]; rw [List.getElem?_set_ne (by omega)]; exact mkM_get m B N i j rfl (by omega)
theorem mkM_row (m : List AO) (B N : Nat) : ∀ i j, j < i → B + i ≤ m.length → (mkM m B N i)[B + j]? = some (.cells (arr N (mkR N j)) 0 1)
  | 0, j, h, _ => by omega
  | i + 1, j, h, hl => by
    simp only [mkM]
    by_cases e : j = i
    · subst e; rw [List.getElem?_set_self (by rw [mkM_len]; omega)]
    · rw [List.getElem?_set_ne (by omega)]; exact mkM_row m B N i j (by omega) (by omega)
theorem mkM_app (m l : List AO) (B N : Nat) (h : m.length ≤ B) : ∀ i, ∃ l', mkM (m ++ l) B N i = m ++ l'
  | 0 => ⟨l, rfl⟩
  | i + 1 => by
    obtain ⟨l', e⟩ := mkM_app m l B N h i
    exact ⟨l'.set (B + i - m.length) (.cells (arr N (mkR N i)) 0 1), by simp only [mkM, e]; rw [List.set_append, if_neg (by omega)]⟩

theorem mul_bd2 {i N : Nat} (hi : i ≤ N) (hN : N ≤ 100) : i * N ≤ 10000 := Nat.le_trans (Nat.mul_le_mul hi (Nat.le_refl N)) (Nat.le_trans (Nat.mul_le_mul hN hN) (by decide))

theorem markInt64SS_c (n0 : Nat) (s : AV) (N : Nat) (R : Nat → Nat → Int) (m0 l : List AO) (K : AV → List AO → Prop) (hn0 : m0.length = n0) (h : TbO n0 (m0 ++ l) s N R)
    (hk : ∀ l', TbO n0 (m0 ++ l') s N (mkR N) → K (I ((1 + N * N : Nat) : Int)) (m0 ++ l')) : ACalls Try.prog 8 [s, I 1] (m0 ++ l) K := by
  obtain ⟨hN, h⟩ := h
  rcases h with ⟨rfl, h0⟩ | ⟨a, g, B, rfl, h1, hB, haB, h2⟩
  · subst h0
    refine ACalls.enter Try.func8 rfl rfl Try.ntmps8 (congrArg Array.toList Try.results8) (by simp) fun hc => ?_
    simp (disch := omega) [aLen]
    refine go_loop (α := Unit) (fun _ => mkE [(0, .s (.slice none 0 0)), (1, I 1), (5, I 0)]) (fun _ => m0 ++ l) (fun _ => 0) () (Wk.same rfl (by simp (disch := omega))) (fun _ => ?_)
    simp (disch := omega) [aLen]
    exact keep (hk l ⟨by omega, .inl ⟨rfl, rfl⟩⟩)
  · refine ACalls.enter Try.func8 rfl rfl Try.ntmps8 (congrArg Array.toList Try.results8) (by simp) fun hc => ?_
    obtain ⟨M, hM⟩ : ∃ M, M = m0 ++ l := ⟨_, rfl⟩
    have hlen : N = 0 ∨ B + N ≤ M.length := by
      by_cases e : N = 0
      · exact .inl e
      · have := (List.getElem?_eq_some_iff.1 (h2 (N - 1) (by omega))).1
        rw [← hM] at this
        exact .inr (by omega)
    rw [← hM] at h1 h2 ⊢
    have ca : ∀ i, content (mkM M B N i) a g = some (refs B N N) := fun i => by
      simp only [content, mkM_get M B N i a rfl (.inl haB)]; exact h1
    simp (disch := omega)
    refine go_loop (α := {i : Nat // i ≤ N}) (fun i => mkE [(0, .slice a 0 N g), (1, I ((1 + i.1 * N : Nat) : Int)), (5, I i.1)]) (fun i => mkM M B N i.1) (fun i => N - i.1) ⟨0, Nat.zero_le _⟩ (Wk.same rfl (by simp (disch := omega))) (fun ⟨i, hi⟩ => ?_)
    have cai := ca i
    have mb := mul_bd2 hi hN
    by_cases hc : i < N
    · simp (disch := omega) [cai, aLen, hc, refs_at]
      refine goCall_n rfl (markInt64S_c (B + i) N ((1 + i * N : Nat) : Int) (R i) _ _ (by omega) (by omega) (by rw [mkM_get M B N i (B + i) rfl (.inr (Nat.le_refl _))]; exact h2 i hc) ?_)
      simp (disch := omega)
      exact ⟨⟨i + 1, hc⟩, Wk.same rfl (by simp (disch := omega) [Nat.succ_mul, Nat.add_mul, Int.add_mul, Int.add_assoc]), by simp; omega⟩
    · have e : i = N := by omega
      subst e
      obtain ⟨l', hl'⟩ := mkM_app m0 l B i (by omega) i
      rw [← hM] at hl'
      have hle : ∀ j, j < i → B + i ≤ M.length := fun j hj => by omega
      have kk := hk l' ⟨hN, .inr ⟨a, g, B, rfl, by rw [← hl']; exact cai, hB, haB, fun j hj => by rw [← hl']; exact mkM_row M B i i j hj (hle j hj)⟩⟩
      rw [← hl'] at kk
      simp (disch := omega) [cai, aLen, hc]
      exact keep kk

theorem heldInt64SS_c (s : AV) (N : Nat) (m : List AO) (K : AV → List AO → Prop) (h : Tb m s N (mkR N)) (hk : K (I ((1 + N * N : Nat) : Int)) m) : ACalls Try.prog 9 [s, I 1] m K := by
  obtain ⟨hN, h⟩ := h
  rcases h with ⟨rfl, h0⟩ | ⟨a, g, B, rfl, h1, h2⟩
  · subst h0
    refine ACalls.enter Try.func9 rfl rfl Try.ntmps9 (congrArg Array.toList Try.results9) (by simp) fun hc => ?_
    simp (disch := omega) [aLen]
    refine go_loop (α := Unit) (fun _ => mkE [(0, .s (.slice none 0 0)), (1, I 1), (5, I 0)]) (fun _ => m) (fun _ => 0) () (Wk.same rfl (by simp (disch := omega))) (fun _ => ?_)
    simp (disch := omega) [aLen]
    exact keep hk
  · refine ACalls.enter Try.func9 rfl rfl Try.ntmps9 (congrArg Array.toList Try.results9) (by simp) fun hc => ?_
    simp (disch := omega)
    refine go_loop (α := {i : Nat // i ≤ N}) (fun i => mkE [(0, .slice a 0 N g), (1, I ((1 + i.1 * N : Nat) : Int)), (5, I i.1)]) (fun _ => m) (fun i => N - i.1) ⟨0, Nat.zero_le _⟩ (Wk.same rfl (by simp (disch := omega))) (fun ⟨i, hi⟩ => ?_)
    have mb := mul_bd2 hi hN
    by_cases hc : i < N
    · simp (disch := omega) [h1, aLen, hc, refs_at]
      refine goCall_n rfl (heldInt64S_c (B + i) 0 N ((1 + i * N : Nat) : Int) _ _ (by omega) (by omega) (h2 i hc) ?_)
      have hpos : ¬ (1 + (i : Int) * N + N < 0) := by have h0 : (0 : Int) ≤ (i : Int) * N := Int.mul_nonneg (by omega) (by omega); omega
      simp (disch := omega) [hpos]
      exact ⟨⟨i + 1, hc⟩, Wk.same rfl (by simp (disch := omega) [Int.add_mul, Int.add_assoc]), by simp; omega⟩
    · have e : i = N := by omega
      subst e
      simp (disch := omega) [h1, aLen, hc]
      exact keep hk

end Go.Proofs.Ytkpjaffbbppneaa
namespace Go.Proofs.Ytkpjaffbbppneaa
open Go Go.RowKit

theorem rows_at (M : List AO) (x : AO) (N : Nat) (R : Nat → Nat → Int) {i : Nat} (hi : i < N) : (M ++ x :: rowsO N R N)[M.length + 1 + i]? = some (.cells (arr N (R i)) 0 1) := by
  rw [show M.length + 1 + i = M.length + (i + 1) by omega, get_loc, List.getElem?_cons_succ]
  have := rows_get N R N i hi []
  rwa [List.append_nil] at this

def cap16 (f : Nat → Int) (i : Nat) : Int := if i < 16 then f i else 0
theorem dg_cap (n : Int) (f : Nat → Int) : dg n f = dg n (cap16 f) := dg_congr fun i hi => by simp [cap16, hi]
theorem isD_bd {n : Int} {f : Nat → Int} (h : isD n f = true) : 1 ≤ n ∧ n ≤ 8 := by
  simp only [isD, Bool.and_eq_true, decide_eq_true_eq] at h; exact h.1.1

theorem sCellTable_ok (p c : Int) (n k : Nat) (f : Nat → Int) (m : List AO) (K : AV → List AO → Prop) (hfb : ∀ i, 0 ≤ f i ∧ f i ≤ 255) (hd : isD n f = true) (hF : isF p c = true) (hR : okR n k 6 = true) (hk8 : k ≤ 8) (hG : HGood n f (rhv n k))
    (hk : ∀ l s, TbO m.length (m ++ l) s (rhv n k).length (ctR p c n f (rhv n k)) → K (.tup [s, I 0]) (m ++ l)) : ACalls Try.prog 4 [I p, I c, .agg (dg n f), I k] m K := by
  refine ACalls.enter Try.func4 rfl rfl Try.ntmps4 (congrArg Array.toList Try.results4) (by simp) fun hc => ?_
  have hcl : Closed m := ‹_›
  have hC : ctC p c n k f = 0 := by unfold ctC; rw [if_pos hd, if_pos (by rw [hF, hR]; rfl)]
  simp (disch := omega)
  refine goCall_n rfl (l04Code_c p c n k f _ _ hfb ?_)
  rw [hC]
  simp (disch := omega)
  refine goCall_n rfl (l04Cell_c p c n k f _ _ hF hk8 hG ?_)
  obtain ⟨L, hL⟩ : ∃ L, L = rhv n k := ⟨_, rfl⟩
  have hlen := hG.len
  rw [← hL] at hk hlen ⊢
  obtain ⟨M4, hM4⟩ : ∃ M4, M4 = rcM (m ++ [.cells (dg n f) 0 1]) n f L := ⟨_, rfl⟩
  obtain ⟨X, hX⟩ : ∃ X : List AO, M4 = m ++ X := ⟨_, by rw [hM4, rcM, List.append_assoc, List.append_assoc, List.append_assoc]⟩
  rw [← hM4]
  have hml : m.length ≤ M4.length := by rw [hX]; simp
  have kk := hk (X ++ .cells (refs (M4.length + 1) L.length L.length) L.length 1 :: rowsO L.length (ctR p c n f L) L.length) (.slice M4.length 0 L.length L.length)
    ⟨hlen, .inr ⟨M4.length, L.length, M4.length + 1, rfl, by rw [← List.append_assoc, ← hX, cont_loc0, cont_here], by omega, by omega, fun i hi => by rw [← List.append_assoc, ← hX]; exact rows_at M4 _ _ _ hi⟩⟩
  rw [← List.append_assoc, ← hX] at kk
  simp (disch := omega)
  exact keep kk

theorem sCellTable_bad (p c n k : Int) (f : Nat → Int) (m : List AO) (K : AV → List AO → Prop) (hfb : ∀ i, 0 ≤ f i ∧ f i ≤ 255) (hne : ctC p c n k f ≠ 0) (hk : K (.tup [.s (.slice none 0 0), I (ctC p c n k f)]) m) : ACalls Try.prog 4 [I p, I c, .agg (dg n f), I k] m K := by
  refine ACalls.enter Try.func4 rfl rfl Try.ntmps4 (congrArg Array.toList Try.results4) (by simp) fun hc => ?_
  have hcl : Closed m := ‹_›
  simp (disch := omega)
  refine goCall_n rfl (l04Code_c p c n k f _ _ hfb ?_)
  simp (disch := omega) [hne]
  exact dropE (n := m.length) m _ rfl (Nat.le_refl _) hcl (by simp [AV.sc, scs]) hk

/-- Both sides, whatever the arguments: tables of the same numbers, in memory of their own. -/
theorem ct_both (p c n k : Int) (f : Nat → Int) (hfb : ∀ i, 0 ≤ f i ∧ f i ≤ 255) : ∃ (N : Nat) (R : Nat → Nat → Int) (b : Int), (∀ (m : List AO) (K : AV → List AO → Prop), (∀ l s, TbO m.length (m ++ l) s N R → K (.tup [s, I b]) (m ++ l)) → ACalls Try.prog 6 [I p, I c, .agg (dg n f), I k] m K) ∧
    ∀ (m : List AO) (K : AV → List AO → Prop), (∀ l s, TbO m.length (m ++ l) s N R → K (.tup [s, I b]) (m ++ l)) → ACalls Try.prog 4 [I p, I c, .agg (dg n f), I k] m K := by
  have hfb' : ∀ i, 0 ≤ cap16 f i ∧ cap16 f i ≤ 255 := fun i => by have := hfb i; unfold cap16; split <;> omega
  rw [dg_cap]
  by_cases hne : ctC p c n k (cap16 f) = 0
  · unfold ctC at hne
    by_cases hd : isD n (cap16 f) = true
    · rw [if_pos hd] at hne
      by_cases hq : (isF p c && okR n k 6) = true
      · have hq2 := hq
        rw [Bool.and_eq_true] at hq2
        obtain ⟨hF, hR⟩ := hq2
        have hb := isD_bd hd
        have hR2 := hR
        simp only [okR, Bool.and_eq_true, decide_eq_true_eq] at hR2
        obtain ⟨n, rfl⟩ := Int.eq_ofNat_of_zero_le (show 0 ≤ n by omega)
        obtain ⟨k, rfl⟩ := Int.eq_ofNat_of_zero_le (show 0 ≤ k by omega)
        have hpar : (n - k) % 2 = 0 := by omega
        have hG := hgood n k (cap16 f) (fun i hi => by unfold cap16; rw [if_neg (by omega)]) hd (by omega) (by omega) hpar
        have hL := lists_all n k (by omega) (by omega) (by omega) hpar
        have hlen := hG.len
        refine ⟨_, _, 0, fun m K hK => CellTable_c p c n k (cap16 f) m K hfb' hd hF hR (by omega) hG ?_, fun m K hK => sCellTable_ok p c n k (cap16 f) m K hfb' hd hF hR (by omega) (by rw [hL]; exact hG) (by rw [hL]; exact hK)⟩
        unfold ctK
        obtain ⟨L, hLL⟩ : ∃ L, L = hvs n [] 0 k := ⟨_, rfl⟩
        rw [← hLL] at hK hlen ⊢
        obtain ⟨M4, hM4⟩ : ∃ M4, M4 = ctM m n k (cap16 f) L := ⟨_, rfl⟩
        have hl4 : M4.length = m.length + 4 := by rw [hM4]; simp [ctM]
        obtain ⟨X, hX⟩ : ∃ X : List AO, M4 = m ++ X := ⟨_, by rw [hM4, ctM]⟩
        rw [← hM4, show m.length + 5 = M4.length + 1 by omega, show m.length + 4 = M4.length by omega]
        have kk := hK (X ++ .cells (refs (M4.length + 1) L.length L.length) L.length 1 :: rowsO L.length (ctR p c n (cap16 f) L) L.length) (.slice M4.length 0 L.length L.length)
          ⟨hlen, .inr ⟨M4.length, L.length, M4.length + 1, rfl, by rw [← List.append_assoc, ← hX, cont_loc0, cont_here], by omega, by omega, fun i hi => by rw [← List.append_assoc, ← hX]; exact rows_at M4 _ _ _ hi⟩⟩
        rw [← List.append_assoc, ← hX] at kk
        exact kk
      · rw [if_neg hq] at hne; simp at hne
    · rw [if_neg hd] at hne; simp at hne
  · have kn : ∀ (m : List AO) (K : AV → List AO → Prop), (∀ l s, TbO m.length (m ++ l) s 0 (fun _ _ => 0) → K (.tup [s, I (ctC p c n k (cap16 f))]) (m ++ l)) → K (.tup [.s (.slice none 0 0), I (ctC p c n k (cap16 f))]) m := fun m K hK => by
      have := hK [] (.s (.slice none 0 0)) ⟨by omega, .inl ⟨rfl, rfl⟩⟩
      rwa [List.append_nil] at this
    exact ⟨0, fun _ _ => 0, _, fun m K hK => CellTable_bad p c n k _ m K hfb' hne (kn m K hK), fun m K hK => sCellTable_bad p c n k _ m K hfb' hne (kn m K hK)⟩

set_option maxHeartbeats 2000000 in
theorem ct_law (p c k n : Int) (f : Nat → Int) (hfb : ∀ i, 0 ≤ f i ∧ f i ≤ 255) : ACalls Try.prog 3 [I p, I c, .agg (dg n f), I k] [] fun v _ => v = B true := by
  obtain ⟨N, R, b, h1, h2⟩ := ct_both p c n k f hfb
  refine ACalls.enter Try.func3 rfl rfl Try.ntmps3 (congrArg Array.toList Try.results3) (by simp) fun hc => ?_
  obtain ⟨M0, hM0⟩ : ∃ M0, M0 = [AO.cells (dg n f) 0 1] := ⟨_, rfl⟩
  simp (disch := omega)
  refine goCall_n rfl (toDiagram_c n f _ _ ?_)
  simp (disch := omega)
  rw [← hM0]
  refine goCall_n rfl (h2 _ _ fun l1 w hw => ?_)
  have c0 : ∀ l, content (M0 ++ l) 0 0 = some (dg n f) := fun l => by rw [hM0]; simp [content]
  obtain ⟨M1, hM1⟩ : ∃ M1, M1 = M0 ++ l1 := ⟨_, rfl⟩
  have c1 : ∀ l, content (M1 ++ l) 0 0 = some (dg n f) := fun l => by rw [hM1, List.append_assoc]; exact c0 _
  have c1' := c1 []
  rw [List.append_nil] at c1'
  rw [← hM1] at hw ⊢
  simp (disch := omega) [c1']
  refine goCall_n rfl (toDiagram_c n f _ _ ?_)
  simp (disch := omega)
  refine goCall_n rfl (h1 _ _ fun l2 g hg => ?_)
  have cl2 := c1 l2
  simp (disch := omega)
  refine goCall_n rfl (eqInt64SS_c g w N R R _ _ hg.tb (hw.tb.app _) (fun _ _ _ _ => rfl) ?_)
  simp (disch := omega)
  refine goCall_n rfl (markInt64SS_c M1.length g N R M1 l2 _ rfl hg fun l3 hg3 => ?_)
  simp (disch := omega)
  refine goCall_n rfl (heldInt64SS_c g N _ _ hg3.tb ?_)
  have hpos : ¬ ((((1 + N * N : Nat) : Int)) < 0) := by omega
  have hpos2 : ¬ ((1 : Int) + (N : Int) * N < 0) := by have h0 : (0 : Int) ≤ (N : Int) * N := Int.mul_nonneg (by omega) (by omega); omega
  have cl3 := c1 l3
  simp (disch := omega) [hpos, hpos2, cl3]
  refine goCall_n rfl (toDiagram_c n f _ _ ?_)
  simp (disch := omega)
  refine goCall_n rfl (h1 _ _ fun l4 h hh => ?_)
  simp (disch := omega)
  have hh' := hh.tb
  have hg4 := hg3.tb.app l4
  rw [List.append_assoc] at hh' hg4
  refine goCall_n rfl (eqInt64SS_c h w N R R _ _ hh' (hw.tb.app (l3 ++ l4)) (fun _ _ _ _ => rfl) ?_)
  simp (disch := omega)
  refine goCall_n rfl (heldInt64SS_c g N _ _ hg4 ?_)
  simp (disch := omega) [hpos, hpos2]
  exact ⟨_, [], (List.append_nil _).symm, fun h => absurd rfl h⟩

/-- The program's CellTable returns what the reference's returns. -/
theorem cellTable : Rows.FnExactCellTableSaid := ct_holds fun p c k n f _ _ _ _ hf => ct_law p c k n f hf

end Go.Proofs.Ytkpjaffbbppneaa
#print axioms Go.Proofs.Ytkpjaffbbppneaa.cellTable
