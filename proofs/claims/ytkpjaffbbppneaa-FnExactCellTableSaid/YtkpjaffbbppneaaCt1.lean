/- The abstract memory of a call, and how it stands to the model's worlds. -/
import Derived.WalkKit
import Derived.Orders
import Derived.Laws.StructEq
set_option linter.unusedSimpArgs false
set_option linter.unusedVariables false
set_option linter.unusedSectionVars false
namespace Go.Proofs.Ytkpjaffbbppneaa
open Go Go.RowKit

inductive AV where
  | any
  | s (x : Value)
  | ptr (a o g : Nat)
  | slice (a o len g : Nat)
  | mp (a : Nat)
  | fn (f : FuncId) (caps : List AV)
  | agg (xs : List AV)
  | tup (xs : List AV)
  deriving Inhabited

structure Place where
  blk : Nat
  off : Nat
  room : Nat
  esz : Nat
  gen : Int

inductive AO where
  | dead
  | cells (xs : List AV) (g z : Nat)
  | ro (xs : List AV) (z : Nat)
  | amap (es : List (AV × AV))

mutual
def VR (ρ : List Place) : AV → Value → Prop
  | .any, _ => True
  | .s x, v => v = x
  | .ptr a o g, v => ∃ p, ρ[a]? = some p ∧ g ≤ p.gen ∧ (∃ ad, v = .pointer (some ad)) ∧ (g = p.gen → v = .pointer (some ⟨p.blk, p.off + o, none⟩))
  | .slice a o len g, v => ∃ p, ρ[a]? = some p ∧ g ≤ p.gen ∧ (∃ ad l c, v = .slice ad l c) ∧
      (g = p.gen → 0 < p.esz ∧ ∃ ad cap, v = .slice (some ad) len cap ∧ len ≤ cap ∧ o + cap * p.esz = p.room ∧ ad.spot = none ∧ ad.block = p.blk ∧ (ad.off = p.off + o ∨ cap = 0))
  | .mp a, v => ∃ p, ρ[a]? = some p ∧ 0 ≤ p.gen ∧ (∃ r, v = .map r) ∧ (p.gen = 0 → v = .map (some p.blk))
  | .fn f cs, v => ∃ ys, v = .func (.func f) #[] ys ∧ VRs ρ cs ys.toList
  | .agg xs, v => ∃ ys, v = .agg ys ∧ VRs ρ xs ys.toList
  | .tup xs, v => ∃ ys, v = .tuple ys ∧ VRs ρ xs ys.toList
def VRs (ρ : List Place) : List AV → List Value → Prop
  | [], [] => True
  | x :: xs, v :: vs => VR ρ x v ∧ VRs ρ xs vs
  | [], _ :: _ => False
  | _ :: _, [] => False
end

theorem VRs.length {ρ : List Place} : ∀ {xs : List AV} {vs : List Value}, VRs ρ xs vs → xs.length = vs.length
  | [], [], _ => rfl
  | _ :: _, _ :: _, h => by simp only [VRs] at h; simp [VRs.length h.2]
  | [], _ :: _, h => by simp [VRs] at h
  | _ :: _, [], h => by simp [VRs] at h

theorem VRs.get {ρ : List Place} : ∀ {xs : List AV} {vs : List Value}, VRs ρ xs vs → ∀ {i : Nat} {x : AV}, xs[i]? = some x → ∃ v, vs[i]? = some v ∧ VR ρ x v
  | [], [], _, i, x, hx => by simp at hx
  | x :: xs, v :: vs, h, 0, y, hy => by simp at hy; subst hy; simp only [VRs] at h; exact ⟨v, rfl, h.1⟩
  | x :: xs, v :: vs, h, i + 1, y, hy => by simp only [VRs] at h; simp at hy; simpa using VRs.get h.2 hy
  | [], _ :: _, h, _, _, _ => by simp [VRs] at h
  | _ :: _, [], h, _, _, _ => by simp [VRs] at h

theorem VRs.of_get {ρ : List Place} : ∀ {xs : List AV} {vs : List Value}, xs.length = vs.length → (∀ (i : Nat) (x : AV) (v : Value), xs[i]? = some x → vs[i]? = some v → VR ρ x v) → VRs ρ xs vs
  | [], [], _, _ => by simp [VRs]
  | x :: xs, v :: vs, hl, h => by
    simp only [VRs]
    exact ⟨h 0 x v rfl rfl, VRs.of_get (by simpa using hl) fun i y u hy hu => h (i + 1) y u (by simpa using hy) (by simpa using hu)⟩
  | [], _ :: _, hl, _ => by simp at hl
  | _ :: _, [], hl, _ => by simp at hl

def Ext (ρ ρ' : List Place) : Prop := ∀ (a : Nat) (p : Place), ρ[a]? = some p → ∃ p', ρ'[a]? = some p' ∧ p.gen ≤ p'.gen ∧ (p'.gen = p.gen → p' = p)

theorem Ext.refl (ρ : List Place) : Ext ρ ρ := fun _ p h => ⟨p, h, Int.le_refl _, fun _ => rfl⟩
theorem Ext.trans {a b c : List Place} (h : Ext a b) (k : Ext b c) : Ext a c := fun i p hp => by
  obtain ⟨q, hq, h1, h2⟩ := h i p hp
  obtain ⟨r, hr, h3, h4⟩ := k i q hq
  refine ⟨r, hr, by omega, fun e => ?_⟩
  have e1 : q.gen = p.gen := by omega
  rw [h4 (by omega), h2 e1]
theorem Ext.append (ρ t : List Place) : Ext ρ (ρ ++ t) := fun a p h => by
  have := (List.getElem?_eq_some_iff.1 h).1
  exact ⟨p, by rw [List.getElem?_append_left this]; exact h, Int.le_refl _, fun _ => rfl⟩

mutual
theorem VR.ext {ρ ρ' : List Place} (h : Ext ρ ρ') : ∀ (x : AV) (v : Value), VR ρ x v → VR ρ' x v
  | .any, _, _ => by simp [VR]
  | .s x, v, k => by simp only [VR] at k ⊢; exact k
  | .ptr a o g, v, k => by
    simp only [VR] at k ⊢
    obtain ⟨p, hp, hg, hs, hv⟩ := k
    obtain ⟨q, hq, h1, h2⟩ := h a p hp
    refine ⟨q, hq, by omega, hs, fun e => ?_⟩
    have e1 : q.gen = p.gen := by omega
    rw [h2 e1]; exact hv (by omega)
  | .slice a o len g, v, k => by
    simp only [VR] at k ⊢
    obtain ⟨p, hp, hg, hs, hv⟩ := k
    obtain ⟨q, hq, h1, h2⟩ := h a p hp
    refine ⟨q, hq, by omega, hs, fun e => ?_⟩
    have e1 : q.gen = p.gen := by omega
    rw [h2 e1]; exact hv (by omega)
  | .mp a, v, k => by
    simp only [VR] at k ⊢
    obtain ⟨p, hp, hg, hs, hv⟩ := k
    obtain ⟨q, hq, h1, h2⟩ := h a p hp
    refine ⟨q, hq, by omega, hs, fun e => ?_⟩
    have e1 : q.gen = p.gen := by omega
    rw [h2 e1]; exact hv (by omega)
  | .fn f cs, v, k => by
    simp only [VR] at k ⊢
    obtain ⟨ys, hv, hy⟩ := k
    exact ⟨ys, hv, VRs.ext h cs _ hy⟩
  | .agg xs, v, k => by
    simp only [VR] at k ⊢
    obtain ⟨ys, hv, hy⟩ := k
    exact ⟨ys, hv, VRs.ext h xs _ hy⟩
  | .tup xs, v, k => by
    simp only [VR] at k ⊢
    obtain ⟨ys, hv, hy⟩ := k
    exact ⟨ys, hv, VRs.ext h xs _ hy⟩
theorem VRs.ext {ρ ρ' : List Place} (h : Ext ρ ρ') : ∀ (xs : List AV) (vs : List Value), VRs ρ xs vs → VRs ρ' xs vs
  | [], [], _ => by simp [VRs]
  | x :: xs, v :: vs, k => by simp only [VRs] at k ⊢; exact ⟨VR.ext h x v k.1, VRs.ext h xs vs k.2⟩
  | [], _ :: _, k => by simp [VRs] at k
  | _ :: _, [], k => by simp [VRs] at k
end

mutual
def AV.sc (L : Nat) : AV → Bool
  | .any => true
  | .s _ => true
  | .ptr a _ _ => decide (a < L)
  | .slice a _ _ _ => decide (a < L)
  | .mp a => decide (a < L)
  | .fn _ cs => scs L cs
  | .agg xs => scs L xs
  | .tup xs => scs L xs
def scs (L : Nat) : List AV → Bool
  | [] => true
  | x :: xs => x.sc L && scs L xs
end

mutual
theorem VR.sc {ρ : List Place} : ∀ (x : AV) (v : Value), VR ρ x v → x.sc ρ.length = true
  | .any, _, _ => by simp [AV.sc]
  | .s x, v, k => by simp [AV.sc]
  | .ptr a o g, v, k => by
    simp only [VR] at k; obtain ⟨p, hp, _⟩ := k
    simp [AV.sc, (List.getElem?_eq_some_iff.1 hp).1]
  | .slice a o len g, v, k => by
    simp only [VR] at k; obtain ⟨p, hp, _⟩ := k
    simp [AV.sc, (List.getElem?_eq_some_iff.1 hp).1]
  | .mp a, v, k => by
    simp only [VR] at k; obtain ⟨p, hp, _⟩ := k
    simp [AV.sc, (List.getElem?_eq_some_iff.1 hp).1]
  | .fn f cs, v, k => by
    simp only [VR] at k; obtain ⟨ys, hv, hy⟩ := k
    simp only [AV.sc]; exact VRs.sc cs _ hy
  | .agg cs, v, k => by
    simp only [VR] at k; obtain ⟨ys, hv, hy⟩ := k
    simp only [AV.sc]; exact VRs.sc cs _ hy
  | .tup cs, v, k => by
    simp only [VR] at k; obtain ⟨ys, hv, hy⟩ := k
    simp only [AV.sc]; exact VRs.sc cs _ hy
theorem VRs.sc {ρ : List Place} : ∀ (xs : List AV) (vs : List Value), VRs ρ xs vs → scs ρ.length xs = true
  | [], [], _ => by simp [scs]
  | x :: xs, v :: vs, k => by simp only [VRs] at k; simp [scs, VR.sc x v k.1, VRs.sc xs vs k.2]
  | [], _ :: _, k => by simp [VRs] at k
  | _ :: _, [], k => by simp [VRs] at k
end

theorem take_get {ρ : List Place} {L a : Nat} {p : Place} (h : ρ[a]? = some p) (hL : a < L) : (ρ.take L)[a]? = some p := by
  rw [List.getElem?_take, if_pos hL]; exact h

mutual
theorem VR.take {ρ : List Place} (L : Nat) : ∀ (x : AV) (v : Value), VR ρ x v → x.sc L = true → VR (ρ.take L) x v
  | .any, _, _, _ => by simp [VR]
  | .s x, v, k, _ => by simp only [VR] at k ⊢; exact k
  | .ptr a o g, v, k, hs => by
    simp only [VR] at k ⊢; simp [AV.sc] at hs; obtain ⟨p, hp, r⟩ := k; exact ⟨p, take_get hp hs, r⟩
  | .slice a o len g, v, k, hs => by
    simp only [VR] at k ⊢; simp [AV.sc] at hs; obtain ⟨p, hp, r⟩ := k; exact ⟨p, take_get hp hs, r⟩
  | .mp a, v, k, hs => by
    simp only [VR] at k ⊢; simp [AV.sc] at hs; obtain ⟨p, hp, r⟩ := k; exact ⟨p, take_get hp hs, r⟩
  | .fn f cs, v, k, hs => by
    simp only [VR] at k ⊢; simp only [AV.sc] at hs; obtain ⟨ys, hv, hy⟩ := k; exact ⟨ys, hv, VRs.take L cs _ hy hs⟩
  | .agg cs, v, k, hs => by
    simp only [VR] at k ⊢; simp only [AV.sc] at hs; obtain ⟨ys, hv, hy⟩ := k; exact ⟨ys, hv, VRs.take L cs _ hy hs⟩
  | .tup cs, v, k, hs => by
    simp only [VR] at k ⊢; simp only [AV.sc] at hs; obtain ⟨ys, hv, hy⟩ := k; exact ⟨ys, hv, VRs.take L cs _ hy hs⟩
theorem VRs.take {ρ : List Place} (L : Nat) : ∀ (xs : List AV) (vs : List Value), VRs ρ xs vs → scs L xs = true → VRs (ρ.take L) xs vs
  | [], [], _, _ => by simp [VRs]
  | x :: xs, v :: vs, k, hs => by
    simp only [VRs] at k ⊢; simp [scs] at hs; exact ⟨VR.take L x v k.1 hs.1, VRs.take L xs vs k.2 hs.2⟩
  | [], _ :: _, k, _ => by simp [VRs] at k
  | _ :: _, [], k, _ => by simp [VRs] at k
end

def AO.isOwn : AO → Bool
  | .cells .. | .amap .. => true
  | _ => false

def AO.sc (L : Nat) : AO → Bool
  | .dead => true
  | .cells xs _ _ => scs L xs
  | .ro xs _ => scs L xs
  | .amap es => es.all fun e => e.1.sc L && e.2.sc L

def MapR (ρ : List Place) (es : List (AV × AV)) (cs : List MapEntry) (clock : Nat) : Prop :=
  VRs ρ (es.map (·.1)) (cs.map (·.key)) ∧ VRs ρ (es.map (·.2)) (cs.map (·.val)) ∧ (cs.map (·.born)).Nodup ∧ ∀ c ∈ cs, c.born < clock

def ObjR (B0 : Nat) (ρ : List Place) (p : Place) (w : World) : AO → Prop
  | .dead => p.gen = -1
  | .cells xs g z => B0 ≤ p.blk ∧ p.off = 0 ∧ p.gen = g ∧ p.esz = z ∧ ∃ cs e, w.heap[p.blk]? = some (.cells cs e (0, 0)) ∧ cs.size = p.room ∧ xs.length ≤ p.room ∧ VRs ρ xs (cs.toList.take xs.length)
  | .ro xs z => p.gen = 0 ∧ p.blk < B0 ∧ p.esz = z ∧ xs.length ≤ p.room ∧ ∀ (i : Nat) (x : AV), xs[i]? = some x → ∃ v, w.cell? ⟨p.blk, p.off + i, none⟩ = some v ∧ VR ρ x v
  | .amap es => B0 ≤ p.blk ∧ p.gen = 0 ∧ ∃ cs clock, w.heap[p.blk]? = some (.map cs clock) ∧ MapR ρ es cs.toList clock

structure Sim (B0 : Nat) (w0 : World) (ρ : List Place) (m : List AO) (w : World) : Prop where
  below : Below B0 w0 w
  le : B0 ≤ w0.heap.size
  len : ρ.length = m.length
  obj : ∀ (i : Nat) (o : AO) (p : Place), m[i]? = some o → ρ[i]? = some p → ObjR B0 ρ p w o
  inj : ∀ (i j : Nat) (o o' : AO) (p q : Place), m[i]? = some o → m[j]? = some o' → o.isOwn = true → o'.isOwn = true → i ≠ j → ρ[i]? = some p → ρ[j]? = some q → p.blk ≠ q.blk

theorem ObjR.ext {B0 : Nat} {ρ ρ' : List Place} {p : Place} {w : World} {o : AO} (h : Ext ρ ρ') (k : ObjR B0 ρ p w o) : ObjR B0 ρ' p w o := by
  cases o with
  | dead => exact k
  | cells xs g z =>
    obtain ⟨a, b, c, c2, cs, e, d, f, g', i⟩ := k
    exact ⟨a, b, c, c2, cs, e, d, f, g', VRs.ext h _ _ i⟩
  | ro xs z =>
    obtain ⟨a, b, b1, b2, c⟩ := k
    refine ⟨a, b, b1, b2, fun i x hx => ?_⟩
    obtain ⟨v, hv, hr⟩ := c i x hx
    exact ⟨v, hv, VR.ext h _ _ hr⟩
  | amap es =>
    obtain ⟨a, b, cs, clock, d, e1, e2, e3⟩ := k
    exact ⟨a, b, cs, clock, d, VRs.ext h _ _ e1, VRs.ext h _ _ e2, e3⟩

end Go.Proofs.Ytkpjaffbbppneaa

/- The abstract steps of a Go call: what each operation does to abstract values and objects. -/
namespace Go.Proofs.Ytkpjaffbbppneaa
open Go Go.RowKit

inductive TD where
  | int (k : IntKind)
  | bool
  | str
  | slice (e : TypeId)
  | arr (n : Nat) (e : TypeId)
  | struct (fs : List (Nat × TypeId))
  | map (k e : TypeId)
  | other

structure TI where
  d : TD
  size : Nat
  bytes : Nat
  zero : List AV

def mkTD : TypeDesc → TD
  | .int k => .int k
  | .bool => .bool
  | .string => .str
  | .slice e => .slice e
  | .array n e => .arr n e
  | .struct fs => .struct (fs.toList.map fun f => (f.offset, f.type))
  | .map k e => .map k e
  | _ => .other

def mkTI (P : Program) (t : TypeId) : Option TI :=
  match P.info? t, P.underlying t with
  | some i, some d => match i.zero with
    | some z => some ⟨mkTD d, i.size, i.bytes, z.cells.toList.map AV.s⟩
    | none => none
  | _, _ => none

def TI.isAgg (i : TI) : Bool :=
  match i.d with
  | .struct _ | .arr _ _ => true
  | _ => false

def AV.cs : AV → List AV
  | .agg xs => xs
  | x => [x]

def AV.one : AV → Bool
  | .s x => x.oneCell'
  | .ptr .. | .slice .. | .mp _ | .fn .. => true
  | _ => false

def content (m : List AO) (a g : Nat) : Option (List AV) :=
  match m[a]? with
  | some (.cells xs g' _) => if g = g' then some xs else none
  | some (.ro xs _) => if g = 0 then some xs else none
  | _ => none

def rowz (m : List AO) (a : Nat) : Nat :=
  match m[a]? with
  | some (.cells _ _ z) => z
  | some (.ro _ z) => z
  | _ => 0

def aLoad (P : Program) (m : List AO) (t : TypeId) : AV → Option AV
  | .ptr a o g =>
    match content m a g, mkTI P t with
    | some xs, some i => if i.isAgg then (if o + i.size ≤ xs.length then some (.agg ((xs.drop o).take i.size)) else none) else xs[o]?
    | _, _ => none
  | _ => none

def spl : List AV → Nat → List AV → List AV
  | xs, _, [] => xs
  | xs, o, y :: ys => spl (xs.set o y) (o + 1) ys

def splice (xs : List AV) (o : Nat) (ys : List AV) : List AV := if o = 0 ∧ xs.length = ys.length then ys else spl xs o ys

def aStore (P : Program) (m : List AO) (t : TypeId) (x v : AV) : Option (List AO) :=
  match x with
  | .ptr a o g =>
    match m[a]?, mkTI P t with
    | some (.cells xs g' z), some i => if g = g' ∧ v.cs.length = i.size ∧ o + i.size ≤ xs.length ∧ v.cs.all AV.one = true then some (m.set a (.cells (splice xs o v.cs) g' z)) else none
    | _, _ => none
  | _ => none

def aNew (m : List AO) (xs : List AV) : Option (AV × List AO) :=
  if xs.all AV.one = true then some (.ptr m.length 0 0, m ++ [.cells xs 0 1]) else none

def fillA (place : Nat → Option (Nat × Nat)) (cells : List AV) : List (Nat × AV) → Option (List AV)
  | [] => some cells
  | (i, v) :: rest =>
    match place i with
    | none => none
    | some (off, size) => if v.cs.length = size ∧ off + size ≤ cells.length ∧ v.cs.all AV.one = true then fillA place (splice cells off v.cs) rest else none

def aBuild (P : Program) (t : TypeId) (parts : List (Nat × AV)) : Option AV :=
  match mkTI P t with
  | some i =>
    match i.d with
    | .struct fs => if fs.all (fun f => (mkTI P f.2).isSome) = true then
        match fillA (fun j => (fs[j]?).bind fun f => (mkTI P f.2).map fun k => (f.1, k.size)) i.zero parts with
        | some ys => some (.agg ys)
        | none => none
      else none
    | .arr _ e =>
      match mkTI P e with
      | some ei => match fillA (fun j => some (j * ei.size, ei.size)) i.zero parts with
        | some ys => some (.agg ys)
        | none => none
      | none => none
    | _ => none
  | none => none

def zrep (n : Nat) (z : List AV) : List AV := (List.replicate n z).flatten

def aBuildSlice (P : Program) (m : List AO) (t : TypeId) (len : Nat) (parts : List (Nat × AV)) : Option (AV × List AO) :=
  match mkTI P t with
  | some { d := .slice e, .. } =>
    match mkTI P e with
    | some i =>
      if 0 < i.size ∧ i.zero.length = i.size ∧ len * i.size ≤ 16777216 then
        match fillA (fun j => some (j * i.size, i.size)) (zrep len i.zero) parts with
        | some xs => some (.slice m.length 0 len 0, m ++ [.cells xs 0 i.size])
        | none => none
      else none
    | none => none
  | _ => none

def aMakeSlice (P : Program) (m : List AO) (t : TypeId) : AV → AV → Option (AV × List AO)
  | .s (.int .i64 l), .s (.int .i64 c) =>
    match mkTI P t with
    | some { d := .slice e, .. } =>
      match mkTI P e with
      | some i =>
        if 0 ≤ l ∧ l ≤ c ∧ c ≤ 68719476736 ∧ i.bytes ≤ 1024 ∧ 0 < i.size ∧ i.zero.length = i.size then
          some (.slice m.length 0 l.toNat 0, m ++ [.cells (zrep l.toNat i.zero) 0 i.size])
        else none
      | none => none
    | _ => none
  | _, _ => none

def aFieldAddr (P : Program) (m : List AO) (t : TypeId) (x : AV) (f : Nat) : Option AV :=
  match x, mkTI P t with
  | .ptr a o g, some { d := .struct fs, .. } =>
    match fs[f]?, content m a g with
    | some (off, ft), some _ =>
      match mkTI P ft with
      | some i => if i.size = 0 then none else some (.ptr a (o + off) g)
      | none => none
    | _, _ => none
  | _, _ => none

def aPart (P : Program) (t : TypeId) (xs : List AV) (off : Nat) : Option AV :=
  match mkTI P t with
  | some i => if i.isAgg then some (.agg ((xs.drop off).take i.size)) else xs[off]?
  | none => none

def aField (P : Program) (t : TypeId) (x : AV) (f : Nat) : Option AV :=
  match x, mkTI P t with
  | .agg xs, some { d := .struct fs, .. } =>
    match fs[f]? with
    | some (off, ft) => aPart P ft xs off
    | none => none
  | _, _ => none

def aIndexAddr (P : Program) (m : List AO) (t : TypeId) (x i : AV) : Option AV :=
  match i with
  | .s (.int _ k) =>
    match mkTI P t, x with
    | some { d := .arr n e, .. }, .ptr a o g =>
      match mkTI P e, content m a g with
      | some ei, some _ => if 0 ≤ k ∧ k < n then some (.ptr a (o + k.toNat * ei.size) g) else none
      | _, _ => none
    | some { d := .slice e, .. }, .slice a o len g =>
      match mkTI P e, content m a g with
      | some ei, some _ => if 0 ≤ k ∧ k < len then some (.ptr a (o + k.toNat * ei.size) g) else none
      | _, _ => none
    | _, _ => none
  | _ => none

def aIndex (P : Program) (t : TypeId) (x i : AV) : Option AV :=
  match i with
  | .s (.int _ k) =>
    match mkTI P t, x with
    | some { d := .arr n e, .. }, .agg xs =>
      match mkTI P e with
      | some ei => if 0 ≤ k ∧ k < n then aPart P e xs (k.toNat * ei.size) else none
      | none => none
    | some { d := .str, .. }, .s (.string s) => if 0 ≤ k ∧ k < s.size then some (.s (.int .u8 (s.data.toList.getD k.toNat 0).toNat)) else none
    | _, _ => none
  | _ => none

def aBound (d : Nat) : Option AV → Option Int
  | none => some d
  | some (.s (.int _ k)) => some k
  | some _ => none

def aSlice (P : Program) (m : List AO) (t : TypeId) (x : AV) (lo hi : Option AV) : Option AV :=
  match mkTI P t, x with
  | some { d := .str, .. }, .s (.string s) =>
    match aBound 0 lo, aBound s.size hi with
    | some l, some h => if 0 ≤ l ∧ l ≤ h ∧ h ≤ s.size then some (.s (.string (s.extract l.toNat h.toNat))) else none
    | _, _ => none
  | some { d := .slice e, .. }, .slice a o len g =>
    match mkTI P e, content m a g, aBound 0 lo, aBound len hi with
    | some ei, some xs, some l, some h =>
      if 0 ≤ l ∧ l ≤ h ∧ o + h.toNat * ei.size ≤ xs.length ∧ rowz m a = ei.size then some (.slice a (o + l.toNat * ei.size) (h - l).toNat g) else none
    | _, _, _, _ => none
  | _, _ => none

def aAppend (P : Program) (m : List AO) (t : TypeId) (x y : AV) : Option (AV × List AO) :=
  match mkTI P t with
  | some { d := .slice e, .. } =>
    match mkTI P e with
    | some i =>
      if 0 < i.size ∧ i.bytes ≤ 1024 ∧ i.zero.length = i.size then
        match (match y with
          | .slice b o n h => match content m b h with
            | some zs => if o + n * i.size ≤ zs.length then some (n, (zs.drop o).take (n * i.size)) else none
            | none => none
          | .s (.slice none 0 0) => some (0, [])
          | _ => none) with
        | some (n, ys) =>
          if ys.all AV.one = true then
          match x with
          | .slice a o len g =>
            match m[a]? with
            | some (.cells xs g' z) =>
              if g = g' ∧ z = i.size ∧ o = 0 ∧ len * i.size ≤ xs.length ∧ len + n ≤ 68719476736 then
                some (.slice a 0 (len + n) (g + 1), m.set a (.cells (xs.take (len * i.size) ++ ys) (g + 1) z))
              else none
            | _ => none
          | .s (.slice none 0 0) =>
            if n = 0 then some (.s (.slice none 0 0), m)
            else if n ≤ 68719476736 then some (.slice m.length 0 n 0, m ++ [.cells ys 0 i.size]) else none
          | _ => none
          else none
        | none => none
      else none
    | none => none
  | _ => none

def aLen (P : Program) (m : List AO) (t : TypeId) (x : AV) : Option AV :=
  match mkTI P t, x with
  | some { d := .str, .. }, .s (.string s) => some (.s (.int .i64 s.size))
  | some { d := .slice _, .. }, .slice a _ n g => match content m a g with
    | some _ => some (.s (.int .i64 n))
    | none => none
  | some { d := .slice _, .. }, .s (.slice _ n _) => some (.s (.int .i64 n))
  | _, _ => none

def abin (op : BinOp) : Value → Value → Option Value
  | .int k a, .int k' b =>
    match op with
    | .shl => if b < 0 then none else some (.int k (k.wrap (a * 2 ^ (min b.toNat k.bits))))
    | .shr => if b < 0 then none else some (.int k (a.fdiv (2 ^ (min b.toNat k.bits))))
    | .add => if k = k' then some (.int k (k.wrap (a + b))) else none
    | .sub => if k = k' then some (.int k (k.wrap (a - b))) else none
    | .mul => if k = k' then some (.int k (k.wrap (a * b))) else none
    | .quo => if k = k' ∧ b ≠ 0 then some (.int k (k.wrap (a.tdiv b))) else none
    | .rem => if k = k' ∧ b ≠ 0 then some (.int k (a.tmod b)) else none
    | .and => if k = k' then some (.int k (k.wrap ((BitVec.ofInt k.bits a &&& BitVec.ofInt k.bits b).toNat))) else none
    | .eql => if k = k' then some (.bool (decide (a = b))) else none
    | .neq => if k = k' then some (.bool (!decide (a = b))) else none
    | .lss => if k = k' then some (.bool (decide (a < b))) else none
    | .leq => if k = k' then some (.bool (decide (a ≤ b))) else none
    | .gtr => if k = k' then some (.bool (decide (b < a))) else none
    | .geq => if k = k' then some (.bool (decide (b ≤ a))) else none
    | _ => none
  | .string a, .string b =>
    match op with
    | .add => if a.size + b.size ≤ 1099511627776 then some (.string (a ++ b)) else none
    | .eql => some (.bool (a.toList == b.toList))
    | .neq => some (.bool (!(a.toList == b.toList)))
    | .lss => some (.bool (Op.bytesLess a.toList b.toList))
    | .geq => some (.bool (!(Op.bytesLess a.toList b.toList)))
    | _ => none
  | .bool a, .bool b =>
    match op with
    | .eql => some (.bool (a == b))
    | .neq => some (.bool (!(a == b)))
    | _ => none
  | _, _ => none

def eqFsA (E : TypeId → AV → AV → Option Bool) (P : Program) (xs ys : List AV) : List (Nat × TypeId) → Option Bool
  | [] => some true
  | (off, t) :: r => match aPart P t xs off, aPart P t ys off with
    | some a, some b => match E t a b with
      | some true => eqFsA E P xs ys r
      | some false => some false
      | none => none
    | _, _ => none
def eqArA (E : TypeId → AV → AV → Option Bool) (P : Program) (e : TypeId) (sz : Nat) (xs ys : List AV) : List Nat → Option Bool
  | [] => some true
  | i :: r => match aPart P e xs (i * sz), aPart P e ys (i * sz) with
    | some a, some b => match E e a b with
      | some true => eqArA E P e sz xs ys r
      | some false => some false
      | none => none
    | _, _ => none
def plainS (P : Program) (t : TypeId) : Bool := !P.stoodInHeld t && (P.fieldsOf t).toList.all (fun f => f.name != "_")

def eqA (P : Program) : Nat → TypeId → AV → AV → Option Bool
  | 0, _, _, _ => none
  | d + 1, t, x, y => match mkTI P t, x, y with
    | some { d := .bool, .. }, .s (.bool a), .s (.bool b) => some (a == b)
    | some { d := .int _, .. }, .s (.int k a), .s (.int k' b) => if k = k' then some (a == b) else none
    | some { d := .str, .. }, .s (.string a), .s (.string b) => some (a.toList == b.toList)
    | some { d := .struct fs, .. }, .agg xs, .agg ys => if plainS P t = true then eqFsA (eqA P d) P xs ys fs else none
    | some { d := .arr n e, .. }, .agg xs, .agg ys => match mkTI P e with
      | some ei => eqArA (eqA P d) P e ei.size xs ys (List.range n)
      | none => none
    | _, _, _ => none

def aBin (P : Program) (op : BinOp) (t : TypeId) (x y : AV) : Option AV :=
  match x, y with
  | .s (.bool a), .s (.bool b) => match mkTI P t with
    | some { d := .bool, .. } => (abin op (.bool a) (.bool b)).map AV.s
    | _ => none
  | .s a, .s b => (abin op a b).map AV.s
  | .agg xs, .agg ys => if P.eqGuardType P.depth t = false then
      match op with
      | .eql => (eqA P 4 t (.agg xs) (.agg ys)).map fun b => .s (.bool b)
      | .neq => (eqA P 4 t (.agg xs) (.agg ys)).map fun b => .s (.bool (!b))
      | _ => none
    else none
  | _, _ => none

def aUn (op : UnOp) (x : AV) : Option AV :=
  match op, x with
  | .not, .s (.bool b) => some (.s (.bool (!b)))
  | .neg, .s (.int k n) => some (.s (.int k (k.wrap (0 - n))))
  | _, _ => none

def bytesOf : List AV → Option (List UInt8)
  | [] => some []
  | .s (.int .u8 n) :: r => (bytesOf r).map (UInt8.ofNat n.toNat :: ·)
  | _ => none

def aConv (P : Program) (m : List AO) (src dst : TypeId) (x : AV) : Option AV :=
  match mkTI P src, mkTI P dst, x with
  | some _, some { d := .int k, .. }, .s (.int _ n) => some (.s (.int k (k.wrap n)))
  | some { d := .slice e, .. }, some { d := .str, .. }, .slice a o len g =>
    match mkTI P e, content m a g with
    | some { d := .int .u8, .. }, some xs =>
      if o + len ≤ xs.length then (bytesOf ((xs.drop o).take len)).map fun l => .s (.string ⟨l.toArray⟩) else none
    | _, _ => none
  | _, _, _ => none

def aMin : AV → AV → Option AV
  | .s (.int k a), .s (.int k' b) => if k = k' then some (.s (.int k (if b < a then b else a))) else none
  | _, _ => none
def aMax : AV → AV → Option AV
  | .s (.int k a), .s (.int k' b) => if k = k' then some (.s (.int k (if a < b then b else a))) else none
  | _, _ => none

abbrev Env := Nat → AV
def Env.upd (e : Env) (t : Nat) (v : AV) : Env := fun s => if s = t then v else e s

def aconst : Value → AV
  | .agg _ | .tuple _ => .any
  | v => .s v

def aev (env : Env) : Operand → AV
  | .tmp t => env t
  | .const v => aconst v
  | .func f => .fn f []
  | .global _ => .any

def aop (P : Program) (op : Op) (ev : Operand → AV) (m : List AO) : Option (AV × List AO) :=
  match op with
  | .move x | .assign x => some (ev x, m)
  | .pick c a b => match ev c with
    | .s (.bool t) => some (if t = true then ev a else ev b, m)
    | _ => none
  | .alloc e => match mkTI P e with
    | some i => aNew m i.zero
    | none => none
  | .box _ x => aNew m (ev x).cs
  | .build t parts => (aBuild P t (parts.toList.map fun p => (p.1, ev p.2))).map (·, m)
  | .buildSlice t len parts => aBuildSlice P m t len (parts.toList.map fun p => (p.1, ev p.2))
  | .load t a => (aLoad P m t (ev a)).map (·, m)
  | .store t a x => (aStore P m t (ev a) (ev x)).map (AV.s undef, ·)
  | .nilCheck x => match ev x with
    | .ptr a o g => some (.ptr a o g, m)
    | _ => none
  | .binOp op t x y _ => (aBin P op t (ev x) (ev y)).map (·, m)
  | .unOp op _ x => (aUn op (ev x)).map (·, m)
  | .convert src dst x => (aConv P m src dst (ev x)).map (·, m)
  | .makeFunc (.func f) first captured => if first.size = 0 then some (.fn f (captured.toList.map ev), m) else none
  | .makeSlice t l c => aMakeSlice P m t (ev l) (ev c)
  | .slice t x lo hi none => (aSlice P m t (ev x) (lo.map ev) (hi.map ev)).map (·, m)
  | .fieldAddr t x f => (aFieldAddr P m t (ev x) f).map (·, m)
  | .field t x f => (aField P t (ev x) f).map (·, m)
  | .indexAddr t x i => (aIndexAddr P m t (ev x) (ev i)).map (·, m)
  | .index t x i => (aIndex P t (ev x) (ev i)).map (·, m)
  | .extract t i => match ev t with
    | .tup xs => (xs[i]?).map (·, m)
    | _ => none
  | .call { callee := .builtin .len, args, argTypes } =>
    match args.toList, argTypes.toList with
    | [x], [t] => (aLen P m t (ev x)).map (·, m)
    | _, _ => none
  | .call { callee := .builtin .append, args, argTypes } =>
    match args.toList, argTypes.toList with
    | [x, y], [t, u] => if t = u then aAppend P m t (ev x) (ev y) else none
    | _, _ => none
  | .call { callee := .builtin .min, args, .. } => match args.toList with
    | [x, y] => (aMin (ev x) (ev y)).map (·, m)
    | _ => none
  | .call { callee := .builtin .max, args, .. } => match args.toList with
    | [x, y] => (aMax (ev x) (ev y)).map (·, m)
    | _ => none
  | _ => none

end Go.Proofs.Ytkpjaffbbppneaa

/- Worlds and abstract memory: a new object, a stored cell, a row that grows. -/
namespace Go.Proofs.Ytkpjaffbbppneaa
open Go Go.RowKit

theorem add_lit (b o j : Nat) : (⟨b, o, none⟩ : Addr).add j = ⟨b, o + j, none⟩ := by
  unfold Addr.add
  split
  · subst_vars; rfl
  · rfl

theorem cell_heap (w : World) (b o : Nat) (cs : Array Value) (e : TypeId) (fr : Nat × Nat) (h : w.heap[b]? = some (.cells cs e fr)) : w.cell? ⟨b, o, none⟩ = cs[o]? := cell_of_row w b o cs e fr h

section
variable {B0 : Nat} {w0 w : World} {ρ : List Place} {m : List AO}

theorem Sim.place (h : Sim B0 w0 ρ m w) {a : Nat} {o : AO} (ha : m[a]? = some o) : ∃ p, ρ[a]? = some p := by
  have := (List.getElem?_eq_some_iff.1 ha).1
  exact ⟨ρ[a]'(by rw [h.len]; exact this), List.getElem?_eq_getElem _⟩

/-- What 'content' says: the cells are there. -/
theorem Sim.content (h : Sim B0 w0 ρ m w) {a g : Nat} {xs : List AV} (hc : content m a g = some xs) :
    ∃ p, ρ[a]? = some p ∧ p.gen = g ∧ ∀ (i : Nat) (x : AV), xs[i]? = some x → ∃ u, w.cell? ⟨p.blk, p.off + i, none⟩ = some u ∧ VR ρ x u := by
  unfold Ytkpjaffbbppneaa.content at hc
  cases ho : m[a]? with
  | none => simp [ho] at hc
  | some o =>
    obtain ⟨p, hp⟩ := h.place ho
    have hr := h.obj a o p ho hp
    cases o with
    | dead => simp [ho] at hc
    | amap es => simp [ho] at hc
    | cells ys g' z =>
      simp only [ho] at hc
      split at hc
      · rename_i hg
        simp at hc; subst hc
        obtain ⟨_, h2, h3, _, cs, e, h4, h5, h6, h7⟩ := hr
        refine ⟨p, hp, by rw [h3, hg], fun i x hx => ?_⟩
        obtain ⟨u, hu, hv⟩ := h7.get hx
        refine ⟨u, ?_, hv⟩
        rw [h2, Nat.zero_add, cell_heap w _ _ _ _ _ h4]
        rw [List.getElem?_take] at hu
        split at hu
        · simpa using hu
        · simp at hu
      · simp at hc
    | ro ys z =>
      simp only [ho] at hc
      split at hc
      · rename_i hg
        simp at hc; subst hc
        obtain ⟨h2, h3, _, _, h4⟩ := hr
        exact ⟨p, hp, by rw [h2, hg]; rfl, h4⟩
      · simp at hc

theorem Sim.blk_lt (h : Sim B0 w0 ρ m w) {a : Nat} {o : AO} {p : Place} (ha : m[a]? = some o) (hp : ρ[a]? = some p) (ho : o.isOwn = true) : B0 ≤ p.blk ∧ p.blk < w.heap.size := by
  have hr := h.obj a o p ha hp
  cases o with
  | dead => simp [AO.isOwn] at ho
  | ro xs z => simp [AO.isOwn] at ho
  | cells xs g z => obtain ⟨h1, _, _, _, cs, e, h4, _⟩ := hr; exact ⟨h1, (Array.getElem?_eq_some_iff.1 h4).1⟩
  | amap es => obtain ⟨h1, _, cs, c, h4, _⟩ := hr; exact ⟨h1, (Array.getElem?_eq_some_iff.1 h4).1⟩

theorem Sim.size_le (h : Sim B0 w0 ρ m w) : B0 ≤ w.heap.size := Nat.le_trans h.le h.below.size

/-- An object's fact in a world whose block for it is the same. -/
theorem ObjR.same {p : Place} {o : AO} {w' : World} (h : ObjR B0 ρ p w o) (hb : o ≠ .dead → w'.heap[p.blk]? = w.heap[p.blk]?) : ObjR B0 ρ p w' o := by
  cases o with
  | dead => exact h
  | cells xs g z =>
    obtain ⟨h1, h2, h3, h3', cs, e, h4, r⟩ := h
    exact ⟨h1, h2, h3, h3', cs, e, by rw [hb (by simp)]; exact h4, r⟩
  | amap es =>
    obtain ⟨h1, h2, cs, c, h4, r⟩ := h
    exact ⟨h1, h2, cs, c, by rw [hb (by simp)]; exact h4, r⟩
  | ro xs z =>
    obtain ⟨h1, h2, h2', h2'', h3⟩ := h
    refine ⟨h1, h2, h2', h2'', fun i x hx => ?_⟩
    obtain ⟨v, hv, hr⟩ := h3 i x hx
    exact ⟨v, (World.cell?_of_block (w := w) (hb (by simp))).trans hv, hr⟩

theorem Sim.drew (h : Sim B0 w0 ρ m w) : Sim B0 w0 ρ m w.drew :=
  ⟨h.below.drew, h.le, h.len, fun i o p ho hp => (h.obj i o p ho hp).same fun _ => rfl, h.inj⟩

theorem Sim.other_blk (h : Sim B0 w0 ρ m w) {i : Nat} {o : AO} {p : Place} (ho : m[i]? = some o) (hp : ρ[i]? = some p) (hd : o ≠ .dead) : p.blk < B0 ∨ (o.isOwn = true ∧ B0 ≤ p.blk ∧ p.blk < w.heap.size) := by
  by_cases hw : o.isOwn = true
  · exact .inr ⟨hw, h.blk_lt ho hp hw⟩
  · cases o with
    | dead => exact absurd rfl hd
    | ro xs z => exact .inl (h.obj i _ p ho hp).2.1
    | cells xs g z => simp [AO.isOwn] at hw
    | amap es => simp [AO.isOwn] at hw

/-- A new object at the end. -/
theorem Sim.push (h : Sim B0 w0 ρ m w) (ob : Obj) (o : AO) (p : Place) (hp : p.blk = w.heap.size) (hown : o.isOwn = true) (ho : ObjR B0 (ρ ++ [p]) p (w.alloc ob) o) :
    Sim B0 w0 (ρ ++ [p]) (m ++ [o]) (w.alloc ob) := by
  have hx : Ext ρ (ρ ++ [p]) := Ext.append _ _
  refine ⟨h.below.alloc h.size_le _, h.le, by simp [h.len], fun i o' p' ho' hp' => ?_, fun i j o1 o2 p1 p2 h1 h2 w1 w2 hij q1 q2 => ?_⟩
  · by_cases hi : i < m.length
    · rw [List.getElem?_append_left hi] at ho'
      rw [List.getElem?_append_left (by rw [h.len]; exact hi)] at hp'
      refine ((h.obj i o' p' ho' hp').ext hx).same fun hd => ?_
      refine Below.heap_alloc w ob _ ?_
      have := h.other_blk ho' hp' hd
      have := h.size_le
      omega
    · rw [List.getElem?_append_right (by omega)] at ho'
      rw [List.getElem?_append_right (by rw [h.len]; omega)] at hp'
      have hl := h.len
      have e0 : i - m.length = 0 := by
        have := (List.getElem?_eq_some_iff.1 ho').1; simp at this; omega
      rw [e0] at ho'; rw [show i - ρ.length = 0 by omega] at hp'
      simp at ho' hp'; subst ho'; subst hp'; exact ho
  · have key : ∀ (i : Nat) (o1 : AO) (p1 : Place), (m ++ [o])[i]? = some o1 → (ρ ++ [p])[i]? = some p1 → o1.isOwn = true → (i < m.length ∧ m[i]? = some o1 ∧ ρ[i]? = some p1 ∧ p1.blk < w.heap.size) ∨ (i = m.length ∧ p1.blk = w.heap.size) := by
      intro i o1 p1 h1 q1 w1
      by_cases hi : i < m.length
      · rw [List.getElem?_append_left hi] at h1
        rw [List.getElem?_append_left (by rw [h.len]; exact hi)] at q1
        exact .inl ⟨hi, h1, q1, (h.blk_lt h1 q1 w1).2⟩
      · have hlt := (List.getElem?_eq_some_iff.1 h1).1
        simp at hlt
        have hie : i = m.length := by omega
        have hl := h.len
        rw [List.getElem?_append_right (by omega), show i - ρ.length = 0 by omega] at q1
        simp at q1; subst q1
        exact .inr ⟨hie, hp⟩
    rcases key i o1 p1 h1 q1 w1 with ⟨a1, a2, a3, a4⟩ | ⟨a1, a2⟩ <;> rcases key j o2 p2 h2 q2 w2 with ⟨b1, b2, b3, b4⟩ | ⟨b1, b2⟩
    · exact h.inj i j o1 o2 p1 p2 a2 b2 w1 w2 hij a3 b3
    · omega
    · omega
    · omega

/-- One own object changed: its block written, or moved to a new block. -/
theorem Sim.change (h : Sim B0 w0 ρ m w) {a : Nat} {o o' : AO} {p p' : Place} {w' : World} (ha : m[a]? = some o) (hp : ρ[a]? = some p) (how : o.isOwn = true) (how' : o'.isOwn = true)
    (hx : Ext ρ (ρ.set a p')) (hb : Below B0 w w') (hblk : ∀ k, k ≠ p.blk → k < w.heap.size → w'.heap[k]? = w.heap[k]?)
    (hfresh : p'.blk = p.blk ∨ w.heap.size ≤ p'.blk) (ho : ObjR B0 (ρ.set a p') p' w' o') : Sim B0 w0 (ρ.set a p') (m.set a o') w' := by
  have hal := (List.getElem?_eq_some_iff.1 ha).1
  have hpl := (List.getElem?_eq_some_iff.1 hp).1
  have hpb := h.blk_lt ha hp how
  refine ⟨h.below.trans hb, h.le, by simp [h.len], fun i o1 p1 h1 q1 => ?_, fun i j o1 o2 p1 p2 h1 h2 w1 w2 hij q1 q2 => ?_⟩
  · by_cases hi : i = a
    · subst hi
      rw [List.getElem?_set_self hal] at h1
      rw [List.getElem?_set_self hpl] at q1
      simp at h1 q1; subst h1; subst q1; exact ho
    · rw [List.getElem?_set_ne (by omega)] at h1
      rw [List.getElem?_set_ne (by omega)] at q1
      refine ((h.obj i o1 p1 h1 q1).ext hx).same fun hd => ?_
      rcases h.other_blk h1 q1 hd with hlt | ⟨hw, _, hlt⟩
      · exact hblk _ (by omega) (by omega)
      · exact hblk _ (h.inj i a o1 o p1 p h1 ha hw how hi q1 hp) hlt
  · have key : ∀ (i : Nat) (o1 : AO) (p1 : Place), (m.set a o')[i]? = some o1 → (ρ.set a p')[i]? = some p1 → o1.isOwn = true → (i = a ∧ p1 = p') ∨ (i ≠ a ∧ m[i]? = some o1 ∧ ρ[i]? = some p1) := by
      intro i o1 p1 h1 q1 w1
      by_cases hi : i = a
      · subst hi
        rw [List.getElem?_set_self hpl] at q1
        simp at q1; exact .inl ⟨rfl, q1.symm⟩
      · rw [List.getElem?_set_ne (by omega)] at h1
        rw [List.getElem?_set_ne (by omega)] at q1
        exact .inr ⟨hi, h1, q1⟩
    rcases key i o1 p1 h1 q1 w1 with ⟨a1, a2⟩ | ⟨a1, a2, a3⟩ <;> rcases key j o2 p2 h2 q2 w2 with ⟨b1, b2⟩ | ⟨b1, b2, b3⟩
    · omega
    · subst a2
      have hlt := (h.blk_lt b2 b3 w2).2
      rcases hfresh with e | e
      · rw [e]; exact h.inj a j o o2 p p2 ha b2 how w2 (by omega) hp b3
      · omega
    · subst b2
      have hlt := (h.blk_lt a2 a3 w1).2
      rcases hfresh with e | e
      · rw [e]; exact h.inj i a o1 o p1 p a2 ha w1 how (by omega) a3 hp
      · omega
    · exact h.inj i j o1 o2 p1 p2 a2 b2 w1 w2 hij a3 b3

theorem VRs.set {xs : List AV} {vs : List Value} (h : VRs ρ xs vs) {x : AV} {v : Value} (hv : VR ρ x v) (i : Nat) : VRs ρ (xs.set i x) (vs.set i v) := by
  refine VRs.of_get (by simp [h.length]) fun j y u hy hu => ?_
  by_cases hj : i = j
  · subst hj
    have h1 := (List.getElem?_eq_some_iff.1 hy).1
    have h2 := (List.getElem?_eq_some_iff.1 hu).1
    simp at h1 h2
    rw [List.getElem?_set_self h1] at hy
    rw [List.getElem?_set_self h2] at hu
    simp at hy hu; subst hy; subst hu; exact hv
  · rw [List.getElem?_set_ne hj] at hy hu
    obtain ⟨u', hu', hr⟩ := h.get hy
    rw [hu] at hu'; simp at hu'; subst hu'; exact hr

/-- One cell of an own object stored. -/
theorem Sim.setCell (h : Sim B0 w0 ρ m w) {a g z i : Nat} {xs : List AV} {p : Place} {x : AV} {v : Value} (ha : m[a]? = some (.cells xs g z)) (hp : ρ[a]? = some p) (hi : i < xs.length) (hv : VR ρ x v) :
    Sim B0 w0 ρ (m.set a (.cells (xs.set i x) g z)) (w.setCell ⟨p.blk, i, none⟩ v) ∧ (∃ u, w.cell? ⟨p.blk, i, none⟩ = some u) ∧ w.frozen? ⟨p.blk, i, none⟩ = false := by
  have hr := h.obj a _ p ha hp
  obtain ⟨h1, h2, h3, h3', cs, e, h4, h5, h6, h7⟩ := hr
  have hs : ρ.set a p = ρ := by
    apply List.ext_getElem?
    intro j
    by_cases hj : a = j
    · subst hj; rw [List.getElem?_set_self (List.getElem?_eq_some_iff.1 hp).1, hp]
    · rw [List.getElem?_set_ne hj]
  have hset : (w.setCell ⟨p.blk, i, none⟩ v).heap[p.blk]? = some (.cells (cs.setIfInBounds i v) e (0, 0)) := heap_setCell_same w p.blk i cs e v h4
  refine ⟨?_, ⟨cs[i]'(by omega), ?_⟩, frozen_of_row w p.blk i cs e h4⟩
  · have := h.change (o' := .cells (xs.set i x) g z) (p' := p) (w' := w.setCell ⟨p.blk, i, none⟩ v) ha hp rfl rfl (by rw [hs]; exact Ext.refl _)
      ((Below.refl B0 w).setCell h1 v) (fun k hk _ => heap_setCell_other w _ k v hk) (.inl rfl)
      ⟨h1, h2, h3, h3', _, e, hset, by simp [h5], by simpa using h6, by
        rw [hs]
        have := (h7.set hv i)
        simp only [List.length_set, Array.toList_setIfInBounds]
        rw [List.take_set]; exact this⟩
    rwa [hs] at this
  · rw [cell_heap w _ _ _ _ _ h4]; exact Array.getElem?_eq_getElem (by omega)

end
end Go.Proofs.Ytkpjaffbbppneaa

/- What the model's operations on memory do, said of the abstract memory: loads, stores, new variables, literals. -/
namespace Go.Proofs.Ytkpjaffbbppneaa
open Go Go.RowKit

theorem mkTI_spec {P : Program} {t : TypeId} {i : TI} (h : mkTI P t = some i) :
    ∃ ti d z, P.info? t = some ti ∧ P.underlying t = some d ∧ ti.zero = some z ∧ i = ⟨mkTD d, ti.size, ti.bytes, z.cells.toList.map AV.s⟩ := by
  unfold mkTI at h
  cases h1 : P.info? t with
  | none => simp [h1] at h
  | some ti =>
    cases h2 : P.underlying t with
    | none => simp [h1, h2] at h
    | some d =>
      cases h3 : ti.zero with
      | none => simp [h1, h2, h3] at h
      | some z =>
        simp only [h1, h2, h3, Option.some.injEq] at h
        exact ⟨ti, d, z, rfl, rfl, h3, h.symm⟩

theorem run_sizeOf_ti {P : Program} {t : TypeId} {i : TI} (h : mkTI P t = some i) (w : World) : (sizeOf t).run P w = .ok i.size w := by
  obtain ⟨ti, d, z, h1, h2, h3, rfl⟩ := mkTI_spec h
  simp [sizeOf, typeInfo, h1]

theorem run_isAgg_ti {P : Program} {t : TypeId} {i : TI} (h : mkTI P t = some i) (w : World) : (isAgg t).run P w = .ok i.isAgg w := by
  obtain ⟨ti, d, z, h1, h2, h3, rfl⟩ := mkTI_spec h
  cases d <;> simp [Go.isAgg, run_underlying h2, TI.isAgg, mkTD]

theorem run_zero_ti {P : Program} {t : TypeId} {i : TI} (h : mkTI P t = some i) (w : World) : ∃ z, (zeroValue t).run P w = .ok z w ∧ i.zero = z.cells.toList.map AV.s := by
  obtain ⟨ti, d, z, h1, h2, h3, rfl⟩ := mkTI_spec h
  exact ⟨z, by simp [zeroValue, typeInfo, h1, h3], rfl⟩

theorem und_slice {P : Program} {t : TypeId} {i : TI} {e : TypeId} (h : mkTI P t = some i) (hd : i.d = .slice e) : P.underlying t = some (.slice e) := by
  obtain ⟨ti, d, z, h1, h2, h3, rfl⟩ := mkTI_spec h
  cases d <;> simp [mkTD] at hd
  subst hd; exact h2

theorem und_arr {P : Program} {t : TypeId} {i : TI} {n : Nat} {e : TypeId} (h : mkTI P t = some i) (hd : i.d = .arr n e) : P.underlying t = some (.array n e) := by
  obtain ⟨ti, d, z, h1, h2, h3, rfl⟩ := mkTI_spec h
  cases d <;> simp [mkTD] at hd
  obtain ⟨rfl, rfl⟩ := hd; exact h2

theorem und_struct {P : Program} {t : TypeId} {i : TI} {fs : List (Nat × TypeId)} (h : mkTI P t = some i) (hd : i.d = .struct fs) :
    ∃ f, P.underlying t = some (.struct f) ∧ fs = f.toList.map fun x => (x.offset, x.type) := by
  obtain ⟨ti, d, z, h1, h2, h3, rfl⟩ := mkTI_spec h
  cases d <;> simp [mkTD] at hd
  exact ⟨_, h2, hd.symm⟩

theorem und_str {P : Program} {t : TypeId} {i : TI} (h : mkTI P t = some i) (hd : i.d = .str) : P.underlying t = some .string := by
  obtain ⟨ti, d, z, h1, h2, h3, rfl⟩ := mkTI_spec h
  cases d <;> simp [mkTD] at hd
  exact h2

theorem und_int {P : Program} {t : TypeId} {i : TI} {k : IntKind} (h : mkTI P t = some i) (hd : i.d = .int k) : P.underlying t = some (.int k) := by
  obtain ⟨ti, d, z, h1, h2, h3, rfl⟩ := mkTI_spec h
  cases d <;> simp [mkTD] at hd
  subst hd; exact h2

theorem und_bool {P : Program} {t : TypeId} {i : TI} (h : mkTI P t = some i) (hd : i.d = .bool) : P.underlying t = some .bool := by
  obtain ⟨ti, d, z, h1, h2, h3, rfl⟩ := mkTI_spec h
  cases d <;> simp [mkTD] at hd
  exact h2

theorem VR.one {ρ : List Place} {x : AV} {v : Value} (h : VR ρ x v) (ho : x.one = true) : v.oneCell' = true ∧ v.cells = #[v] ∧ x.cs = [x] := by
  cases x with
  | any => simp [AV.one] at ho
  | s y => simp only [VR] at h; subst h; simp [AV.one] at ho; refine ⟨ho, ?_, rfl⟩; cases v <;> first | rfl | (simp [Value.oneCell'] at ho)
  | ptr a o g => simp only [VR] at h; obtain ⟨_, _, _, ⟨ad, rfl⟩, _⟩ := h; exact ⟨rfl, rfl, rfl⟩
  | slice a o l g => simp only [VR] at h; obtain ⟨_, _, _, ⟨ad, l, c, rfl⟩, _⟩ := h; exact ⟨rfl, rfl, rfl⟩
  | mp a => simp only [VR] at h; obtain ⟨_, _, _, ⟨r, rfl⟩, _⟩ := h; exact ⟨rfl, rfl, rfl⟩
  | fn f cs => simp only [VR] at h; obtain ⟨ys, rfl, _⟩ := h; exact ⟨rfl, rfl, rfl⟩
  | agg xs => simp [AV.one] at ho
  | tup xs => simp [AV.one] at ho

theorem VR.cells {ρ : List Place} {x : AV} {v : Value} (h : VR ρ x v) (ho : x.cs.all AV.one = true) : VRs ρ x.cs v.cells.toList := by
  cases x with
  | agg xs => simp only [VR] at h; obtain ⟨ys, rfl, hy⟩ := h; simpa [Value.cells, AV.cs] using hy
  | any => simp [AV.cs, AV.one] at ho
  | tup xs => simp [AV.cs, AV.one] at ho
  | s y => have := h.one (by simpa [AV.cs] using ho); rw [this.2.1]; simp only [AV.cs]; simpa [VRs] using h
  | ptr a o g => have := h.one rfl; rw [this.2.1]; simp only [AV.cs]; simpa [VRs] using h
  | slice a o l g => have := h.one rfl; rw [this.2.1]; simp only [AV.cs]; simpa [VRs] using h
  | mp a => have := h.one rfl; rw [this.2.1]; simp only [AV.cs]; simpa [VRs] using h
  | fn f cs => have := h.one rfl; rw [this.2.1]; simp only [AV.cs]; simpa [VRs] using h

theorem VRs.ones {ρ : List Place} : ∀ {xs : List AV} {vs : List Value}, VRs ρ xs vs → xs.all AV.one = true → ∀ v ∈ vs, v.oneCell' = true
  | [], [], _, _, v, hv => by simp at hv
  | x :: xs, v :: vs, h, ho, u, hu => by
    simp only [VRs] at h; simp only [List.all_cons, Bool.and_eq_true] at ho
    rcases List.mem_cons.1 hu with rfl | hu
    · exact (h.1.one ho.1).1
    · exact VRs.ones h.2 ho.2 u hu
  | [], _ :: _, h, _, _, _ => by simp [VRs] at h
  | _ :: _, [], h, _, _, _ => by simp [VRs] at h

theorem VRs.zero (ρ : List Place) : ∀ (vs : List Value), VRs ρ (vs.map AV.s) vs
  | [] => by simp [VRs]
  | v :: vs => by simp only [List.map_cons, VRs, VR, true_and]; exact VRs.zero ρ vs

theorem VRs.drop {ρ : List Place} : ∀ (n : Nat) {xs : List AV} {vs : List Value}, VRs ρ xs vs → VRs ρ (xs.drop n) (vs.drop n)
  | 0, _, _, h => by simpa using h
  | n + 1, [], [], _ => by simp [VRs]
  | n + 1, x :: xs, v :: vs, h => by simp only [VRs] at h; simpa using VRs.drop n h.2
  | _ + 1, [], _ :: _, h => by simp [VRs] at h
  | _ + 1, _ :: _, [], h => by simp [VRs] at h

theorem VRs.taken {ρ : List Place} : ∀ (n : Nat) {xs : List AV} {vs : List Value}, VRs ρ xs vs → VRs ρ (xs.take n) (vs.take n)
  | 0, _, _, _ => by simp [VRs]
  | n + 1, [], [], _ => by simp [VRs]
  | n + 1, x :: xs, v :: vs, h => by simp only [VRs] at h; simp only [List.take_succ_cons, VRs]; exact ⟨h.1, VRs.taken n h.2⟩
  | _ + 1, [], _ :: _, h => by simp [VRs] at h
  | _ + 1, _ :: _, [], h => by simp [VRs] at h

theorem VRs.app {ρ : List Place} : ∀ {xs : List AV} {vs : List Value} {ys : List AV} {us : List Value}, VRs ρ xs vs → VRs ρ ys us → VRs ρ (xs ++ ys) (vs ++ us)
  | [], [], _, _, _, h => by simpa using h
  | x :: xs, v :: vs, _, _, h, k => by simp only [VRs] at h; simp only [List.cons_append, VRs]; exact ⟨h.1, VRs.app h.2 k⟩
  | [], _ :: _, _, _, h, _ => by simp [VRs] at h
  | _ :: _, [], _, _, h, _ => by simp [VRs] at h

/-- Cells that are there, gathered. -/
theorem gather {ρ : List Place} {C : Nat → Value → Prop} : ∀ (ys : List AV), (∀ (i : Nat) (y : AV), ys[i]? = some y → ∃ u, C i u ∧ VR ρ y u) → ∃ us : List Value, VRs ρ ys us ∧ ∀ (i : Nat) (u : Value), us[i]? = some u → C i u := by
  intro ys
  induction ys generalizing C with
  | nil => exact fun _ => ⟨[], by simp [VRs], fun i u h => by simp at h⟩
  | cons y ys ih =>
    intro h
    obtain ⟨u, hu, hr⟩ := h 0 y rfl
    obtain ⟨us, h1, h2⟩ := ih (C := fun i u => C (i + 1) u) (fun i z hz => h (i + 1) z (by simpa using hz))
    refine ⟨u :: us, by simp only [VRs]; exact ⟨hr, h1⟩, fun i x hx => ?_⟩
    cases i with
    | zero => simp at hx; subst hx; exact hu
    | succ i => exact h2 i x (by simpa using hx)

section
variable {P : Program} {B0 : Nat} {w0 w : World} {ρ : List Place} {m : List AO}

theorem ptr_here {a o g : Nat} {xs : List AV} {v : Value} (h : Sim B0 w0 ρ m w) (hc : content m a g = some xs) (hv : VR ρ (.ptr a o g) v) :
    ∃ p, ρ[a]? = some p ∧ v = .pointer (some ⟨p.blk, p.off + o, none⟩) ∧ p.gen = g ∧ ∀ (i : Nat) (x : AV), xs[i]? = some x → ∃ u, w.cell? ⟨p.blk, p.off + i, none⟩ = some u ∧ VR ρ x u := by
  obtain ⟨p, hp, hg, hx⟩ := h.content hc
  simp only [VR] at hv
  obtain ⟨q, hq, _, _, h4⟩ := hv
  rw [hp] at hq; simp at hq; subst hq
  exact ⟨p, hp, h4 hg.symm, hg, hx⟩

theorem row_cells (h : Sim B0 w0 ρ m w) {a g : Nat} {xs : List AV} {p : Place} (hx : ∀ (i : Nat) (x : AV), xs[i]? = some x → ∃ u, w.cell? ⟨p.blk, p.off + i, none⟩ = some u ∧ VR ρ x u) (o n : Nat) (hn : o + n ≤ xs.length) :
    ∃ us : List Value, us.length = n ∧ VRs ρ ((xs.drop o).take n) us ∧ ∀ (j : Nat) (u : Value), us[j]? = some u → w.cell? ((⟨p.blk, p.off + o, none⟩ : Addr).add j) = some u := by
  obtain ⟨us, h1, h2⟩ := gather (ρ := ρ) (C := fun i u => w.cell? ⟨p.blk, p.off + (o + i), none⟩ = some u) ((xs.drop o).take n) (fun i y hy => by
    rw [List.getElem?_take] at hy
    split at hy
    · rw [List.getElem?_drop] at hy; exact hx _ y hy
    · simp at hy)
  refine ⟨us, ?_, h1, fun j u hu => ?_⟩
  · have := h1.length; simp at this; omega
  · rw [add_lit, Nat.add_assoc]; exact h2 j u hu

theorem load_sound (h : Sim B0 w0 ρ m w) {t : TypeId} {x y : AV} {v : Value} (ha : aLoad P m t x = some y) (hv : VR ρ x v) : ∃ u, (Instr.loadAt t v).run P w = .ok u w ∧ VR ρ y u := by
  cases x with
  | ptr a o g =>
    simp only [aLoad] at ha
    cases hc : content m a g with
    | none => simp [hc] at ha
    | some xs =>
      cases hi : mkTI P t with
      | none => simp [hc, hi] at ha
      | some i =>
        simp only [hc, hi] at ha
        obtain ⟨p, hp, rfl, hg, hx⟩ := ptr_here h hc hv
        by_cases hagg : i.isAgg = true
        · simp only [hagg, if_true] at ha
          split at ha
          · rename_i hle
            simp at ha; subst ha
            obtain ⟨us, h1, h2, h3⟩ := row_cells h (g := g) hx o i.size hle (a := a)
            refine ⟨.agg us.toArray, ?_, by simp only [VR]; exact ⟨_, rfl, by simpa using h2⟩⟩
            have hl := run_loadCells_list (P := P) w _ us h3
            rw [h1] at hl
            simp [Instr.loadAt, Instr.sureAddr, loadVar, run_isAgg_ti hi, hagg, run_sizeOf_ti hi, hl]
          · simp at ha
        · simp only [hagg] at ha
          obtain ⟨u, hu, hr⟩ := hx o y ha
          refine ⟨u, ?_, hr⟩
          have hagg' : i.isAgg = false := by simpa using hagg
          simp [Instr.loadAt, Instr.sureAddr, loadVar, run_isAgg_ti hi, hagg', run_load, hu]
  | _ => simp [aLoad] at ha

theorem spl_length : ∀ (ys xs : List AV) (o : Nat), (spl xs o ys).length = xs.length
  | [], xs, o => rfl
  | y :: ys, xs, o => by simp [spl, spl_length ys]

theorem spl_full : ∀ (ys xs pre : List AV), xs.length = ys.length → spl (pre ++ xs) pre.length ys = pre ++ ys
  | [], xs, pre, h => by simp at h; subst h; simp [spl]
  | y :: ys, [], pre, h => by simp at h
  | y :: ys, x :: xs, pre, h => by
    simp only [spl]
    have := spl_full ys xs (pre ++ [y]) (by simpa using h)
    simp at this
    rw [← this]; congr 1
    simp [List.set_append]

theorem splice_eq (xs : List AV) (o : Nat) (ys : List AV) : splice xs o ys = spl xs o ys := by
  unfold splice
  split
  · rename_i h
    obtain ⟨rfl, hl⟩ := h
    have := spl_full ys xs [] hl
    simpa using this.symm
  · rfl

theorem storeCells_sound {a g z : Nat} {p : Place} : ∀ (ys : List AV) (vs : List Value) (xs : List AV) (o i : Nat) (w : World) (m : List AO), Sim B0 w0 ρ m w → m[a]? = some (.cells xs g z) → ρ[a]? = some p → VRs ρ ys vs → ys.all AV.one = true → o + i + ys.length ≤ xs.length →
    ∃ w', (storeCells ⟨p.blk, o, none⟩ vs i).run P w = .ok () w' ∧ Sim B0 w0 ρ (m.set a (.cells (spl xs (o + i) ys) g z)) w'
  | [], [], xs, o, i, w, m, h, ha, hp, _, _, _ => by
    refine ⟨w, by simp [storeCells], ?_⟩
    have : m.set a (.cells xs g z) = m := by
      apply List.ext_getElem?; intro j
      by_cases hj : a = j
      · subst hj; rw [List.getElem?_set_self (List.getElem?_eq_some_iff.1 ha).1, ha]
      · rw [List.getElem?_set_ne hj]
    simp only [spl]; rwa [this]
  | y :: ys, v :: vs, xs, o, i, w, m, h, ha, hp, hr, ho, hl => by
    simp only [VRs] at hr; simp only [List.all_cons, Bool.and_eq_true] at ho; simp only [List.length_cons] at hl
    obtain ⟨h1, ⟨u, h2⟩, h3⟩ := h.setCell (i := o + i) ha hp (by omega) hr.1
    have hal := (List.getElem?_eq_some_iff.1 ha).1
    obtain ⟨w', h4, h5⟩ := storeCells_sound ys vs (xs.set (o + i) y) o (i + 1) _ _ h1 (List.getElem?_set_self hal) hp hr.2 ho.2 (by simp; omega)
    refine ⟨w', ?_, ?_⟩
    · simp only [storeCells, Sem.run_bind, add_lit]
      rw [run_store P w _ _ _ (hr.1.one ho.1).1]
      simp only [h2, h3, Bool.false_eq_true, if_false, Result.andThen_ok]
      exact h4
    · simp only [List.set_set] at h5
      simp only [spl, Nat.add_assoc]
      exact h5
  | [], _ :: _, _, _, _, _, _, _, _, _, hr, _, _ => by simp [VRs] at hr
  | _ :: _, [], _, _, _, _, _, _, _, _, hr, _, _ => by simp [VRs] at hr

theorem store_sound (h : Sim B0 w0 ρ m w) {t : TypeId} {x y : AV} {v u : Value} {m' : List AO} (ha : aStore P m t x y = some m') (hv : VR ρ x v) (hu : VR ρ y u) : ∃ w', (Instr.storeAt t v u).run P w = .ok () w' ∧ Sim B0 w0 ρ m' w' := by
  cases x with
  | ptr a o g =>
    simp only [aStore] at ha
    cases hm : m[a]? with
    | none => simp [hm] at ha
    | some ob =>
      cases ob with
      | cells xs g' z =>
        cases hi : mkTI P t with
        | none => simp [hm, hi] at ha
        | some i =>
          simp only [hm, hi] at ha
          split at ha
          · rename_i hc
            obtain ⟨hg, hl, hle, ho⟩ := hc
            simp at ha; subst ha
            have hcont : content m a g = some xs := by simp [content, hm, hg]
            obtain ⟨p, hp, rfl, hgen, _⟩ := ptr_here h hcont hv
            obtain ⟨_, hoff, _⟩ := h.obj a _ p hm hp
            have hcs := hu.cells ho
            obtain ⟨w', h1, h2⟩ := storeCells_sound (P := P) y.cs u.cells.toList xs o 0 w m h hm hp hcs ho (by omega)
            refine ⟨w', ?_, by rw [splice_eq]; exact h2⟩
            have hsz : u.cells.size = i.size := by have := hcs.length; simp at this; omega
            simp [Instr.storeAt, Instr.sureAddr, storeVar, run_sizeOf_ti hi, hsz, hoff, h1]
          · simp at ha
      | _ => simp [hm] at ha
  | _ => simp [aStore] at ha

theorem new_sound (h : Sim B0 w0 ρ m w) {xs : List AV} {x : AV} {m' : List AO} (cs : Array Value) (e : TypeId) (hr : VRs ρ xs cs.toList) (ha : aNew m xs = some (x, m')) :
    ∃ ρ', (newRow e cs).run P w = .ok ⟨w.heap.size, 0, none⟩ (w.alloc (.cells cs e)) ∧ Sim B0 w0 ρ' m' (w.alloc (.cells cs e)) ∧ Ext ρ ρ' ∧ VR ρ' x (.pointer (some ⟨w.heap.size, 0, none⟩)) := by
  unfold aNew at ha
  split at ha
  · simp at ha; obtain ⟨rfl, rfl⟩ := ha
    have hx : Ext ρ (ρ ++ [⟨w.heap.size, 0, cs.size, 1, 0⟩]) := Ext.append _ _
    refine ⟨ρ ++ [⟨w.heap.size, 0, cs.size, 1, 0⟩], by simp [newRow], ?_, hx, ?_⟩
    · refine h.push _ _ _ rfl rfl ⟨h.size_le, rfl, rfl, rfl, cs, e, heap_alloc_new w _, rfl, ?_, ?_⟩
      · have := hr.length; simp at this; simp [this]
      · have := hr.length; rw [this, List.take_length]; exact VRs.ext hx _ _ hr
    · simp only [VR]
      refine ⟨_, by rw [← h.len]; exact List.getElem?_concat_length, Int.le_refl _, ⟨_, rfl⟩, fun _ => rfl⟩
  · simp at ha

end
end Go.Proofs.Ytkpjaffbbppneaa

/- What the model's operations do, said of the abstract memory: literals, made slices, addresses, appends, numbers. -/
namespace Go.Proofs.Ytkpjaffbbppneaa
open Go Go.RowKit

section
variable {P : Program} {B0 : Nat} {w0 w : World} {ρ : List Place} {m : List AO}

/-- The parts of a literal, by value. -/
inductive PartsR (ρ : List Place) : List (Nat × AV) → List (Nat × Value) → Prop
  | nil : PartsR ρ [] []
  | cons {i : Nat} {x : AV} {v : Value} {xs : List (Nat × AV)} {vs : List (Nat × Value)} : VR ρ x v → PartsR ρ xs vs → PartsR ρ ((i, x) :: xs) ((i, v) :: vs)

theorem foldl_spl {ρ : List Place} : ∀ (ys : List AV) (vs : List Value) (k : Nat) (off : Nat) (xs : List AV) (cs : Array Value), VRs ρ ys vs → VRs ρ xs cs.toList →
    VRs ρ (spl xs (off + k) ys) ((vs.zipIdx k).foldl (fun (cs : Array Value) (cj : Value × Nat) => cs.setIfInBounds (off + cj.2) cj.1) cs).toList
  | [], [], k, off, xs, cs, _, h => by simpa [spl] using h
  | y :: ys, v :: vs, k, off, xs, cs, hr, h => by
    simp only [VRs] at hr
    simp only [List.zipIdx_cons, List.foldl_cons, spl]
    have := foldl_spl ys vs (k + 1) off (xs.set (off + k) y) (cs.setIfInBounds (off + k) v) hr.2 (by rw [Array.toList_setIfInBounds]; exact h.set hr.1 _)
    rw [Nat.add_assoc]; exact this
  | [], _ :: _, _, _, _, _, hr, _ => by simp [VRs] at hr
  | _ :: _, [], _, _, _, _, hr, _ => by simp [VRs] at hr

theorem fill_sound {pl : Nat → Option (Nat × Nat)} : ∀ (ps : List (Nat × AV)) (qs : List (Nat × Value)) (xs ys : List AV) (cs : Array Value), PartsR ρ ps qs → VRs ρ xs cs.toList → fillA pl xs ps = some ys →
    ∃ cs', Instr.fill pl cs qs = some cs' ∧ VRs ρ ys cs'.toList
  | _, _, xs, ys, cs, .nil, h, hf => by simp [fillA] at hf; subst hf; exact ⟨cs, rfl, h⟩
  | _, _, xs, ys, cs, .cons (i := i) (x := x) (v := v) (xs := ps) (vs := qs) hv hr, h, hf => by
    simp only [fillA] at hf
    cases hp : pl i with
    | none => simp [hp] at hf
    | some os =>
      obtain ⟨off, size⟩ := os
      simp only [hp] at hf
      split at hf
      · rename_i hc
        obtain ⟨h1, h2, h3⟩ := hc
        have hcs := hv.cells h3
        have hl := hcs.length
        have hl2 := h.length
        simp at hl hl2
        have hstep := foldl_spl x.cs v.cells.toList 0 off xs cs hcs h
        simp only [Nat.add_zero] at hstep
        rw [splice_eq] at hf
        obtain ⟨cs', h4, h5⟩ := fill_sound ps qs _ ys _ hr hstep hf
        refine ⟨cs', ?_, h5⟩
        simp only [Instr.fill, hp]
        rw [if_neg (by simp; omega)]
        rw [← h4]
        congr 1
        rw [← Array.foldl_toList, Array.toList_zipIdx]
      · simp at hf

theorem build_sound {t : TypeId} {ps : List (Nat × AV)} {qs : List (Nat × Value)} {x : AV} (hr : PartsR ρ ps qs) (ha : aBuild P t ps = some x) (w : World) :
    ∃ v, (Instr.build t qs.toArray).run P w = .ok v w ∧ VR ρ x v := by
  unfold aBuild at ha
  cases hi : mkTI P t with
  | none => simp [hi] at ha
  | some i =>
    simp only [hi] at ha
    cases hd : i.d with
    | struct fs =>
      simp only [hd] at ha
      obtain ⟨f, hu, rfl⟩ := und_struct hi hd
      obtain ⟨z, hz, hz2⟩ := run_zero_ti hi w
      split at ha
      · rename_i hall0
        have hall : ∀ g ∈ f.toList, ∃ k, mkTI P g.type = some k := by
          intro g hg
          simp only [List.all_eq_true, List.mem_map, forall_exists_index, and_imp] at hall0
          exact Option.isSome_iff_exists.1 (hall0 _ g hg rfl)
        split at ha
        · rename_i ys hfl
          simp only [Option.some.injEq] at ha; subst ha
          have hpl : ∀ (l : List Field), (∀ g ∈ l, ∃ k, mkTI P g.type = some k) → (l.mapM (fun (f : Field) => do pure (f.offset, ← sizeOf f.type) : Field → Sem (Nat × Nat))).run P w = .ok (l.map fun g => (g.offset, ((mkTI P g.type).map (·.size)).getD 0)) w := by
            intro l
            induction l with
            | nil => intro _; simp
            | cons g l ih =>
              intro hg
              obtain ⟨k, hk⟩ := hg g (by simp)
              have := ih fun g' hg' => hg g' (by simp [hg'])
              simp only [List.mapM_cons, Sem.run_bind, run_sizeOf_ti hk, Result.andThen_ok, Sem.run_pure, this, List.map_cons, hk, Option.map_some, Option.getD_some]
          have hfun : (fun j => ((List.map (fun (x : Field) => (x.offset, x.type)) f.toList)[j]?).bind fun f => (mkTI P f.2).map fun k => (f.1, k.size)) =
              fun (j : Nat) => ((f.toList.map fun g => (g.offset, ((mkTI P g.type).map (·.size)).getD 0)).toArray)[j]? := by
            funext j
            simp only [List.getElem?_map, List.getElem?_toArray]
            cases hj : f.toList[j]? with
            | none => rfl
            | some g =>
              obtain ⟨k, hk⟩ := hall g (List.mem_of_getElem? hj)
              simp [hk]
          rw [hfun] at hfl
          obtain ⟨cs', h1, h2⟩ := fill_sound (ρ := ρ) ps qs i.zero ys z.cells hr (by rw [hz2]; exact VRs.zero _ _) hfl
          refine ⟨.agg cs', ?_, by simp only [VR]; exact ⟨_, rfl, h2⟩⟩
          have hm := hpl f.toList hall
          simp only [Instr.build, Sem.run_bind, hz, Result.andThen_ok, run_underlying hu]
          rw [Array.mapM_eq_mapM_toList]
          simp only [Sem.run_map, hm, Result.andThen_ok]
          simp only [h1, Sem.run_pure]
        · simp at ha
      · simp at ha
    | arr n e =>
      simp only [hd] at ha
      have hu := und_arr hi hd
      obtain ⟨z, hz, hz2⟩ := run_zero_ti hi w
      cases he : mkTI P e with
      | none => simp [he] at ha
      | some ei =>
        simp only [he] at ha
        split at ha
        · rename_i ys hfl
          simp only [Option.some.injEq] at ha; subst ha
          obtain ⟨cs', h1, h2⟩ := fill_sound (ρ := ρ) ps qs i.zero ys z.cells hr (by rw [hz2]; exact VRs.zero _ _) hfl
          refine ⟨.agg cs', ?_, by simp only [VR]; exact ⟨_, rfl, h2⟩⟩
          simp only [Instr.build, Sem.run_bind, hz, Result.andThen_ok, run_underlying hu, run_sizeOf_ti he, h1, Sem.run_pure]
        · simp at ha
    | _ => simp [hd] at ha

end
end Go.Proofs.Ytkpjaffbbppneaa

/- What the model's operations do, said of the abstract memory: made slices, addresses, parts, cuts. -/
namespace Go.Proofs.Ytkpjaffbbppneaa
open Go Go.RowKit

theorem zrep_length (n : Nat) (l : List AV) : (zrep n l).length = n * l.length := by
  induction n with
  | zero => simp [zrep]
  | succ n ih => simp only [zrep, List.replicate_succ, List.flatten_cons, List.length_append] at ih ⊢; rw [ih, Nat.succ_mul, Nat.add_comm]

theorem zrep_get (l : List AV) : ∀ (n j : Nat), j < n * l.length → (zrep n l)[j]? = l[j % l.length]?
  | 0, j, h => by simp at h
  | n + 1, j, h => by
    simp only [zrep, List.replicate_succ, List.flatten_cons]
    by_cases hj : j < l.length
    · rw [List.getElem?_append_left hj, Nat.mod_eq_of_lt hj]
    · rw [List.getElem?_append_right (by omega)]
      have := zrep_get l n (j - l.length) (by rw [Nat.succ_mul] at h; omega)
      rw [zrep] at this
      rw [this, ← Nat.mod_eq_sub_mod (by omega)]

section
variable {P : Program} {B0 : Nat} {w0 w : World} {ρ : List Place} {m : List AO}

theorem made_rel (ρ : List Place) (z : Array Value) (n : Nat) (hz : 0 < z.size) : VRs ρ (zrep n (z.toList.map AV.s)) ((Array.range (n * z.size)).map (z[· % z.size]!)).toList := by
  refine VRs.of_get (by simp [zrep_length]) fun j x v hx hv => ?_
  have hj : j < n * z.size := by
    have := (List.getElem?_eq_some_iff.1 hv).1; simpa using this
  rw [zrep_get _ n j (by simpa using hj)] at hx
  have hm : j % z.size < z.size := Nat.mod_lt _ hz
  simp [hj] at hv
  simp [hm] at hx
  subst hx; subst hv
  simp only [VR]
  simp [getElem!_pos z (j % z.size) hm]

theorem buildSlice_sound (h : Sim B0 w0 ρ m w) {t : TypeId} {len : Nat} {ps : List (Nat × AV)} {qs : List (Nat × Value)} {x : AV} {m' : List AO} (hr : PartsR ρ ps qs) (ha : aBuildSlice P m t len ps = some (x, m')) :
    ∃ v w' ρ', (Instr.buildSlice t len qs.toArray).run P w = .ok v w' ∧ Sim B0 w0 ρ' m' w' ∧ Ext ρ ρ' ∧ VR ρ' x v := by
  unfold aBuildSlice at ha
  split at ha
  · rename_i e sz by_ ze hi
    split at ha
    · rename_i i hie
      split at ha
      · rename_i hc
        obtain ⟨hs, hzl, hbig⟩ := hc
        split at ha
        · rename_i xs hf
          simp only [Option.some.injEq, Prod.mk.injEq] at ha
          obtain ⟨rfl, rfl⟩ := ha
          have hu := und_slice hi rfl
          obtain ⟨z, hz, hz2⟩ := run_zero_ti hie w
          have hzs : z.cells.size = i.size := by rw [← hzl, hz2]; simp
          have hrel := made_rel ρ z.cells len (by omega)
          rw [← hz2] at hrel
          obtain ⟨cs, h1, h2⟩ := fill_sound ps qs _ xs _ hr hrel hf
          have hx : Ext ρ (ρ ++ [⟨w.heap.size, 0, cs.size, i.size, 0⟩]) := Ext.append _ _
          have hr0 : Array.range 0 = #[] := rfl
          have hlx := h2.length
          have hcs : cs.size = len * i.size := by
            have hfl : ∀ (pl : Nat → Option (Nat × Nat)) (ps : List (Nat × AV)) (xs ys : List AV), fillA pl xs ps = some ys → ys.length = xs.length := by
              intro pl ps
              induction ps with
              | nil => intro xs ys hh; simp [fillA] at hh; rw [hh]
              | cons p ps ih =>
                intro xs ys hh
                simp only [fillA] at hh
                split at hh
                · simp at hh
                · split at hh
                  · have := ih _ _ hh; rw [this, splice_eq, spl_length]
                  · simp at hh
            have := hfl _ _ _ _ hf
            rw [zrep_length, hzl] at this
            simp at hlx; omega
          refine ⟨.slice (some ⟨w.heap.size, 0, none⟩) len len, w.alloc (.cells cs e), ρ ++ [⟨w.heap.size, 0, cs.size, i.size, 0⟩], ?_, ?_, hx, ?_⟩
          · by_cases h0 : len * i.size = 0
            · have h1' : Instr.fill (fun i_1 => some (i_1 * i.size, i.size)) #[] qs = some cs := by
                rw [hzs, h0] at h1; simpa [hr0] using h1
              simp [Instr.buildSlice, run_underlying hu, run_sizeOf_ti hie, h0, h1', newRow, hr0]
            · have hb' : ¬ (16777216 < len * i.size) := by omega
              rw [hzs] at h1
              simp [Instr.buildSlice, run_underlying hu, run_sizeOf_ti hie, h0, hb', hz, hzs, h1, newRow]
          · refine h.push _ _ _ rfl rfl ⟨h.size_le, rfl, rfl, rfl, cs, e, heap_alloc_new w _, rfl, by simp at hlx; simp [hlx], ?_⟩
            rw [hlx, List.take_length]; exact VRs.ext hx _ _ h2
          · simp only [VR]
            refine ⟨_, by rw [← h.len]; exact List.getElem?_concat_length, Int.le_refl _, ⟨_, _, _, rfl⟩, fun _ => ⟨hs, _, _, rfl, Nat.le_refl _, by simp [hcs], rfl, rfl, .inl rfl⟩⟩
        · simp at ha
      · simp at ha
    · simp at ha
  · simp at ha

theorem makeSlice_sound (h : Sim B0 w0 ρ m w) {t : TypeId} {x y r : AV} {u v : Value} {m' : List AO} (hx : VR ρ x u) (hy : VR ρ y v) (ha : aMakeSlice P m t x y = some (r, m')) :
    ∃ v' w' ρ', (Instr.makeSlice t u v).run P w = .ok v' w' ∧ Sim B0 w0 ρ' m' w' ∧ Ext ρ ρ' ∧ VR ρ' r v' := by
  unfold aMakeSlice at ha
  split at ha
  · rename_i l c
    simp only [VR] at hx hy; subst hx; subst hy
    split at ha
    · rename_i e sz by_ ze hi
      split at ha
      · rename_i i hie
        split at ha
        · rename_i hc
          obtain ⟨h0, hlc, hcb, hb, hs, hzl⟩ := hc
          simp only [Option.some.injEq, Prod.mk.injEq] at ha
          obtain ⟨rfl, rfl⟩ := ha
          obtain ⟨ti, d, z, e1, e2, e3, rfl⟩ := mkTI_spec hie
          simp only at hb hs hzl
          have hu := und_slice hi rfl
          have hzs : z.cells.size = ti.size := by simpa using hzl
          have hbytes : (ti.bytes : Int) * c ≤ 281474976710656 := by
            have h1 : (ti.bytes : Int) * c ≤ 1024 * c := Int.mul_le_mul_of_nonneg_right (by omega) (by omega)
            omega
          have hrun := run_make (P := P) w t e ti z hu e1 e3 .i64 .i64 l c h0 hlc hbytes (by omega)
          have hrel := made_rel ρ z.cells c.toNat (by omega)
          rw [hzs] at hrel
          have hcl : l.toNat ≤ c.toNat := by omega
          have hext : Ext ρ (ρ ++ [⟨w.heap.size, 0, c.toNat * ti.size, ti.size, 0⟩]) := Ext.append _ _
          refine ⟨_, _, ρ ++ [⟨w.heap.size, 0, c.toNat * ti.size, ti.size, 0⟩], hrun, ?_, hext, ?_⟩
          · refine h.push _ _ _ rfl rfl ⟨h.size_le, rfl, rfl, rfl, _, e, heap_alloc_new w _, by simp [size_madeCells], ?_, ?_⟩
            · simp only [zrep_length, List.length_map, Array.length_toList, hzs]; exact Nat.mul_le_mul_right _ hcl
            · have hm := made_rel (ρ ++ [⟨w.heap.size, 0, c.toNat * ti.size, ti.size, 0⟩]) z.cells c.toNat (by omega)
              have ht := hm.taken (zrep l.toNat (List.map AV.s z.cells.toList)).length
              have he : (zrep c.toNat (List.map AV.s z.cells.toList)).take (zrep l.toNat (List.map AV.s z.cells.toList)).length = zrep l.toNat (List.map AV.s z.cells.toList) := by
                obtain ⟨d, hd⟩ := Nat.exists_eq_add_of_le hcl
                rw [hd]
                have : ∀ (l : List AV) (a b : Nat), zrep (a + b) l = zrep a l ++ zrep b l := by
                  intro l a b; simp [zrep, ← List.replicate_append_replicate]
                rw [this, List.take_left']
                rfl
              rw [he] at ht
              unfold madeCells
              rw [← hzs] at ht ⊢
              exact ht
          · simp only [VR]
            refine ⟨_, by rw [← h.len]; exact List.getElem?_concat_length, Int.le_refl _, ⟨_, _, _, rfl⟩, fun _ => ⟨hs, _, _, rfl, hcl, by simp, rfl, rfl, .inl rfl⟩⟩
        · simp at ha
      · simp at ha
    · simp at ha
  · simp at ha

theorem fieldAddr_sound (h : Sim B0 w0 ρ m w) {t : TypeId} {x y : AV} {f : Nat} {v : Value} (hv : VR ρ x v) (ha : aFieldAddr P m t x f = some y) : ∃ u, (Instr.fieldAt t v f).run P w = .ok u w ∧ VR ρ y u := by
  unfold aFieldAddr at ha
  split at ha
  · rename_i _ _ a o g fs sz by_ ze hi
    split at ha
    · rename_i _ _ off ft xs hf hc
      split at ha
      · rename_i i hif
        split at ha
        · simp at ha
        · rename_i hs
          simp only [Option.some.injEq] at ha; subst ha
          obtain ⟨p, hp, rfl, hg, _⟩ := ptr_here h hc hv
          obtain ⟨fl, hu, rfl⟩ := und_struct hi rfl
          have hfe : ∃ F : Field, fl[f]? = some F ∧ F.offset = off ∧ F.type = ft := by
            simp only [List.getElem?_map, Array.getElem?_toList] at hf
            cases hF : fl[f]? with
            | none => simp [hF] at hf
            | some F => simp [hF] at hf; exact ⟨F, rfl, hf.1, hf.2⟩
          obtain ⟨F, hF, rfl, rfl⟩ := hfe
          refine ⟨.pointer (some ⟨p.blk, p.off + (o + F.offset), none⟩), ?_, ?_⟩
          · simp [Instr.fieldAt, run_underlying hu, hF, Instr.sureAddr, fieldPlace, run_sizeOf_ti hif, hs, add_lit, Nat.add_assoc]
          · simp only [VR]; exact ⟨p, hp, by omega, ⟨_, rfl⟩, fun _ => rfl⟩
      · simp at ha
    · simp at ha
  · simp at ha

theorem part_sound {t : TypeId} {xs : List AV} {cs : Array Value} {off : Nat} {y : AV} (hr : VRs ρ xs cs.toList) (ha : aPart P t xs off = some y) (w : World) : ∃ u, (part t cs off).run P w = .ok u w ∧ VR ρ y u := by
  unfold aPart at ha
  split at ha
  · rename_i i hi
    by_cases hagg : i.isAgg = true
    · simp only [hagg, if_true, Option.some.injEq] at ha; subst ha
      refine ⟨.agg (cs.extract off (off + i.size)), ?_, ?_⟩
      · simp [part, run_isAgg_ti hi, hagg, run_sizeOf_ti hi]
      · simp only [VR]
        refine ⟨_, rfl, ?_⟩
        have := (hr.drop off).taken i.size
        simpa [Array.toList_extract] using this
    · have hagg' : i.isAgg = false := by simpa using hagg
      simp only [hagg', Bool.false_eq_true, if_false] at ha
      obtain ⟨u, hu, hv⟩ := hr.get ha
      exact ⟨u, by simp [part, run_isAgg_ti hi, hagg', show cs[off]? = some u by simpa using hu], hv⟩
  · simp at ha

theorem field_sound {t : TypeId} {x y : AV} {f : Nat} {v : Value} (hv : VR ρ x v) (ha : aField P t x f = some y) (w : World) : ∃ u, (Instr.field t v f).run P w = .ok u w ∧ VR ρ y u := by
  unfold aField at ha
  split at ha
  · rename_i _ _ xs fs sz by_ ze hi
    split at ha
    · rename_i _ off ft hf
      simp only [VR] at hv
      obtain ⟨cs, rfl, hr⟩ := hv
      obtain ⟨fl, hu, rfl⟩ := und_struct hi rfl
      have hfe : ∃ F : Field, fl[f]? = some F ∧ F.offset = off ∧ F.type = ft := by
        simp only [List.getElem?_map, Array.getElem?_toList] at hf
        cases hF : fl[f]? with
        | none => simp [hF] at hf
        | some F => simp [hF] at hf; exact ⟨F, rfl, hf.1, hf.2⟩
      obtain ⟨F, hF, rfl, rfl⟩ := hfe
      obtain ⟨u, h1, h2⟩ := part_sound hr ha w
      exact ⟨u, by simp [Instr.field, run_underlying hu, hF, asAgg, h1], h2⟩
    · simp at ha
  · simp at ha

theorem slice_here {a o len g : Nat} {xs : List AV} {v : Value} (h : Sim B0 w0 ρ m w) (hc : content m a g = some xs) (hv : VR ρ (.slice a o len g) v) :
    ∃ p ad cap, ρ[a]? = some p ∧ p.gen = g ∧ v = .slice (some ad) len cap ∧ 0 < p.esz ∧ len ≤ cap ∧ o + cap * p.esz = p.room ∧ ad.spot = none ∧ ad.block = p.blk ∧ (ad.off = p.off + o ∨ cap = 0) ∧
      ∀ (i : Nat) (x : AV), xs[i]? = some x → ∃ u, w.cell? ⟨p.blk, p.off + i, none⟩ = some u ∧ VR ρ x u := by
  obtain ⟨p, hp, hg, hx⟩ := h.content hc
  simp only [VR] at hv
  obtain ⟨q, hq, _, _, h4⟩ := hv
  rw [hp] at hq; simp at hq; subst hq
  obtain ⟨h5, ad, cap, h6, h7, h8, h9, h10, h11⟩ := h4 hg.symm
  exact ⟨p, ad, cap, hp, hg, h6, h5, h7, h8, h9, h10, h11, hx⟩

theorem indexAddr_sound (h : Sim B0 w0 ρ m w) {t : TypeId} {x y r : AV} {u v : Value} (hv : VR ρ x v) (hy : VR ρ y u) (ha : aIndexAddr P m t x y = some r) : ∃ q, (Instr.indexAt t v u).run P w = .ok q w ∧ VR ρ r q := by
  unfold aIndexAddr at ha
  split at ha
  · rename_i k iv
    simp only [VR] at hy; subst hy
    split at ha
    · rename_i _ _ n e sz by_ ze a o g hi
      split at ha
      · rename_i _ _ ei xs hie hc
        split at ha
        · rename_i hb
          simp only [Option.some.injEq] at ha; subst ha
          obtain ⟨p, hp, rfl, hg, _⟩ := ptr_here h hc hv
          have hu := und_arr hi rfl
          refine ⟨.pointer (some ⟨p.blk, p.off + (o + iv.toNat * ei.size), none⟩), ?_, ?_⟩
          · simp [Instr.indexAt, asIntOf, run_underlying hu, Instr.sureAddr, hb, run_sizeOf_ti hie, add_lit, Nat.add_assoc]
          · simp only [VR]; exact ⟨p, hp, by omega, ⟨_, rfl⟩, fun _ => rfl⟩
        · simp at ha
      · simp at ha
    · rename_i _ _ e sz by_ ze a o len g hi
      split at ha
      · rename_i _ _ ei xs hie hc
        split at ha
        · rename_i hb
          simp only [Option.some.injEq] at ha; subst ha
          obtain ⟨p, ad, cap, hp, hg, rfl, hez, hlc, hroom, hsp, hbl, hoff, _⟩ := slice_here h hc hv
          have hu := und_slice hi rfl
          have hoff' : ad.off = p.off + o := by rcases hoff with e | e; exact e; omega
          obtain ⟨ab, ao, asp⟩ := ad
          simp only at hsp hbl hoff'; subst hsp; subst hbl; subst hoff'
          refine ⟨.pointer (some ⟨p.blk, p.off + (o + iv.toNat * ei.size), none⟩), ?_, ?_⟩
          · simp [Instr.indexAt, asIntOf, run_underlying hu, hb, run_sizeOf_ti hie, add_lit, Nat.add_assoc]
          · simp only [VR]; exact ⟨p, hp, by omega, ⟨_, rfl⟩, fun _ => rfl⟩
        · simp at ha
      · simp at ha
    · simp at ha
  · simp at ha

theorem index_sound {t : TypeId} {x y r : AV} {u v : Value} (hv : VR ρ x v) (hy : VR ρ y u) (ha : aIndex P t x y = some r) (w : World) : ∃ q, (Instr.index t v u).run P w = .ok q w ∧ VR ρ r q := by
  unfold aIndex at ha
  split at ha
  · rename_i k iv
    simp only [VR] at hy; subst hy
    split at ha
    · rename_i _ _ n e sz by_ ze xs hi
      split at ha
      · rename_i ei hie
        split at ha
        · rename_i hb
          simp only [VR] at hv; obtain ⟨cs, rfl, hr⟩ := hv
          have hu := und_arr hi rfl
          obtain ⟨q, h1, h2⟩ := part_sound hr ha w
          exact ⟨q, by simp [Instr.index, asIntOf, run_underlying hu, hb, run_sizeOf_ti hie, h1], h2⟩
        · simp at ha
      · simp at ha
    · rename_i _ _ sz by_ ze s hi
      split at ha
      · rename_i hb
        simp only [Option.some.injEq] at ha; subst ha
        simp only [VR] at hv; subst hv
        have hu := und_str hi rfl
        have hlt : iv.toNat < s.size := by omega
        refine ⟨.int .u8 (s.data.toList.getD iv.toNat 0).toNat, ?_, by simp only [VR]⟩
        have : s[iv.toNat]? = some (s.data.toList.getD iv.toNat 0) := by
          rw [getElem?_pos s iv.toNat hlt]
          have h2 : iv.toNat < s.data.toList.length := by simpa using hlt
          simp [List.getD, List.getElem?_eq_getElem h2]
          rfl
        simp [Instr.index, asIntOf, run_underlying hu, hb, this]; rfl
      · simp at ha
    · simp at ha
  · simp at ha

end
end Go.Proofs.Ytkpjaffbbppneaa

/- What the model's operations do, said of the abstract memory: cuts, appends, numbers, conversions. -/
namespace Go.Proofs.Ytkpjaffbbppneaa
open Go Go.RowKit

inductive OptR (ρ : List Place) : Option AV → Option Value → Prop
  | none : OptR ρ none none
  | some {x : AV} {v : Value} : VR ρ x v → OptR ρ (some x) (some v)

section
variable {P : Program} {B0 : Nat} {w0 w : World} {ρ : List Place} {m : List AO}

theorem run_sliceBound (k : IntKind) (i : Int) (y : Nat) (c : BoundsCode) (h : 0 ≤ i ∧ i ≤ y) (w : World) : (Instr.sliceBound (.int k i) y c).run P w = .ok i.toNat w := by
  simp [Instr.sliceBound, asIntOf, h]

theorem aBound_some {x : AV} {v : Value} {d : Nat} {r : Int} (hv : VR ρ x v) (ha : aBound d (some x) = some r) : ∃ k, v = .int k r := by
  unfold aBound at ha
  split at ha
  · simp at *
  · rename_i k heq
    simp at heq ha; subst heq; subst ha
    simp only [VR] at hv; exact ⟨_, hv⟩
  · simp at ha

theorem run_bounds {isSlice : Bool} {len cap : Nat} {lo hi : Option AV} {lo' hi' : Option Value} {l h : Int} (hlo : OptR ρ lo lo') (hhi : OptR ρ hi hi') (al : aBound 0 lo = some l) (ah : aBound len hi = some h)
    (h0 : 0 ≤ l) (h1 : l ≤ h) (h2 : h ≤ cap) (w : World) :
    (Instr.sliceBounds isSlice len cap lo' hi' none).run P w = .ok (l.toNat, h.toNat, cap) w := by
  cases hhi with
  | none =>
    simp only [aBound, Option.some.injEq] at ah
    cases hlo with
    | none =>
      simp only [aBound, Option.some.injEq] at al
      simp [Instr.sliceBounds, ← al, ← ah]
    | some hv =>
      obtain ⟨k, rfl⟩ := aBound_some hv al
      have : h.toNat = len := by omega
      simp [Instr.sliceBounds, run_sliceBound k l len .sliceB ⟨h0, by omega⟩, this]
  | some hw =>
    obtain ⟨k', rfl⟩ := aBound_some hw ah
    cases hlo with
    | none =>
      simp only [aBound, Option.some.injEq] at al
      have hh : 0 ≤ h ∧ h ≤ cap := ⟨by omega, h2⟩
      cases isSlice <;> simp [Instr.sliceBounds, run_sliceBound k' h cap _ hh, ← al]
    | some hv =>
      obtain ⟨k, rfl⟩ := aBound_some hv al
      have hh : 0 ≤ h ∧ h ≤ cap := ⟨by omega, h2⟩
      have hl : 0 ≤ l ∧ l ≤ (h.toNat : Nat) := ⟨h0, by omega⟩
      cases isSlice <;> simp [Instr.sliceBounds, run_sliceBound k' h cap _ hh, run_sliceBound k l h.toNat .sliceB hl]

theorem content_room (h : Sim B0 w0 ρ m w) {a g : Nat} {xs : List AV} {p : Place} (hc : content m a g = some xs) (hp : ρ[a]? = some p) : xs.length ≤ p.room ∧ p.esz = rowz m a := by
  unfold content at hc
  cases ho : m[a]? with
  | none => simp [ho] at hc
  | some o =>
    have hr := h.obj a o p ho hp
    cases o with
    | cells ys g' z =>
      simp only [ho] at hc
      split at hc
      · simp at hc; subst hc
        obtain ⟨_, _, _, h4, cs, e, _, _, h7, _⟩ := hr
        exact ⟨h7, by simp [rowz, ho, h4]⟩
      · simp at hc
    | ro ys z =>
      simp only [ho] at hc
      split at hc
      · simp at hc; subst hc
        obtain ⟨_, _, h3, h4, _⟩ := hr
        exact ⟨h4, by simp [rowz, ho, h3]⟩
      · simp at hc
    | dead => simp [ho] at hc
    | amap es => simp [ho] at hc

theorem slice_sound (h : Sim B0 w0 ρ m w) {t : TypeId} {x r : AV} {v : Value} {lo hi : Option AV} {lo' hi' : Option Value} (hv : VR ρ x v) (hlo : OptR ρ lo lo') (hhi : OptR ρ hi hi') (ha : aSlice P m t x lo hi = some r) :
    ∃ q, (Instr.sliceAt t v lo' hi' none).run P w = .ok q w ∧ VR ρ r q := by
  unfold aSlice at ha
  split at ha
  · rename_i _ _ sz by_ ze s hi_
    split at ha
    · rename_i l h' al ah
      split at ha
      · rename_i hb
        simp only [Option.some.injEq] at ha; subst ha
        simp only [VR] at hv; subst hv
        have hu := und_str hi_ rfl
        refine ⟨.string (s.extract l.toNat h'.toNat), ?_, by simp only [VR]⟩
        have hbd := run_bounds (P := P) (isSlice := false) (cap := s.size) hlo hhi al ah hb.1 hb.2.1 (by omega) w
        simp [Instr.sliceAt, run_underlying hu, Instr.slice, hbd]
      · simp at ha
    · simp at ha
  · rename_i _ _ e sz by_ ze a o len g hi_
    split at ha
    · rename_i _ _ _ _ ei xs l h' hie hc al ah
      split at ha
      · rename_i hb
        obtain ⟨b0, b1, b2, b3⟩ := hb
        simp only [Option.some.injEq] at ha; subst ha
        obtain ⟨p, ad, cap, hp, hg, rfl, hez, hlc, hroom, hsp, hbl, hoff, _⟩ := slice_here h hc hv
        obtain ⟨hr1, hr2⟩ := content_room h hc hp
        have hes : p.esz = ei.size := hr2.trans b3
        have hu := und_slice hi_ rfl
        rw [hes] at hroom hez
        have hcap : h' ≤ cap := by
          by_cases hge : h' ≤ (cap : Int)
          · exact hge
          · exfalso
            have h1 : (cap + 1) * ei.size ≤ h'.toNat * ei.size := Nat.mul_le_mul_right _ (by omega)
            rw [Nat.add_mul] at h1
            omega
        have hbd := run_bounds (P := P) (isSlice := true) (cap := cap) hlo hhi al ah b0 b1 hcap w
        refine ⟨.slice (if cap = l.toNat then some ad else some (ad.add (l.toNat * ei.size))) (h'.toNat - l.toNat) (cap - l.toNat), ?_, ?_⟩
        · simp [Instr.sliceAt, run_underlying hu, Instr.slice, hbd, run_sizeOf_ti hie]
        · simp only [VR]
          refine ⟨p, hp, by omega, ⟨_, _, _, rfl⟩, fun _ => ⟨by omega, ?_⟩⟩
          have hmul : l.toNat * ei.size + (cap - l.toNat) * ei.size = cap * ei.size := by
            rw [← Nat.add_mul]; congr 1; omega
          by_cases hcl : cap = l.toNat
          · refine ⟨ad, cap - l.toNat, by rw [if_pos hcl, show (h' - l).toNat = h'.toNat - l.toNat by omega], by omega, by rw [hes]; omega, hsp, hbl, .inr (by omega)⟩
          · have hoff' : ad.off = p.off + o := by rcases hoff with e | e; exact e; omega
            obtain ⟨ab, ao, asp⟩ := ad
            simp only at hsp hbl hoff'; subst hsp; subst hbl; subst hoff'
            refine ⟨⟨p.blk, p.off + o + l.toNat * ei.size, none⟩, cap - l.toNat, by rw [if_neg hcl, add_lit, show (h' - l).toNat = h'.toNat - l.toNat by omega], by omega, by rw [hes]; omega, rfl, rfl, .inl (by simp only; omega)⟩
      · simp at ha
    · simp at ha
  · simp at ha

end
end Go.Proofs.Ytkpjaffbbppneaa

/- What the model's operations do, said of the abstract memory: appends, lengths, numbers, conversions. -/
namespace Go.Proofs.Ytkpjaffbbppneaa
open Go Go.RowKit

section
variable {P : Program} {B0 : Nat} {w0 w : World} {ρ : List Place} {m : List AO}

theorem Ext.bump {a : Nat} {p p' : Place} (hp : ρ[a]? = some p) (hg : p.gen < p'.gen) : Ext ρ (ρ.set a p') := by
  intro b q hq
  by_cases hb : a = b
  · subst hb
    rw [hp] at hq; simp at hq; subst hq
    exact ⟨p', List.getElem?_set_self (List.getElem?_eq_some_iff.1 hp).1, by omega, fun e => by omega⟩
  · exact ⟨q, by rw [List.getElem?_set_ne hb]; exact hq, Int.le_refl _, fun _ => rfl⟩

theorem size_zeroCells' (z : Array Value) (n : Nat) : (Builtin.zeroCells z n).size = n * z.size := by simp [Builtin.zeroCells]

theorem run_append_room' (w : World) (t ty e e' : TypeId) (i : TypeInfo) (ht : P.underlying t = some (.slice e)) (hi : P.info? e = some i)
    (g sLen sCap : Nat) (cur : Array Value) (hg : w.heap[g]? = some (.cells cur e' (0, 0)))
    (a : Addr) (m c : Nat) (news : List Value) (hl : news.length = m * i.size) (hnews : ∀ (j : Nat) (u : Value), news[j]? = some u → w.cell? (a.add j) = some u) (h1 : ∀ u ∈ news, u.oneCell' = true)
    (hroom : sLen + m ≤ sCap) (hfit : sLen * i.size + news.length ≤ cur.size) :
    (Builtin.append_ #[t, t] ty #[.slice (some ⟨g, 0, none⟩) sLen sCap, .slice (some a) m c]).run P w =
      .ok (.slice (some ⟨g, 0, none⟩) (sLen + m) sCap) (w.setRow g (cur.toList.take (sLen * i.size) ++ news ++ cur.toList.drop (sLen * i.size + news.length)).toArray) := by
  have hf := run_firstCells_some (P := P) w i.size m a m c news hl hnews
  have hst := run_storeCells_at P g (sLen * i.size) e' news 0 cur w hg (by simpa using hfit) h1
  simp only [Nat.add_zero] at hst
  simp [Builtin.append_, run_underlying ht, sizeOf, typeInfo, hi, Builtin.lenOf, hroom, hf, Addr.add_lit, hst]

theorem append_sound (h : Sim B0 w0 ρ m w) {t ty : TypeId} {x y r : AV} {u v : Value} {m' : List AO} (hu : VR ρ x u) (hv : VR ρ y v) (ha : aAppend P m t x y = some (r, m')) :
    ∃ q w' ρ', (Builtin.append_ #[t, t] ty #[u, v]).run P w = .ok q w' ∧ Sim B0 w0 ρ' m' w' ∧ Ext ρ ρ' ∧ VR ρ' r q := by
  unfold aAppend at ha
  split at ha
  case h_2 => simp at ha
  rename_i e sz by_ ze hi
  split at ha
  case h_2 => simp at ha
  rename_i i hie
  split at ha
  case isFalse => simp at ha
  rename_i hc
  obtain ⟨hs, hby, hzl⟩ := hc
  have hut := und_slice hi rfl
  obtain ⟨ti, d, z, e1, e2, e3, rfl⟩ := mkTI_spec hie
  simp only at hs hby hzl ha
  have hzs : z.cells.size = ti.size := by simpa using hzl
  split at ha
  case h_2 => simp at ha
  rename_i n ys hy
  split at ha
  case isFalse => simp at ha
  rename_i hones
  -- the source: its cells
  have hsrc : ∃ (ad : Option Addr) (c : Nat) (us : List Value), v = .slice ad n c ∧ VRs ρ ys us ∧ us.length = n * ti.size ∧ (∀ b, ad = some b → ∀ (j : Nat) (u : Value), us[j]? = some u → w.cell? (b.add j) = some u) ∧ (ad = none → n = 0) := by
    split at hy
    · rename_i b o n' g
      split at hy
      · rename_i zs hcont
        split at hy
        · rename_i hle
          simp only [Option.some.injEq, Prod.mk.injEq] at hy
          obtain ⟨rfl, rfl⟩ := hy
          obtain ⟨p, ad, cap, hp, hg, rfl, hez, hlc, hroom, hsp, hbl, hoff, hx⟩ := slice_here h hcont hv
          obtain ⟨us, h1, h2, h3⟩ := row_cells h (g := g) (a := b) hx o (n' * ti.size) hle
          refine ⟨some ad, cap, us, rfl, h2, h1, fun b' hb' j u hu => ?_, by simp⟩
          simp at hb'; subst hb'
          have := h3 j u hu
          rcases hoff with ho | h0
          · obtain ⟨ab, ao, asp⟩ := ad
            simp only at hsp hbl ho; subst hsp; subst hbl; subst ho
            exact this
          · have : n' = 0 := by omega
            subst this; simp at h1; subst h1; simp at hu
        · simp at hy
      · simp at hy
    · simp only [Option.some.injEq, Prod.mk.injEq] at hy
      obtain ⟨rfl, rfl⟩ := hy
      simp only [VR] at hv; subst hv
      exact ⟨none, 0, [], rfl, by simp [VRs], by simp, by simp, fun _ => rfl⟩
    · simp at hy
  obtain ⟨ad, c, us, rfl, hrel, hlu, hcell, hnone⟩ := hsrc
  have hone : ∀ q ∈ us, q.oneCell' = true := hrel.ones hones
  have hext1 : ∀ p : Place, Ext ρ (ρ ++ [p]) := fun p => Ext.append _ _
  split at ha
  · -- onto a row
    rename_i a o len g
    split at ha
    case h_2 => simp at ha
    rename_i xs g' zz hm
    split at ha
    case isFalse => simp at ha
    rename_i hc
    obtain ⟨rfl, rfl, rfl, hle, hbig⟩ := hc
    simp only [Option.some.injEq, Prod.mk.injEq] at ha
    obtain ⟨rfl, rfl⟩ := ha
    have hcont : content m a g = some xs := by simp [content, hm]
    obtain ⟨p, ad', cap, hp, hg, rfl, hez, hlc, hroom, hsp, hbl, hoff, hx⟩ := slice_here h hcont hu
    obtain ⟨q1, q2, q3, q4, cs, e', q5, q6, q7, q8⟩ := h.obj a _ p hm hp
    simp only [q4, Nat.zero_add] at hroom
    have hoff' : ad'.off = 0 ∨ cap = 0 := by rcases hoff with e | e; left; omega; exact .inr e
    have hcs : cs.size = cap * ti.size := by omega
    -- the old cells
    have hold : VRs ρ (xs.take (len * ti.size)) (cs.toList.take (len * ti.size)) := by
      have := q8.taken (len * ti.size)
      rwa [List.take_take, Nat.min_eq_left hle] at this
    by_cases hroom2 : len + n ≤ cap
    · -- there is room
      by_cases hn : n = 0
      · -- nothing is appended
        subst hn
        have hus : us = [] := List.eq_nil_of_length_eq_zero (by simpa using hlu)
        subst hus
        have hys : ys = [] := List.eq_nil_of_length_eq_zero (by have := hrel.length; simpa using this)
        subst hys
        have hrun : (Builtin.append_ #[t, t] ty #[.slice (some ad') len cap, .slice ad 0 c]).run P w = .ok (.slice (some ad') len cap) w := by
          cases ad <;> simp [Builtin.append_, run_underlying hut, sizeOf, typeInfo, e1, Builtin.lenOf, hlc, Builtin.firstCells, loadCells, loadCellsFrom, storeCells]
        let p' : Place := { p with gen := g + 1 }
        have hxt : Ext ρ (ρ.set a p') := Ext.bump hp (by show p.gen < g + 1; omega)
        refine ⟨_, w, ρ.set a p', hrun, ?_, hxt, ?_⟩
        · refine h.change hm hp rfl rfl hxt (Below.refl _ _) (fun k _ _ => rfl) (.inl rfl) ⟨q1, q2, rfl, q4, cs, e', q5, q6, ?_, ?_⟩
          · have e : p'.room = p.room := rfl
            simp only [List.append_nil, List.length_take, e]; exact Nat.le_trans (Nat.min_le_right _ _) q7
          · simp only [List.append_nil, List.length_take, Nat.min_eq_left hle]
            exact VRs.ext hxt _ _ hold
        · simp only [VR]
          refine ⟨p', List.getElem?_set_self (List.getElem?_eq_some_iff.1 hp).1, Int.le_refl _, ⟨_, _, _, rfl⟩, fun _ => ⟨hez, ad', cap, rfl, hlc, by simp [p', q4, hroom], hsp, hbl, ?_⟩⟩
          rcases hoff with e | e
          · exact .inl e
          · exact .inr e
      · obtain ⟨b, rfl⟩ : ∃ b, ad = some b := by
          cases ad with
          | none => exact absurd (hnone rfl) hn
          | some b => exact ⟨b, rfl⟩
        have had : ad' = ⟨p.blk, 0, none⟩ := by
          obtain ⟨ab, ao, asp⟩ := ad'
          simp only at hsp hbl hoff'
          have : ao = 0 := by omega
          rw [hsp, hbl, this]
        subst had
        have hfit : len * ti.size + us.length ≤ cs.size := by rw [hlu, hcs, ← Nat.add_mul]; exact Nat.mul_le_mul_right _ hroom2
        have hrun := run_append_room' (P := P) w t ty e e' ti hut e1 p.blk len cap cs q5 b n c us hlu (hcell b rfl) hone hroom2 hfit
        let p' : Place := { p with gen := g + 1 }
        have hxt : Ext ρ (ρ.set a p') := Ext.bump hp (by show p.gen < g + 1; omega)
        have hlr := hrel.length
        refine ⟨_, _, ρ.set a p', hrun, ?_, hxt, ?_⟩
        · have hrow := setRow_heap w p.blk cs (cs.toList.take (len * ti.size) ++ us ++ cs.toList.drop (len * ti.size + us.length)).toArray e' (0, 0) q5
          refine h.change hm hp rfl rfl hxt ⟨rfl, rfl, rfl, by simp, fun k hk => setRow_other w p.blk k _ (by omega)⟩ (fun k hk _ => setRow_other w p.blk k _ hk) (.inl rfl) ⟨q1, q2, rfl, q4, _, e', hrow, ?_, ?_, ?_⟩
          · have e : p'.room = p.room := rfl
            simp only [e, List.size_toArray, List.length_append, List.length_take, List.length_drop, Array.length_toList]; omega
          · have e : p'.room = p.room := rfl
            simp only [e, List.length_append, List.length_take, Nat.min_eq_left hle]; omega
          · have hnew := VRs.app hold hrel
            have hlen : (xs.take (len * ti.size) ++ ys).length = (cs.toList.take (len * ti.size) ++ us).length := hnew.length
            rw [hlen]
            simp only [List.take_left']
            exact VRs.ext hxt _ _ hnew
        · simp only [VR]
          refine ⟨p', List.getElem?_set_self (List.getElem?_eq_some_iff.1 hp).1, Int.le_refl _, ⟨_, _, _, rfl⟩, fun _ => ⟨hez, _, cap, rfl, hroom2, by simp [p', q4, hroom], rfl, rfl, .inl (by simp [p', q2])⟩⟩
    · -- a new array
      have hn : n ≠ 0 := by omega
      obtain ⟨b, rfl⟩ : ∃ b, ad = some b := by
        cases ad with
        | none => exact absurd (hnone rfl) hn
        | some b => exact ⟨b, rfl⟩
      have hol : (cs.toList.take (len * ti.size)).length = len * ti.size := by
        simp only [List.length_take, Array.length_toList, hcs]
        exact Nat.min_eq_left (Nat.mul_le_mul_right _ hlc)
      have holds : ∀ (j : Nat) (v : Value), (cs.toList.take (len * ti.size))[j]? = some v → w.cell? (ad'.add j) = some v := by
        intro j v hj
        rw [List.getElem?_take] at hj
        split at hj
        · rename_i hjl
          have had : ad' = ⟨p.blk, 0, none⟩ := by
            obtain ⟨ab, ao, asp⟩ := ad'
            simp only at hsp hbl hoff'
            have hcap : cap ≠ 0 := by
              intro h0; subst h0
              have : len = 0 := by omega
              subst this; simp at hjl
            have : ao = 0 := by omega
            rw [hsp, hbl, this]
          rw [had, add_lit, Nat.zero_add, cell_heap w _ _ _ _ _ q5]
          simpa using hj
        · simp at hj
      have hbytes : (len + n) * ti.bytes ≤ 140737488355328 := by
        have := Nat.mul_le_mul hbig hby
        omega
      have hrun := run_append_grow (P := P) w t ty e ti z hut e1 e3 ad' len cap _ hol holds b n c us hlu (hcell b rfl) (by omega) (by omega) (growslice_fits (by omega) hbytes)
      have hge := grownCap_ge w (len + n) cap e
      let p' : Place := ⟨w.heap.size, 0, grownCap w (len + n) cap e * ti.size, ti.size, g + 1⟩
      have hxt : Ext ρ (ρ.set a p') := Ext.bump hp (by show p.gen < g + 1; omega)
      have hsz : ((cs.toList.take (len * ti.size)).toArray ++ us.toArray ++ Builtin.zeroCells z.cells (grownCap w (len + n) cap e - (len + n))).size = grownCap w (len + n) cap e * ti.size := by
        simp only [Array.size_append, List.size_toArray, size_zeroCells', hol, hlu, hzs, ← Nat.add_mul]
        congr 1; omega
      have hsd : Sim B0 w0 ρ m w.drew := h.drew
      refine ⟨_, _, ρ.set a p', hrun, ?_, hxt, ?_⟩
      · refine hsd.change hm hp rfl rfl hxt ((Below.refl B0 w.drew).alloc h.size_le _) (fun k _ hk => Below.heap_alloc _ _ _ hk) (.inr (Nat.le_refl _)) ⟨h.size_le, rfl, rfl, rfl, _, e, heap_alloc_new w.drew _, hsz, ?_, ?_⟩
        · have hnl := (VRs.app hold hrel).length
          rw [hnl]
          simp only [List.length_append, hol, hlu, ← Nat.add_mul]
          exact Nat.mul_le_mul_right _ hge
        · have hnew := VRs.app hold hrel
          rw [hnew.length]
          simp only [Array.toList_append]
          rw [List.take_left']
          · exact VRs.ext hxt _ _ hnew
          · rfl
      · simp only [VR]
        refine ⟨p', List.getElem?_set_self (List.getElem?_eq_some_iff.1 hp).1, Int.le_refl _, ⟨_, _, _, rfl⟩, fun _ => ⟨hs, _, _, rfl, hge, by simp [p'], rfl, rfl, .inl rfl⟩⟩
  · -- onto nil
    simp only [VR] at hu; subst hu
    split at ha
    · rename_i hn; subst hn
      simp only [Option.some.injEq, Prod.mk.injEq] at ha
      obtain ⟨rfl, rfl⟩ := ha
      have hus : us = [] := List.eq_nil_of_length_eq_zero (by simpa using hlu)
      refine ⟨.slice none 0 0, w, ρ, ?_, h, Ext.refl _, by simp only [VR]⟩
      cases ad <;> simp [Builtin.append_, run_underlying hut, sizeOf, typeInfo, e1, Builtin.lenOf, Builtin.firstCells, loadCells, loadCellsFrom]
    · rename_i hn
      split at ha
      · rename_i hbig
        simp only [Option.some.injEq, Prod.mk.injEq] at ha
        obtain ⟨rfl, rfl⟩ := ha
        obtain ⟨b, rfl⟩ : ∃ b, ad = some b := by
          cases ad with
          | none => exact absurd (hnone rfl) hn
          | some b => exact ⟨b, rfl⟩
        have hbytes : n * ti.bytes ≤ 140737488355328 := by
          have := Nat.mul_le_mul hbig hby
          omega
        have hrun := run_append_nil (P := P) w t ty e ti z hut e1 e3 b n c us hlu (hcell b rfl) (by omega) (by omega) (by omega)
        have hge := grownCap_ge w n 0 e
        have hsz : (us.toArray ++ Builtin.zeroCells z.cells (grownCap w n 0 e - n)).size = grownCap w n 0 e * ti.size := by
          simp only [Array.size_append, List.size_toArray, size_zeroCells', hlu, hzs, ← Nat.add_mul]
          congr 1; omega
        have hsd : Sim B0 w0 ρ m w.drew := h.drew
        refine ⟨_, _, ρ ++ [⟨w.heap.size, 0, grownCap w n 0 e * ti.size, ti.size, 0⟩], hrun, ?_, hext1 _, ?_⟩
        · refine hsd.push _ _ _ rfl rfl ⟨h.size_le, rfl, rfl, rfl, _, e, heap_alloc_new w.drew _, hsz, ?_, ?_⟩
          · rw [hrel.length, hlu]; exact Nat.mul_le_mul_right _ hge
          · rw [hrel.length]
            simp only [Array.toList_append]
            rw [List.take_left']
            · exact VRs.ext (hext1 _) _ _ hrel
            · rfl
        · simp only [VR]
          refine ⟨_, by rw [← h.len]; exact List.getElem?_concat_length, Int.le_refl _, ⟨_, _, _, rfl⟩, fun _ => ⟨hs, _, _, rfl, hge, by simp, rfl, rfl, .inl rfl⟩⟩
      · simp at ha
  · simp at ha

end
end Go.Proofs.Ytkpjaffbbppneaa

/- Aggregates compared. -/
namespace Go.Proofs.Ytkpjaffbbppneaa
open Go Go.RowKit

section
variable {P : Program} {ρ : List Place}

theorem eqFs_sound {d e : Nat} {E : TypeId → AV → AV → Option Bool} (hE : ∀ t x y a b r w, VR ρ x a → VR ρ y b → E t x y = some r → (Op.equalIn (d + e) t a b).run P w = .ok r w) {xs ys : List AV} {us vs : Array Value} (hx : VRs ρ xs us.toList) (hy : VRs ρ ys vs.toList) :
    ∀ (fs : List Field) (r : Bool) (w : World), fs.all (fun f => f.name != "_") = true → eqFsA E P xs ys (fs.map fun f => (f.offset, f.type)) = some r → (Op.eqFields (d + e) us vs fs).run P w = .ok r w
  | [], r, w, _, h => by simp [eqFsA] at h; subst h; simp [Op.eqFields]
  | f :: fs, r, w, hn, h => by
    simp only [List.all_cons, Bool.and_eq_true] at hn
    have hn1 : f.name ≠ "_" := by simpa using hn.1
    simp only [List.map_cons, eqFsA] at h
    split at h
    · rename_i a b ha hb
      obtain ⟨u, h1, h2⟩ := part_sound hx ha w
      obtain ⟨v, h3, h4⟩ := part_sound hy hb w
      simp only [Op.eqFields, if_pos hn1, Sem.run_bind, h1, h3, Result.andThen_ok]
      split at h
      · rename_i hq
        rw [hE _ _ _ _ _ _ w h2 h4 hq]
        simp only [Result.andThen_ok, Bool.not_true, Bool.false_eq_true, if_false]
        exact eqFs_sound hE hx hy fs r w hn.2 h
      · rename_i hq
        simp at h; subst h
        rw [hE _ _ _ _ _ _ w h2 h4 hq]
        simp
      · simp at h
    · simp at h

def eqArr (d : Nat) (t : TypeId) (sz : Nat) (us vs : Array Value) : List Nat → Sem Bool
  | [] => pure true
  | i :: r => do
    let a ← part t us (i * sz)
    let b ← part t vs (i * sz)
    let q ← Op.equalIn d t a b
    if (!q) = true then pure false else eqArr d t sz us vs r

theorem eqAr_sound {d e : Nat} {E : TypeId → AV → AV → Option Bool} (hE : ∀ t x y a b r w, VR ρ x a → VR ρ y b → E t x y = some r → (Op.equalIn (d + e) t a b).run P w = .ok r w) {t : TypeId} {sz : Nat} {xs ys : List AV} {us vs : Array Value} (hx : VRs ρ xs us.toList) (hy : VRs ρ ys vs.toList) :
    ∀ (l : List Nat) (r : Bool) (w : World), eqArA E P t sz xs ys l = some r → (eqArr (d + e) t sz us vs l).run P w = .ok r w
  | [], r, w, h => by simp [eqArA] at h; subst h; simp [eqArr]
  | i :: l, r, w, h => by
    simp only [eqArA] at h
    split at h
    · rename_i a b ha hb
      obtain ⟨u, h1, h2⟩ := part_sound hx ha w
      obtain ⟨v, h3, h4⟩ := part_sound hy hb w
      simp only [eqArr, Sem.run_bind, h1, h3, Result.andThen_ok]
      split at h
      · rename_i hq
        rw [hE _ _ _ _ _ _ w h2 h4 hq]
        simp only [Result.andThen_ok, Bool.not_true, Bool.false_eq_true, if_false]
        exact eqAr_sound hE hx hy l r w h
      · rename_i hq
        simp at h; subst h
        rw [hE _ _ _ _ _ _ w h2 h4 hq]
        simp
      · simp at h
    · simp at h

theorem run_equalIn_arr (d : Nat) (t e : TypeId) (n : Nat) (us vs : Array Value) (sz : Nat) (w : World) (ht : P.underlying t = some (.array n e)) (hs : ∀ w, (sizeOf e).run P w = .ok sz w) :
    (Op.equalIn (d + 1) t (.agg us) (.agg vs)).run P w = (eqArr d e sz us vs (List.range n)).run P w := by
  simp only [Op.equalIn, Sem.run_bind, run_underlying ht, Result.andThen_ok, hs]
  rw [Std.Legacy.Range.forIn_eq_forIn_range']
  have hl : List.range' (0 : Nat) ((n - 0 + 1 - 1) / 1) 1 = List.range n := by rw [List.range_eq_range']; simp
  simp only [Std.Legacy.Range.size, hl]
  generalize List.range n = l
  induction l generalizing w with
  | nil => simp [eqArr]
  | cons i l ih =>
    simp only [List.forIn_cons, eqArr, Sem.run_bind]
    generalize (part e us (i * sz)).run P w = r1
    cases r1 with
    | halt x w1 => simp [Result.andThen]
    | ok a w1 =>
      simp only [Result.andThen_ok]
      generalize (part e vs (i * sz)).run P w1 = r2
      cases r2 with
      | halt x w2 => simp [Result.andThen]
      | ok b w2 =>
        simp only [Result.andThen_ok]
        generalize (Op.equalIn d e a b).run P w2 = r3
        cases r3 with
        | halt x w3 => simp [Result.andThen]
        | ok r w3 =>
          cases r
          · simp only [Result.andThen_ok, Bool.not_false, if_true, Sem.run_pure]
          · simp only [Result.andThen_ok, Bool.not_true, Bool.false_eq_true, if_false, Sem.run_pure]
            exact ih w3

theorem eqA_sound (e : Nat) : ∀ (d : Nat) (t : TypeId) (x y : AV) (a b : Value) (r : Bool) (w : World), VR ρ x a → VR ρ y b → eqA P d t x y = some r → (Op.equalIn (d + e) t a b).run P w = .ok r w
  | 0, t, x, y, a, b, r, w, _, _, h => by simp [eqA] at h
  | d + 1, t, x, y, a, b, r, w, hx, hy, h => by
    have hd : d + 1 + e = (d + e) + 1 := by omega
    rw [hd]
    simp only [eqA] at h
    split at h
    · rename_i hi
      simp only [VR] at hx hy; subst hx; subst hy
      simp at h; subst h
      exact run_equalIn_bool' w _ t _ _ (und_bool hi rfl)
    · rename_i hi
      simp only [VR] at hx hy; subst hx; subst hy
      split at h
      · rename_i hk; subst hk
        simp at h; subst h
        exact run_equalIn_int w _ t _ _ _ _ (und_int hi rfl)
      · simp at h
    · rename_i hi
      simp only [VR] at hx hy; subst hx; subst hy
      simp at h; subst h
      exact run_equalIn_string w _ t _ _ (und_str hi rfl)
    · rename_i hi
      simp only [VR] at hx hy
      obtain ⟨us, rfl, hxs⟩ := hx
      obtain ⟨vs, rfl, hys⟩ := hy
      obtain ⟨fl, hu, rfl⟩ := und_struct hi rfl
      split at h
      · rename_i hp
        have hf : P.fieldsOf t = fl := by simp [Program.fieldsOf, hu]
        simp only [plainS, Bool.and_eq_true, Bool.not_eq_true', hf] at hp
        rw [run_equalIn_agg w _ t us vs (by rw [hf]; exact hu) hp.1, hf]
        exact eqFs_sound (fun t x y a b r w => eqA_sound e d t x y a b r w) hxs hys fl.toList r w hp.2 h
      · simp at h
    · rename_i hi
      simp only [VR] at hx hy
      obtain ⟨us, rfl, hxs⟩ := hx
      obtain ⟨vs, rfl, hys⟩ := hy
      split at h
      · rename_i ei hei
        rw [run_equalIn_arr _ t _ _ us vs ei.size w (und_arr hi rfl) (fun w => run_sizeOf_ti hei w)]
        exact eqAr_sound (fun t x y a b r w => eqA_sound e d t x y a b r w) hxs hys _ r w h
      · simp at h
    · simp at h

end
end Go.Proofs.Ytkpjaffbbppneaa

/- Every operation that the abstract steps know, against the model's. -/
namespace Go.Proofs.Ytkpjaffbbppneaa
open Go Go.RowKit

section
variable {P : Program} {B0 : Nat} {w0 w : World} {ρ : List Place} {m : List AO}

theorem len_sound (h : Sim B0 w0 ρ m w) {t ty : TypeId} {x r : AV} {v : Value} (hv : VR ρ x v) (ha : aLen P m t x = some r) : ∃ q, (Builtin.len_ #[t] ty #[v]).run P w = .ok q w ∧ VR ρ r q ∧ True := by
  unfold aLen at ha
  split at ha
  · rename_i _ _ sz by_ ze s hi
    simp only [Option.some.injEq] at ha; subst ha
    simp only [VR] at hv; subst hv
    exact ⟨_, by simp [Builtin.len_, run_underlying (und_str hi rfl)]; rfl, by simp [VR, goInt], trivial⟩
  · rename_i _ _ e sz by_ ze a o n g hi
    split at ha
    · rename_i xs hc
      simp only [Option.some.injEq] at ha; subst ha
      obtain ⟨p, ad, cap, hp, hg, rfl, _⟩ := slice_here h hc hv
      exact ⟨_, by simp [Builtin.len_, run_underlying (und_slice hi rfl)]; rfl, by simp [VR, goInt], trivial⟩
    · simp at ha
  · rename_i _ _ e sz by_ ze s n c hi
    simp only [Option.some.injEq] at ha; subst ha
    simp only [VR] at hv; subst hv
    exact ⟨_, by simp [Builtin.len_, run_underlying (und_slice hi rfl)]; rfl, by simp [VR, goInt], trivial⟩
  · simp at ha

set_option maxHeartbeats 1000000 in
theorem abin_sound {op : BinOp} {t : TypeId} {a b c : Value} (hb : ∀ x y, a = .bool x → b = .bool y → P.underlying t = some .bool) (ha : abin op a b = some c) (x y : Operand) (w : World) :
    (do eqGuard op t x y a b; binOp op t a b : Sem Value).run P w = .ok c w := by
  unfold abin at ha
  split at ha
  · rename_i k a k' b
    have hg : (eqGuard op t x y (.int k a) (.int k' b)).run P w = .ok () w := by cases op <;> simp [eqGuard]
    simp only [Sem.run_bind, hg, Result.andThen_ok]
    cases op <;> simp only [] at ha
    case shl => split at ha <;> simp at ha; subst ha; rename_i hn; simp [binOp, Op.shift, hn]
    case shr => split at ha <;> simp at ha; subst ha; rename_i hn; simp [binOp, Op.shift, hn]
    case add => split at ha <;> simp at ha; subst ha; rename_i hn; subst hn; simp [binOp, Op.intArith]
    case sub => split at ha <;> simp at ha; subst ha; rename_i hn; subst hn; simp [binOp, Op.intArith]
    case mul => split at ha <;> simp at ha; subst ha; rename_i hn; subst hn; simp [binOp, Op.intArith]
    case quo => split at ha <;> simp at ha; subst ha; rename_i hn; obtain ⟨rfl, hn⟩ := hn; simp [binOp, Op.intDiv, hn]
    case rem => split at ha <;> simp at ha; subst ha; rename_i hn; obtain ⟨rfl, hn⟩ := hn; simp [binOp, Op.intDiv, hn]
    case and => split at ha <;> simp at ha; subst ha; rename_i hn; subst hn; simp [binOp, Op.intBits]
    case eql => split at ha <;> simp at ha; subst ha; rename_i hn; subst hn; simp [binOp, Op.intCmp]; rfl
    case neq => split at ha <;> simp at ha; subst ha; rename_i hn; subst hn; simp [binOp, Op.intCmp]; rfl
    case lss => split at ha <;> simp at ha; subst ha; rename_i hn; subst hn; simp [binOp, Op.intCmp]
    case leq => split at ha <;> simp at ha; subst ha; rename_i hn; subst hn; simp [binOp, Op.intCmp]
    case gtr => split at ha <;> simp at ha; subst ha; rename_i hn; subst hn; simp [binOp, Op.intCmp]
    case geq => split at ha <;> simp at ha; subst ha; rename_i hn; subst hn; simp [binOp, Op.intCmp]
    all_goals simp at ha
  · rename_i a b
    have hg : (eqGuard op t x y (.string a) (.string b)).run P w = .ok () w := by cases op <;> simp [eqGuard]
    simp only [Sem.run_bind, hg, Result.andThen_ok]
    cases op <;> simp only [] at ha
    case add =>
      split at ha <;> simp at ha; subst ha; rename_i hn
      have hm : ¬ (((a.size + b.size : Nat) : Int) > IntKind.i64.max) := by simp [IntKind.max, IntKind.signed, IntKind.bits]; omega
      simp only [binOp, Op.stringOp]
      rw [if_neg hm]; rfl
    case eql => simp at ha; subst ha; simp [binOp, Op.stringOp]
    case neq => simp at ha; subst ha; simp [binOp, Op.stringOp]
    case lss => simp at ha; subst ha; simp [binOp, Op.stringOp]
    case geq => simp at ha; subst ha; simp [binOp, Op.stringOp]
    all_goals simp at ha
  · rename_i a b
    have hu := hb a b rfl rfl
    have hg : (eqGuard op t x y (.bool a) (.bool b)).run P w = .ok () w := by cases op <;> simp [eqGuard]
    simp only [Sem.run_bind, hg, Result.andThen_ok]
    cases op <;> simp only [] at ha
    case eql =>
      simp at ha; subst ha
      have e := run_equalIn_bool' (P := P) w 9999 t a b hu
      show (do pure (.bool (← Op.equalIn 10000 t (.bool a) (.bool b))) : Sem Value).run P w = _
      simp only [Sem.run_bind, e, Result.andThen_ok, Sem.run_pure]
    case neq =>
      simp at ha; subst ha
      have e := run_equalIn_bool' (P := P) w 9999 t a b hu
      show (do pure (.bool (!(← Op.equalIn 10000 t (.bool a) (.bool b)))) : Sem Value).run P w = _
      simp only [Sem.run_bind, e, Result.andThen_ok, Sem.run_pure]
    all_goals simp at ha
  · simp at ha

theorem bin_sound {op : BinOp} {t : TypeId} {x y r : AV} {a b : Value} (hx : VR ρ x a) (hy : VR ρ y b) (ha : aBin P op t x y = some r) (ox oy : Operand) (w : World) :
    ∃ q, (do eqGuard op t ox oy a b; binOp op t a b : Sem Value).run P w = .ok q w ∧ VR ρ r q := by
  unfold aBin at ha
  split at ha
  · simp only [VR] at hx hy; subst hx; subst hy
    split at ha
    · rename_i hi
      cases hc : abin op (.bool _) (.bool _) with
      | none => rw [hc] at ha; simp at ha
      | some c =>
        rw [hc] at ha; simp at ha; subst ha
        exact ⟨c, abin_sound (fun _ _ _ _ => und_bool hi rfl) hc ox oy w, by simp [VR]⟩
    · simp at ha
  · rename_i hne
    simp only [VR] at hx hy; subst hx; subst hy
    cases hc : abin op _ _ with
    | none => rw [hc] at ha; simp at ha
    | some c =>
      rw [hc] at ha; simp at ha; subst ha
      exact ⟨c, abin_sound (fun x y h1 h2 => absurd h2 (by subst h1; exact hne x y rfl ∘ (fun e => by rw [e]))) hc ox oy w, by simp [VR]⟩
  · split at ha
    · rename_i xs ys hg
      have hx0 := hx
      have hy0 := hy
      simp only [VR] at hx hy
      obtain ⟨us, rfl, hxs⟩ := hx
      obtain ⟨vs, rfl, hys⟩ := hy
      split at ha
      · simp only [Option.map_eq_some_iff] at ha
        obtain ⟨b, hb, rfl⟩ := ha
        have h1 := eqA_sound 9996 4 t _ _ _ _ b w hx0 hy0 hb
        refine ⟨.bool b, ?_, by simp [VR]⟩
        simp only [Sem.run_bind, run_eqGuard_agg w _ t ox oy us vs hg, Result.andThen_ok, run_eql_struct]
        rw [show (10000 : Nat) = 4 + 9996 from rfl, h1]; rfl
      · simp only [Option.map_eq_some_iff] at ha
        obtain ⟨b, hb, rfl⟩ := ha
        have h1 := eqA_sound 9996 4 t _ _ _ _ b w hx0 hy0 hb
        refine ⟨.bool (!b), ?_, by simp [VR]⟩
        simp only [Sem.run_bind, run_eqGuard_agg w _ t ox oy us vs hg, Result.andThen_ok, run_neq_struct]
        rw [show (10000 : Nat) = 4 + 9996 from rfl, h1]; rfl
      · simp at ha
    · simp at ha
  · simp at ha

theorem un_sound {op : UnOp} {x r : AV} {a : Value} (hx : VR ρ x a) (ha : aUn op x = some r) (w : World) : ∃ q, (Op.unary op a).run P w = .ok q w ∧ VR ρ r q := by
  unfold aUn at ha
  split at ha
  · simp at ha; subst ha; simp only [VR] at hx; subst hx; exact ⟨_, rfl, by simp [VR]⟩
  · simp at ha; subst ha; simp only [VR] at hx; subst hx; exact ⟨_, rfl, by simp [VR]⟩
  · simp at ha

theorem bytesOf_rel : ∀ {xs : List AV} {us : List Value} {l : List UInt8}, VRs ρ xs us → bytesOf xs = some l → ∃ ns : List Int, us = ns.map (Value.int .u8) ∧ l = ns.map fun n => UInt8.ofNat n.toNat
  | [], [], l, _, hb => by simp [bytesOf] at hb; exact ⟨[], rfl, by simp [hb]⟩
  | x :: xs, u :: us, l, h, hb => by
    simp only [VRs] at h
    unfold bytesOf at hb
    split at hb
    · simp at *
    · rename_i n r heq
      simp at heq; obtain ⟨rfl, rfl⟩ := heq
      cases hr : bytesOf xs with
      | none => simp [hr] at hb
      | some l' =>
        simp [hr] at hb; subst hb
        obtain ⟨ns, h1, h2⟩ := bytesOf_rel h.2 hr
        have := h.1; simp only [VR] at this; subst this
        exact ⟨n :: ns, by simp [h1], by simp [h2]⟩
    · simp at hb
  | [], _ :: _, _, h, _ => by simp [VRs] at h
  | _ :: _, [], _, h, _ => by simp [VRs] at h

theorem conv_sound (h : Sim B0 w0 ρ m w) {src dst : TypeId} {x r : AV} {v : Value} (hv : VR ρ x v) (ha : aConv P m src dst x = some r) : ∃ q, (convert src dst v).run P w = .ok q w ∧ VR ρ r q := by
  unfold aConv at ha
  split at ha
  · rename_i _ _ _ i k sz by_ ze k' n hs hd
    simp only [Option.some.injEq] at ha; subst ha
    simp only [VR] at hv; subst hv
    obtain ⟨ti, d, z, e1, e2, e3, _⟩ := mkTI_spec hs
    exact ⟨.int k (k.wrap n), by cases d <;> simp [convert, run_underlying e2, run_underlying (und_int hd rfl), Conv.intToInt], by simp [VR]⟩
  · rename_i _ _ _ e sz by_ ze sz' by' ze' a o len g hs hd
    split at ha
    · rename_i _ _ sz2 by2 ze2 xs hie hc
      split at ha
      · rename_i hle
        cases hbs : bytesOf ((xs.drop o).take len) with
        | none => simp [hbs] at ha
        | some l =>
          simp only [hbs, Option.map_some, Option.some.injEq] at ha; subst ha
          obtain ⟨p, ad, cap, hp, hg, rfl, hez, hlc, hroom, hsp, hbl, hoff, hx⟩ := slice_here h hc hv
          obtain ⟨us, h1, h2, h3⟩ := row_cells h (g := g) (a := a) hx o len hle
          obtain ⟨ns, rfl, rfl⟩ := bytesOf_rel h2 hbs
          have hcell : ∀ (j : Nat) (u : Value), (ns.map (Value.int .u8))[j]? = some u → w.cell? (ad.add j) = some u := by
            intro j u hu
            rcases hoff with ho | h0
            · obtain ⟨ab, ao, asp⟩ := ad
              simp only at hsp hbl ho; subst hsp; subst hbl; subst ho
              exact h3 j u hu
            · have : len = 0 := by omega
              subst this; simp at h1; subst h1; simp at hu
          have hload := run_loadCells_list (P := P) w ad _ hcell
          rw [h1] at hload
          have hrun := run_bytesToString (P := P) w ad len cap ns hload
          refine ⟨.string ⟨(ns.map fun n => UInt8.ofNat n.toNat).toArray⟩, ?_, by simp [VR]⟩
          simp only [convert, Sem.run_bind, run_underlying (und_slice hs rfl), run_underlying (und_str hd rfl), run_underlying (und_int hie rfl), Result.andThen_ok, hrun, foldl_push_bytes]
          simp
      · simp at ha
    · simp at ha
  · simp at ha

end
end Go.Proofs.Ytkpjaffbbppneaa

/- One operation, by the abstract step and by the model. -/
namespace Go.Proofs.Ytkpjaffbbppneaa
open Go Go.RowKit

section
variable {P : Program} {B0 : Nat} {w0 w : World} {ρ : List Place} {m : List AO}

theorem parts_rel {ev : Operand → AV} {e : Operand → Value} (hev : ∀ x, VR ρ (ev x) (e x)) : ∀ (ps : List (Nat × Operand)), PartsR ρ (ps.map fun p => (p.1, ev p.2)) (ps.map fun p => (p.1, e p.2))
  | [] => .nil
  | (_, x) :: ps => .cons (hev x) (parts_rel hev ps)

theorem parts_arr (f : Nat × Operand → Nat × Value) (ps : Array (Nat × Operand)) : ps.map f = (ps.toList.map f).toArray := by
  apply Array.ext'; simp

theorem opt_rel {ev : Operand → AV} {e : Operand → Value} (hev : ∀ x, VR ρ (ev x) (e x)) (o : Option Operand) : OptR ρ (o.map ev) (o.map e) := by
  cases o with
  | none => exact .none
  | some x => exact .some (hev x)

theorem caps_rel {ev : Operand → AV} {e : Operand → Value} (hev : ∀ x, VR ρ (ev x) (e x)) : ∀ (ps : List Operand), VRs ρ (ps.map ev) (ps.map e)
  | [] => by simp [VRs]
  | x :: ps => by simp only [List.map_cons, VRs]; exact ⟨hev x, caps_rel hev ps⟩

set_option maxHeartbeats 1000000 in
theorem aop_sound (h : Sim B0 w0 ρ m w) {o : Oper} {ev : Operand → AV} {e : Operand → Value} {r : AV} {m' : List AO} (hev : ∀ x, VR ρ (ev x) (e x)) (ha : aop P o.op ev m = some (r, m')) :
    ∃ w' ρ' v, ((execOp e o).run P w = .ok (.value v) w' ∨ ((execOp e o).run P w = .ok .skip w' ∧ v = undef)) ∧ Sim B0 w0 ρ' m' w' ∧ Ext ρ ρ' ∧ VR ρ' r v := by
  obtain ⟨dst, op, ty, pos, after, guard⟩ := o
  simp only at ha
  have same : ∀ (v : Value), m' = m → (execOp e ⟨dst, op, ty, pos, after, guard⟩).run P w = .ok (.value v) w → VR ρ r v →
      ∃ w' ρ' v, ((execOp e ⟨dst, op, ty, pos, after, guard⟩).run P w = .ok (.value v) w' ∨ ((execOp e ⟨dst, op, ty, pos, after, guard⟩).run P w = .ok .skip w' ∧ v = undef)) ∧ Sim B0 w0 ρ' m' w' ∧ Ext ρ ρ' ∧ VR ρ' r v :=
    fun v hm hr hv => ⟨w, ρ, v, .inl hr, hm ▸ h, Ext.refl _, hv⟩
  unfold aop at ha
  split at ha
  · rename_i x
    simp only [Option.some.injEq, Prod.mk.injEq] at ha; obtain ⟨rfl, rfl⟩ := ha
    exact same _ rfl (by simp [execOp]) (hev x)
  · rename_i x
    simp only [Option.some.injEq, Prod.mk.injEq] at ha; obtain ⟨rfl, rfl⟩ := ha
    exact same _ rfl (by simp [execOp]) (hev x)
  · rename_i c x y
    split at ha
    · rename_i t ht
      simp only [Option.some.injEq, Prod.mk.injEq] at ha; obtain ⟨rfl, rfl⟩ := ha
      have hc := hev c; rw [ht] at hc; simp only [VR] at hc
      refine same (if t = true then e x else e y) rfl (by simp [execOp, asBool, hc]) ?_
      cases t
      · exact hev y
      · exact hev x
    · simp at ha
  · rename_i el
    split at ha
    · rename_i i hi
      obtain ⟨z, hz, hz2⟩ := run_zero_ti hi w
      obtain ⟨ρ', h1, h2, h3, h4⟩ := new_sound (P := P) h z.cells el (by rw [hz2]; exact VRs.zero ρ _) ha
      exact ⟨_, ρ', _, .inl (by simp [execOp, Instr.alloc, hz, newVar, h1]), h2, h3, h4⟩
    · simp at ha
  · rename_i el x
    have hones : (ev x).cs.all AV.one = true := by
      unfold aNew at ha; split at ha
      · assumption
      · simp at ha
    obtain ⟨ρ', h1, h2, h3, h4⟩ := new_sound (P := P) h (e x).cells el ((hev x).cells hones) ha
    exact ⟨_, ρ', _, .inl (by simp [execOp, Instr.box, newVar, h1]), h2, h3, h4⟩
  · rename_i t parts
    simp only [Option.map_eq_some_iff, Prod.mk.injEq] at ha
    obtain ⟨x, hx, rfl, rfl⟩ := ha
    obtain ⟨v, h1, h2⟩ := build_sound (parts_rel hev parts.toList) hx w
    rw [← parts_arr (fun p => (p.1, e p.2))] at h1
    exact same v rfl (by simp [execOp, h1]) h2
  · rename_i t len parts
    obtain ⟨v, w', ρ', h1, h2, h3, h4⟩ := buildSlice_sound h (parts_rel hev parts.toList) ha
    rw [← parts_arr (fun p => (p.1, e p.2))] at h1
    exact ⟨w', ρ', v, .inl (by simp [execOp, h1]), h2, h3, h4⟩
  · rename_i t x
    simp only [Option.map_eq_some_iff, Prod.mk.injEq] at ha
    obtain ⟨y, hy, rfl, rfl⟩ := ha
    obtain ⟨u, h1, h2⟩ := load_sound h hy (hev x)
    exact same u rfl (by simp [execOp, h1]) h2
  · rename_i t x y
    simp only [Option.map_eq_some_iff, Prod.mk.injEq] at ha
    obtain ⟨m1, hy, rfl, rfl⟩ := ha
    obtain ⟨w', h1, h2⟩ := store_sound h hy (hev x) (hev y)
    exact ⟨w', ρ, undef, .inr ⟨by simp [execOp, h1], rfl⟩, h2, Ext.refl _, by simp [VR]⟩
  · rename_i x
    split at ha
    · rename_i a o g hx
      simp only [Option.some.injEq, Prod.mk.injEq] at ha; obtain ⟨rfl, rfl⟩ := ha
      have hv := hev x; rw [hx] at hv
      have hv2 := hv
      simp only [VR] at hv2
      obtain ⟨_, _, _, ⟨ad, had⟩, _⟩ := hv2
      rw [had] at hv
      exact same _ rfl (by simp [execOp, had]) hv
    · simp at ha
  · rename_i bop t x y yt
    simp only [Option.map_eq_some_iff, Prod.mk.injEq] at ha
    obtain ⟨z, hz, rfl, rfl⟩ := ha
    obtain ⟨q, h1, h2⟩ := bin_sound (hev x) (hev y) hz x y w
    simp only [Sem.run_bind] at h1
    refine same q rfl ?_ h2
    simp only [execOp, Sem.run_bind, Sem.run_pure]
    revert h1
    generalize (eqGuard bop t x y (e x) (e y)).run P w = r1
    intro h1
    cases r1 with
    | halt x w => simp [Result.andThen] at h1
    | ok a w =>
      simp only [Result.andThen_ok] at h1 ⊢
      rw [h1]; rfl
  · rename_i uop t x
    simp only [Option.map_eq_some_iff, Prod.mk.injEq] at ha
    obtain ⟨z, hz, rfl, rfl⟩ := ha
    obtain ⟨q, h1, h2⟩ := un_sound (P := P) (hev x) hz w
    exact same q rfl (by simp [execOp, h1]) h2
  · rename_i s d x
    simp only [Option.map_eq_some_iff, Prod.mk.injEq] at ha
    obtain ⟨z, hz, rfl, rfl⟩ := ha
    obtain ⟨q, h1, h2⟩ := conv_sound h (hev x) hz
    exact same q rfl (by simp [execOp, h1]) h2
  · rename_i f first captured
    split at ha
    · rename_i h0
      simp only [Option.some.injEq, Prod.mk.injEq] at ha; obtain ⟨rfl, rfl⟩ := ha
      have hf : first = #[] := Array.eq_empty_of_size_eq_zero h0
      subst hf
      refine same (.func (.func f) #[] (captured.map e)) rfl (by simp [execOp, Instr.makeFunc]) ?_
      simp only [VR]
      exact ⟨_, rfl, by simpa using caps_rel hev captured.toList⟩
    · simp at ha
  · rename_i t l c
    obtain ⟨v, w', ρ', h1, h2, h3, h4⟩ := makeSlice_sound h (hev l) (hev c) ha
    exact ⟨w', ρ', v, .inl (by simp [execOp, h1]), h2, h3, h4⟩
  · rename_i t x lo hi
    simp only [Option.map_eq_some_iff, Prod.mk.injEq] at ha
    obtain ⟨z, hz, rfl, rfl⟩ := ha
    obtain ⟨q, h1, h2⟩ := slice_sound h (hev x) (opt_rel hev lo) (opt_rel hev hi) hz
    exact same q rfl (by simp [execOp, h1]) h2
  · rename_i t x f
    simp only [Option.map_eq_some_iff, Prod.mk.injEq] at ha
    obtain ⟨z, hz, rfl, rfl⟩ := ha
    obtain ⟨q, h1, h2⟩ := fieldAddr_sound h (hev x) hz
    exact same q rfl (by simp [execOp, h1]) h2
  · rename_i t x f
    simp only [Option.map_eq_some_iff, Prod.mk.injEq] at ha
    obtain ⟨z, hz, rfl, rfl⟩ := ha
    obtain ⟨q, h1, h2⟩ := field_sound (hev x) hz w
    exact same q rfl (by simp [execOp, h1]) h2
  · rename_i t x i
    simp only [Option.map_eq_some_iff, Prod.mk.injEq] at ha
    obtain ⟨z, hz, rfl, rfl⟩ := ha
    obtain ⟨q, h1, h2⟩ := indexAddr_sound h (hev x) (hev i) hz
    exact same q rfl (by simp [execOp, h1]) h2
  · rename_i t x i
    simp only [Option.map_eq_some_iff, Prod.mk.injEq] at ha
    obtain ⟨z, hz, rfl, rfl⟩ := ha
    obtain ⟨q, h1, h2⟩ := index_sound (hev x) (hev i) hz w
    exact same q rfl (by simp [execOp, h1]) h2
  · rename_i t i
    split at ha
    · rename_i xs hx
      simp only [Option.map_eq_some_iff, Prod.mk.injEq] at ha
      obtain ⟨z, hz, rfl, rfl⟩ := ha
      have hv := hev t; rw [hx] at hv; simp only [VR] at hv
      obtain ⟨ys, hy, hr⟩ := hv
      obtain ⟨u, hu, hv⟩ := hr.get hz
      exact same u rfl (by simp [execOp, Instr.extract, hy, show ys[i]? = some u by simpa using hu]) hv
    · simp at ha
  · rename_i args argTypes
    split at ha
    · rename_i x t hargs htys
      simp only [Option.map_eq_some_iff, Prod.mk.injEq] at ha
      obtain ⟨z, hz, rfl, rfl⟩ := ha
      have e1 : args = #[x] := by apply Array.ext'; simpa using hargs
      have e2 : argTypes = #[t] := by apply Array.ext'; simpa using htys
      subst e1; subst e2
      obtain ⟨q, h1, h2, _⟩ := len_sound (ty := ty) h (hev x) hz
      exact same q rfl (by simp [execOp, resolve, invoke, builtin, h1]) h2
    · simp at ha
  · rename_i args argTypes
    split at ha
    · rename_i x y t u hargs htys
      split at ha
      · rename_i htu; subst htu
        have e1 : args = #[x, y] := by apply Array.ext'; simpa using hargs
        have e2 : argTypes = #[t, t] := by apply Array.ext'; simpa using htys
        subst e1; subst e2
        obtain ⟨q, w', ρ', h1, h2, h3, h4⟩ := append_sound (ty := ty) h (hev x) (hev y) ha
        exact ⟨w', ρ', q, .inl (by simp [execOp, resolve, invoke, builtin, h1]), h2, h3, h4⟩
      · simp at ha
    · simp at ha
  · rename_i args argTypes
    split at ha
    · rename_i x y hargs
      simp only [Option.map_eq_some_iff, Prod.mk.injEq] at ha
      obtain ⟨z, hz, rfl, rfl⟩ := ha
      have e1 : args = #[x, y] := by apply Array.ext'; simpa using hargs
      subst e1
      have hx := hev x
      have hy := hev y
      unfold aMin at hz
      split at hz
      · rename_i k a k' b h1 h2
        rw [h1] at hx; rw [h2] at hy
        simp only [VR] at hx hy
        split at hz
        · simp at hz; subst hz
          exact same (.int k (if b < a then b else a)) rfl (by simp [execOp, resolve, invoke, builtin, hx, hy, run_min_int2]) (by simp [VR])
        · simp at hz
      · simp at hz
    · simp at ha
  · rename_i args argTypes
    split at ha
    · rename_i x y hargs
      simp only [Option.map_eq_some_iff, Prod.mk.injEq] at ha
      obtain ⟨z, hz, rfl, rfl⟩ := ha
      have e1 : args = #[x, y] := by apply Array.ext'; simpa using hargs
      subst e1
      have hx := hev x
      have hy := hev y
      unfold aMax at hz
      split at hz
      · rename_i k a k' b h1 h2
        rw [h1] at hx; rw [h2] at hy
        simp only [VR] at hx hy
        split at hz
        · simp at hz; subst hz
          exact same (.int k (if a < b then b else a)) rfl (by simp [execOp, resolve, invoke, builtin, hx, hy, run_max_int2]) (by simp [VR])
        · simp at hz
      · simp at hz
    · simp at ha
  · simp at ha

end
end Go.Proofs.Ytkpjaffbbppneaa

/- Regions, code and calls, by the abstract steps. -/
namespace Go.Proofs.Ytkpjaffbbppneaa
open Go Go.RowKit

def callable (P : Program) (f : FuncId) : Bool :=
  match P.funcs[f]? with
  | some fn => fn.body.isSome && fn.name != "runtime.NumGoroutine"
  | none => false

/-- A call, said of abstract values and memory: whatever world it stands for. -/
def ACalls (P : Program) (f : FuncId) (args : List AV) (m : List AO) (K : AV → List AO → Prop) : Prop :=
  callable P f = true ∧ ∀ (B0 : Nat) (w0 : World) (ρ : List Place) (w : World) (cargs : Array Value), Sim B0 w0 ρ m w → VRs ρ args cargs.toList →
    Calls P f cargs w fun e w' => ∃ v v' m' ρ', e = .returned v' ∧ Sim B0 w0 ρ' m' w' ∧ Ext ρ ρ' ∧ VR ρ' v v' ∧ K v m'

theorem ACalls.mono {P : Program} {f : FuncId} {args : List AV} {m : List AO} {K K' : AV → List AO → Prop} (h : ACalls P f args m K) (hk : ∀ v m', K v m' → K' v m') : ACalls P f args m K' :=
  ⟨h.1, fun B0 w0 ρ w cargs hs hr => (h.2 B0 w0 ρ w cargs hs hr).mono fun _ _ ⟨v, v', m', ρ', h1, h2, h3, h4, h5⟩ => ⟨v, v', m', ρ', h1, h2, h3, h4, hk _ _ h5⟩⟩

def awant (ops : Array Oper) (env : Env) (o : Oper) : Option Bool :=
  match o.guard with
  | none => some true
  | some (j, want) =>
    match (ops[j]?).bind (·.dst) with
    | some d => match env d with
      | .s (.bool b) => some (b == want)
      | .s (.tuple _) => some false
      | _ => none
    | none => some false

def aput (N : Nat) (env : Env) (dst : Option Tmp) (v : AV) (K : Env → Prop) : Prop :=
  match dst with
  | none => K env
  | some d => d < N ∧ K (env.upd d v)

def aV (r : Option (AV × List AO)) (K : AV → List AO → Prop) : Prop :=
  match r with
  | some (v, m') => K v m'
  | none => False

/-- How calls are taken: any way; or each with one outcome, the memory left alone but by those that write to the listed slots (in longer memory too, if so marked). -/
abbrev Md := Option (List (Option Tmp) × Bool)

def aC (P : Program) (D : Md) (dst : Option Tmp) (f : FuncId) (args : List AV) (m : List AO) (K : AV → List AO → Prop) : Prop :=
  match D with
  | none => ACalls P f args m K
  | some (W, ext) => if W.contains dst = true then ∃ v m', ACalls P f args m (fun v' m'' => v' = v ∧ m'' = m') ∧ K v m'
    else if ext = true then ∃ v, (∀ m2, ACalls P f args m2 fun v' m'' => v' = v ∧ m'' = m2) ∧ K v m
    else ∃ v, ACalls P f args m (fun v' m'' => v' = v ∧ m'' = m) ∧ K v m

theorem aC.calls {P : Program} {D : Md} {dst : Option Tmp} {f : FuncId} {args : List AV} {m : List AO} {K : AV → List AO → Prop} (h : aC P D dst f args m K) : ACalls P f args m K := by
  unfold aC at h
  split at h
  · exact h
  · split at h
    · obtain ⟨v, m', h1, h2⟩ := h; exact h1.mono fun v' m'' ⟨e1, e2⟩ => by rw [e1, e2]; exact h2
    · split at h
      · obtain ⟨v, h1, h2⟩ := h
        exact (h1 m).mono fun v' m'' ⟨e1, e2⟩ => by rw [e1, e2]; exact h2
      · obtain ⟨v, h1, h2⟩ := h; exact h1.mono fun v' m'' ⟨e1, e2⟩ => by rw [e1, e2]; exact h2

def astep (P : Program) (D : Md) (env : Env) (o : Oper) (m : List AO) (K : AV → List AO → Prop) : Prop :=
  match o.op with
  | .call { callee := .value fv, args, .. } =>
    match aev env fv with
    | .fn f caps => aC P D o.dst f (args.toList.map (aev env) ++ caps) m K
    | _ => False
  | op => aV (aop P op (aev env) m) K

/-- A branch: its ways are not looked into before the test is decided. -/
def AIf (b : Bool) (X Y : Prop) : Prop := (b = true → X) ∧ (b = false → Y)

theorem AIf.intro {b : Bool} {X Y : Prop} (h1 : b = true → X) (h2 : b = false → Y) : AIf b X Y := ⟨h1, h2⟩
theorem AIf.tt {X Y : Prop} : AIf true X Y = X := by simp [AIf]
theorem AIf.ff {X Y : Prop} : AIf false X Y = Y := by simp [AIf]

def awpOps (P : Program) (N : Nat) (D : Md) (ops : Array Oper) (K : Env → List AO → Prop) : List Oper → Env → List AO → Prop
  | [], env, m => K env m
  | o :: rest, env, m =>
    match awant ops env o with
    | some b => AIf b (astep P D env o m fun v m' => aput N env o.dst v fun env' => awpOps P N D ops K rest env' m')
        (aput N env o.dst (.s undef) fun env' => awpOps P N D ops K rest env' m)
    | none => False

def ER (ρ : List Place) (env : Env) (tmps : Array Value) : Prop := ∀ t, VR ρ (env t) (tmps.getD t undef)

structure St (N B0 : Nat) (w0 : World) (ρe : List Place) (env : Env) (m : List AO) (a : Act) (w : World) : Prop where
  ex : ∃ ρ, Sim B0 w0 ρ m w ∧ ER ρ env a.tmps ∧ Ext ρe ρ
  size : a.tmps.size = N
  defers : a.defers = []

theorem ER.ev {ρ : List Place} {env : Env} {a : Act} (h : ER ρ env a.tmps) : ∀ x, VR ρ (aev env x) (a.eval x) := by
  intro x
  cases x with
  | tmp t => exact h t
  | const v => cases v <;> simp [aev, aconst, Act.eval, VR]
  | global g => simp [aev, VR]
  | func f => simp [aev, VR, Act.eval, VRs]

theorem ER.ext {ρ ρ' : List Place} {env : Env} {tmps : Array Value} (h : ER ρ env tmps) (hx : Ext ρ ρ') : ER ρ' env tmps := fun t => VR.ext hx _ _ (h t)

theorem ER.put {ρ : List Place} {env : Env} {a : Act} (h : ER ρ env a.tmps) {d : Nat} (hd : d < a.tmps.size) {x : AV} {v : Value} (hv : VR ρ x v) : ER ρ (env.upd d x) (a.put (some d) v).tmps := by
  intro t
  simp only [Act.put, Env.upd]
  by_cases ht : t = d
  · subst ht; simp [hd]; exact hv
  · have := h t
    simp only [ht, if_false]
    simp [Array.getElem?_setIfInBounds_ne (fun e => ht e.symm)] at this ⊢
    exact this

theorem St.put {N B0 : Nat} {w0 w : World} {ρe ρ : List Place} {env : Env} {m : List AO} {a : Act} {dst : Option Tmp} {x : AV} {v : Value} {K : Env → Prop} (h : St N B0 w0 ρe env m a w)
    {m' : List AO} {w' : World} (hs : Sim B0 w0 ρ m' w') (he : ER ρ env a.tmps) (hx : Ext ρe ρ) (hv : VR ρ x v) (hp : aput N env dst x K) : ∃ env', St N B0 w0 ρe env' m' (a.put dst v) w' ∧ K env' := by
  cases dst with
  | none => exact ⟨env, ⟨⟨ρ, hs, he, hx⟩, h.size, h.defers⟩, hp⟩
  | some d =>
    obtain ⟨hd, hk⟩ := hp
    exact ⟨_, ⟨⟨ρ, hs, he.put (by rw [h.size]; exact hd) hv, hx⟩, by simp [Act.put, h.size], h.defers⟩, hk⟩

theorem awant_sound {ops : Array Oper} {ρ : List Place} {env : Env} {a : Act} {o : Oper} {b : Bool} (he : ER ρ env a.tmps) (h : awant ops env o = some b) : Region.wanted o (yielded ops a.tmps) = b := by
  unfold awant at h
  unfold Region.wanted
  cases hg : o.guard with
  | none => simp [hg] at h; simp [← h]
  | some jw =>
    obtain ⟨j, want⟩ := jw
    simp only [hg] at h ⊢
    unfold yielded
    cases hd : (ops[j]?).bind (·.dst) with
    | none => simp [hd] at h; simp [← h]
    | some d =>
      simp only [hd] at h
      have hv := he d
      split at h
      · rename_i b' hb
        simp at h; subst h
        rw [hb] at hv; simp only [VR] at hv
        cases ht : a.tmps[d]? with
        | none => simp [ht, undef] at hv
        | some u => simp [ht] at hv; subst hv; simp [ht]
      · rename_i ys hb
        simp at h; subst h
        rw [hb] at hv; simp only [VR] at hv
        cases ht : a.tmps[d]? with
        | none => simp [ht]
        | some u => simp [ht] at hv; subst hv; simp [ht]
      · simp at h

theorem run_call_value {P : Program} {a : Act} {o : Oper} {c : Call} {fv : Operand} {f : FuncId} {caps : Array Value} (ho : o.op = .call c) (hc : c.callee = .value fv) (hv : a.eval fv = .func (.func f) #[] caps) (hf : callable P f = true) (w : World) :
    (execOp a.eval o).run P w = .ok (.enter f (c.args.map a.eval ++ caps)) w := by
  unfold callable at hf
  cases hfn : P.funcs[f]? with
  | none => simp [hfn] at hf
  | some fn =>
    simp only [hfn, Bool.and_eq_true, bne_iff_ne, ne_eq] at hf
    have hb : fn.body.isNone = false := by cases hh : fn.body <;> simp_all
    have hb2 : fn.body ≠ none := by intro e; rw [e] at hb; simp at hb
    simp [execOp, ho, resolve, hc, hv, Deferred.ofValue, invoke, callFunc, hfn, hf.2, hb2]

theorem VRs.append' {ρ : List Place} {xs ys : List AV} {us vs : Array Value} (h : VRs ρ xs us.toList) (k : VRs ρ ys vs.toList) : VRs ρ (xs ++ ys) (us ++ vs).toList := by
  rw [Array.toList_append]; exact VRs.app h k

/-- One operation of a region. -/
theorem astep_sound {P : Program} {D : Md} {N B0 : Nat} {w0 w : World} {ρe : List Place} {env : Env} {m : List AO} {a : Act} {o : Oper} {K : AV → List AO → Prop} {next : Act → World → Prop} {Q : Exit → Act → World → Prop}
    (hst : St N B0 w0 ρe env m a w) (h : astep P D env o m K) (hk : ∀ v m' ρ u w', Sim B0 w0 ρ m' w' → ER ρ env a.tmps → Ext ρe ρ → VR ρ v u → K v m' → next (a.put o.dst u) w') : o.wp P a w next Q := by
  obtain ⟨⟨ρ, hs, he, hx⟩, _, _⟩ := hst
  have hev := he.ev
  unfold Oper.wp
  have plain : ∀ {v : AV} {m' : List AO}, aop P o.op (aev env) m = some (v, m') → K v m' → o.upon P a next Q ((execOp a.eval o).run P w) := by
    intro v m' ha hK
    obtain ⟨w', ρ', u, hr, h1, h2, h3⟩ := aop_sound hs hev ha
    rcases hr with hr | ⟨hr, rfl⟩
    · rw [hr]; exact hk v m' ρ' u w' h1 (he.ext h2) (hx.trans h2) h3 hK
    · rw [hr]; exact hk v m' ρ' undef w' h1 (he.ext h2) (hx.trans h2) h3 hK
  unfold astep at h
  split at h
  · rename_i fv args tys hop
    split at h
    · rename_i f caps hfv
      have hfe := hev fv
      rw [hfv] at hfe; simp only [VR] at hfe
      obtain ⟨ys, hy, hr⟩ := hfe
      have h := h.calls
      rw [run_call_value hop rfl hy h.1 w]
      refine (h.2 B0 w0 ρ w _ hs (VRs.append' (by rw [Array.toList_map]; exact caps_rel hev args.toList) hr)).mono ?_
      rintro e w' ⟨v, v', m', ρ', rfl, h1, h2, h3, h4⟩
      exact hk v m' ρ' v' w' h1 (he.ext h2) (hx.trans h2) h3 h4
    · exact h.elim
  · unfold aV at h
    split at h
    · rename_i v m' ha
      exact plain ha h
    · exact h.elim

theorem awpOps_sound {P : Program} {D : Md} {N B0 : Nat} {w0 : World} {ρe : List Place} {ops : Array Oper} {K : Env → List AO → Prop} {Q : Exit → Act → World → Prop}
    (hQ : ∀ env m a w, St N B0 w0 ρe env m a w → K env m → Q .normal a w) : ∀ (l : List Oper) (env : Env) (m : List AO) (a : Act) (w : World), St N B0 w0 ρe env m a w → awpOps P N D ops K l env m → wpList P ops Q l a w
  | [], env, m, a, w, hst, h => hQ env m a w hst h
  | o :: rest, env, m, a, w, hst, h => by
    simp only [awpOps] at h
    simp only [wpList]
    obtain ⟨⟨ρ, hs, he, hx⟩, hsz, hdf⟩ := hst
    have hst : St N B0 w0 ρe env m a w := ⟨⟨ρ, hs, he, hx⟩, hsz, hdf⟩
    split at h
    · rename_i b hw
      rw [awant_sound he hw]
      cases b with
      | true =>
        rw [if_pos rfl]
        refine .inl (astep_sound hst (h.1 rfl) fun v m' ρ' u w' h1 h2 h3 h4 h5 => ?_)
        obtain ⟨env', h6, h7⟩ := hst.put h1 h2 h3 h4 h5
        exact awpOps_sound hQ rest env' m' _ w' h6 h7
      | false =>
        rw [if_neg (by simp)]
        obtain ⟨env', h6, h7⟩ := hst.put (v := undef) hs he hx (by simp [VR]) (h.2 rfl)
        exact awpOps_sound hQ rest env' m _ w h6 h7
    · exact h.elim

inductive AX where
  | normal
  | exit (id : Nat)
  | ret

def AX.to : AX → Exit
  | .normal => .normal
  | .exit id => .exit id
  | .ret => .ret

/-- A region that draws its order. -/
def ADraw (P : Program) (N n : Nat) (id : Nat) (ops : Array Oper) (K : Env → List AO → Prop) (env : Env) (m : List AO) : Prop :=
  ∀ (B0 : Nat) (w0 : World) (ρe : List Place) (a : Act) (w : World) (Q : Exit → Act → World → Prop), ρe.length = n → St N B0 w0 ρe env m a w →
    (∀ env m a w, St N B0 w0 ρe env m a w → K env m → Q .normal a w) → (Code.region id ops true).wp P Q a w

def Closed (m : List AO) : Prop := ∀ o ∈ m, o.sc m.length = true

/-- Less is said: slots forgotten, the last objects dropped. -/
def Wk (n : Nat) (env : Env) (m : List AO) (env' : Env) (m' : List AO) : Prop :=
  ∃ tl, m = m' ++ tl ∧ (tl ≠ [] → n ≤ m'.length ∧ Closed m') ∧ ∀ t, env' t = .any ∨ (env' t = env t ∧ (tl ≠ [] → (env t).sc m'.length = true))

def ALoop (n : Nat) (body : (AX → Env → List AO → Prop) → Env → List AO → Prop) (K : AX → Env → List AO → Prop) (env : Env) (m : List AO) : Prop :=
  ∃ (α : Type) (S : α → Env) (M : α → List AO) (μ : α → Nat) (x0 : α), Wk n env m (S x0) (M x0) ∧
    ∀ x, body (fun e env' m' => match e with | .normal => ∃ x', Wk n env' m' (S x') (M x') ∧ μ x' < μ x | e => K e env' m') (S x) (M x)

def awp (P : Program) (N n : Nat) (D : Md) : Code → (AX → Env → List AO → Prop) → Env → List AO → Prop
  | .skip, K, env, m => K .normal env m
  | .region id ops draw, K, env, m => match draw with
    | true => ADraw P N n id ops (K .normal) env m
    | false => awpOps P N D ops (K .normal) ops.toList env m
  | .seq a b, K, env, m => awp P N n D a (fun e env m => match e with | .normal => awp P N n D b K env m | e => K e env m) env m
  | .cond c t f, K, env, m => match aev env c with
    | .s (.bool b) => AIf b (awp P N n D t K env m) (awp P N n D f K env m)
    | _ => False
  | .block id body, K, env, m => awp P N n D body (fun e env m => match e with | .exit i => if i = id then K .normal env m else K (.exit i) env m | e => K e env m) env m
  | .loop body, K, env, m => ALoop n (awp P N n D body) K env m
  | .exit id, K, env, m => K (.exit id) env m
  | .ret, K, env, m => K .ret env m
  | _, _, _, _ => False


theorem Sim.closed {B0 : Nat} {w0 w : World} {ρ : List Place} {m : List AO} (h : Sim B0 w0 ρ m w) : Closed m := by
  intro o ho
  obtain ⟨i, hi, rfl⟩ := List.mem_iff_getElem.1 ho
  have hm : m[i]? = some m[i] := List.getElem?_eq_getElem hi
  obtain ⟨p, hp⟩ := h.place hm
  have hr := h.obj i _ p hm hp
  generalize m[i] = o at hr
  rw [← h.len]
  cases o with
  | dead => rfl
  | cells xs g z => obtain ⟨_, _, _, _, cs, e, _, _, _, h7⟩ := hr; exact VRs.sc _ _ h7
  | ro xs z =>
    obtain ⟨_, _, _, _, h7⟩ := hr
    obtain ⟨us, h8, _⟩ := gather (ρ := ρ) (C := fun i u => w.cell? ⟨p.blk, p.off + i, none⟩ = some u) xs h7
    exact VRs.sc _ _ h8
  | amap es =>
    obtain ⟨_, _, cs, c, _, h7, h8, _⟩ := hr
    have e1 := VRs.sc _ _ h7
    have e2 := VRs.sc _ _ h8
    simp only [AO.sc, List.all_eq_true]
    have key : ∀ (L : Nat) (es : List (AV × AV)), scs L (es.map (·.1)) = true → scs L (es.map (·.2)) = true → ∀ x ∈ es, (x.1.sc L && x.2.sc L) = true := by
      intro L es
      induction es with
      | nil => intro _ _ x hx; simp at hx
      | cons y ys ih =>
        intro a1 a2 x hx
        simp [scs] at a1 a2
        rcases List.mem_cons.1 hx with rfl | hx
        · simp [a1.1, a2.1]
        · exact ih (by simpa using a1.2) (by simpa using a2.2) x hx
    exact key _ es e1 e2

theorem Sim.trunc {B0 : Nat} {w0 w : World} {ρ : List Place} {m' tl : List AO} (h : Sim B0 w0 ρ (m' ++ tl) w) (hc : Closed m') : Sim B0 w0 (ρ.take m'.length) m' w := by
  have hl := h.len
  simp only [List.length_append] at hl
  refine ⟨h.below, h.le, by simp; omega, fun i o p ho hp => ?_, fun i j o o' p q ho ho' w1 w2 hij hp hq => ?_⟩
  · have hi := (List.getElem?_eq_some_iff.1 ho).1
    rw [List.getElem?_take, if_pos hi] at hp
    have hr := h.obj i o p (by rw [List.getElem?_append_left hi]; exact ho) hp
    have hsc := hc o (List.mem_of_getElem? ho)
    cases o with
    | dead => exact hr
    | cells xs g z => obtain ⟨a, b, c, d, cs, e, e1, e2, e3, e4⟩ := hr; exact ⟨a, b, c, d, cs, e, e1, e2, e3, VRs.take _ _ _ e4 hsc⟩
    | ro xs z =>
      obtain ⟨a, b, c, d, e⟩ := hr
      refine ⟨a, b, c, d, fun i x hx => ?_⟩
      obtain ⟨v, hv, hr⟩ := e i x hx
      refine ⟨v, hv, VR.take _ _ _ hr ?_⟩
      have : ∀ (L : Nat) (xs : List AV), scs L xs = true → ∀ (i : Nat) (x : AV), xs[i]? = some x → x.sc L = true := by
        intro L xs
        induction xs with
        | nil => intro _ i x hx; simp at hx
        | cons y ys ih =>
          intro hs i x hx
          simp [scs] at hs
          cases i with
          | zero => simp at hx; subst hx; exact hs.1
          | succ i => exact ih hs.2 i x (by simpa using hx)
      exact this _ xs hsc i x hx
    | amap es =>
      obtain ⟨a, b, cs, c, d, e1, e2, e3⟩ := hr
      simp only [AO.sc, List.all_eq_true] at hsc
      have key : ∀ (L : Nat) (es : List (AV × AV)), (∀ x ∈ es, (x.1.sc L && x.2.sc L) = true) → scs L (es.map (·.1)) = true ∧ scs L (es.map (·.2)) = true := by
        intro L es
        induction es with
        | nil => intro _; simp [scs]
        | cons y ys ih =>
          intro hx
          have h1 := hx y (by simp)
          have h2 := ih fun x hx' => hx x (by simp [hx'])
          simp at h1
          simp [scs, h1]
          exact ⟨by simpa using h2.1, by simpa using h2.2⟩
      obtain ⟨k1, k2⟩ := key _ es hsc
      exact ⟨a, b, cs, c, d, VRs.take _ _ _ e1 k1, VRs.take _ _ _ e2 k2, e3⟩
  · have hi := (List.getElem?_eq_some_iff.1 ho).1
    have hj := (List.getElem?_eq_some_iff.1 ho').1
    rw [List.getElem?_take, if_pos hi] at hp
    rw [List.getElem?_take, if_pos hj] at hq
    exact h.inj i j o o' p q (by rw [List.getElem?_append_left hi]; exact ho) (by rw [List.getElem?_append_left hj]; exact ho') w1 w2 hij hp hq

theorem Ext.take {ρe ρ : List Place} (h : Ext ρe ρ) (L : Nat) (hL : ρe.length ≤ L) : Ext ρe (ρ.take L) := by
  intro a p hp
  obtain ⟨q, hq, r⟩ := h a p hp
  have := (List.getElem?_eq_some_iff.1 hp).1
  exact ⟨q, take_get hq (by omega), r⟩

theorem St.weak {N B0 : Nat} {w0 w : World} {ρe : List Place} {env env' : Env} {m m' : List AO} {a : Act} (h : St N B0 w0 ρe env m a w) (hw : Wk ρe.length env m env' m') : St N B0 w0 ρe env' m' a w := by
  obtain ⟨tl, rfl, h1, h2⟩ := hw
  obtain ⟨⟨ρ, hs, he, hx⟩, hsz, hdf⟩ := h
  by_cases ht : tl = []
  · subst ht
    rw [List.append_nil] at hs
    refine ⟨⟨ρ, hs, fun t => ?_, hx⟩, hsz, hdf⟩
    rcases h2 t with e | ⟨e, _⟩
    · rw [e]; simp [VR]
    · rw [e]; exact he t
  · obtain ⟨hn, hc⟩ := h1 ht
    refine ⟨⟨ρ.take m'.length, hs.trunc hc, fun t => ?_, hx.take _ hn⟩, hsz, hdf⟩
    rcases h2 t with e | ⟨e, k⟩
    · rw [e]; simp [VR]
    · rw [e]; exact VR.take _ _ _ (he t) (k ht)

theorem wp_loop_ghost {P : Program} {Q : Exit → Act → World → Prop} {a : Act} {w : World} {c : Code} {α : Type} (I : α → Act → World → Prop) (μ : α → Nat) (x0 : α) (h₀ : I x0 a w)
    (round : ∀ x a w, I x a w → c.wp P (Exit.then (fun a' w' => ∃ x', I x' a' w' ∧ μ x' < μ x) Q) a w) : (Code.loop c).wp P Q a w := by
  intro b k cs
  have key : ∀ n x a w, μ x = n → I x a w →
      ∃ e a' w', Q e a' w' ∧ Arrives P (lone (b.at a (.code c :: .inLoop c :: k)) cs w) b k cs e a' w' := by
    intro n
    induction n using Nat.strongRecOn with
    | _ n ih =>
      intro x a w hn hI
      obtain ⟨e, a₁, w₁, hq, harr⟩ := round x a w hI b (.inLoop c :: k) cs
      cases e with
      | normal =>
        obtain ⟨x₁, hI₁, hlt⟩ := hq
        obtain ⟨e₂, a₂, w₂, hq₂, harr₂⟩ := ih (μ x₁) (hn ▸ hlt) x₁ a₁ w₁ rfl hI₁
        exact ⟨e₂, a₂, w₂, hq₂, .of_steps (Steps.trans harr (.one step_inLoop)) harr₂⟩
      | exit id => exact ⟨_, a₁, w₁, hq, .pass (x := .inLoop c) rfl (fun _ _ => .inl (by simp)) harr⟩
      | goto l => exact ⟨_, a₁, w₁, hq, .pass (x := .inLoop c) rfl (fun _ _ => .inl (by simp)) harr⟩
      | ret => exact ⟨_, a₁, w₁, hq, .pass (x := .inLoop c) rfl (fun _ _ => .inl (by simp)) harr⟩
      | panic ch => exact ⟨_, a₁, w₁, hq, .pass (x := .inLoop c) rfl (fun _ _ => .inl (by simp)) harr⟩
      | outgrown => exact ⟨_, a₁, w₁, hq, .pass (x := .inLoop c) rfl (fun _ _ => .inl (by simp)) harr⟩
  obtain ⟨e, a', w', hq, harr⟩ := key _ x0 a w rfl h₀
  exact ⟨e, a', w', hq, .of_steps (.one step_loop) harr⟩

theorem awp_sound {P : Program} {D : Md} {N B0 : Nat} {w0 : World} {ρe : List Place} : ∀ (c : Code) (K : AX → Env → List AO → Prop) (Q : Exit → Act → World → Prop) (env : Env) (m : List AO) (a : Act) (w : World),
    St N B0 w0 ρe env m a w → (∀ e env m a w, St N B0 w0 ρe env m a w → K e env m → Q e.to a w) → awp P N ρe.length D c K env m → c.wp P Q a w
  | .skip, K, Q, env, m, a, w, hst, hQ, h => wp_skip (hQ .normal env m a w hst h)
  | .region id ops draw, K, Q, env, m, a, w, hst, hQ, h => by
    cases draw with
    | true =>
      simp only [awp] at h
      exact h B0 w0 ρe a w Q rfl hst fun env m a w h1 h2 => hQ .normal env m a w h1 h2
    | false =>
      simp only [awp] at h
      exact wp_region_list (awpOps_sound (fun env m a w h1 h2 => hQ .normal env m a w h1 h2) _ env m a w hst h)
  | .seq x y, K, Q, env, m, a, w, hst, hQ, h => by
    simp only [awp] at h
    refine wp_seq (awp_sound x _ _ env m a w hst ?_ h)
    intro e env m a w h1 h2
    cases e with
    | normal => exact awp_sound y K Q env m a w h1 hQ h2
    | exit id => exact hQ (.exit id) env m a w h1 h2
    | ret => exact hQ .ret env m a w h1 h2
  | .cond c x y, K, Q, env, m, a, w, hst, hQ, h => by
    simp only [awp] at h
    obtain ⟨⟨ρ, hs, he, hx⟩, hsz, hdf⟩ := hst
    have hst : St N B0 w0 ρe env m a w := ⟨⟨ρ, hs, he, hx⟩, hsz, hdf⟩
    have hv := he.ev c
    split at h
    · rename_i b hb
      rw [hb] at hv; simp only [VR] at hv
      refine wp_cond hv ?_
      cases b with
      | true => simp only [if_true]; exact awp_sound x K Q env m a w hst hQ (h.1 rfl)
      | false => simp only [Bool.false_eq_true, if_false]; exact awp_sound y K Q env m a w hst hQ (h.2 rfl)
    · exact h.elim
  | .block id body, K, Q, env, m, a, w, hst, hQ, h => by
    simp only [awp] at h
    refine wp_block (awp_sound body _ _ env m a w hst ?_ h)
    intro e env m a w h1 h2
    cases e with
    | normal => exact hQ .normal env m a w h1 h2
    | exit i =>
      simp only at h2
      simp only [AX.to, Exit.inBlock]
      split
      · rename_i hi; rw [if_pos hi] at h2; exact hQ .normal env m a w h1 h2
      · rename_i hi; rw [if_neg hi] at h2; exact hQ (.exit i) env m a w h1 h2
    | ret => exact hQ .ret env m a w h1 h2
  | .loop body, K, Q, env, m, a, w, hst, hQ, h => by
    simp only [awp] at h
    obtain ⟨α, S, M, μ, x0, h0, hr⟩ := h
    refine wp_loop_ghost (fun x a w => St N B0 w0 ρe (S x) (M x) a w) μ x0 (hst.weak h0) fun x a w hx => ?_
    refine awp_sound body _ _ (S x) (M x) a w hx ?_ (hr x)
    intro e env m a w h1 h2
    cases e with
    | normal =>
      obtain ⟨x', h3, h4⟩ := h2
      exact ⟨x', h1.weak h3, h4⟩
    | exit id => exact hQ (.exit id) env m a w h1 h2
    | ret => exact hQ .ret env m a w h1 h2
  | .exit id, K, Q, env, m, a, w, hst, hQ, h => wp_exit (hQ (.exit id) env m a w hst h)
  | .ret, K, Q, env, m, a, w, hst, hQ, h => wp_ret (hQ .ret env m a w hst h)
  | .rangeFunc .., _, _, _, _, _, _, _, _, h => by simp [awp] at h
  | .scope .., _, _, _, _, _, _, _, _, h => by simp [awp] at h
  | .label .., _, _, _, _, _, _, _, _, h => by simp [awp] at h
  | .goto .., _, _, _, _, _, _, _, _, h => by simp [awp] at h
  | .refuse .., _, _, _, _, _, _, _, _, h => by simp [awp] at h

def ares (P : Program) (env : Env) (m : List AO) : List ResultVar → Option (List AV)
  | [] => some []
  | .tmp t :: r => match ares P env m r with
    | some vs => some (env t :: vs)
    | none => none
  | .cell a t :: r => match aLoad P m t (env a), ares P env m r with
    | some v, some vs => some (v :: vs)
    | _, _ => none

def aone : List AV → AV
  | [v] => v
  | vs => .tup vs

/-- What is left when the call is over. -/
def Trunc (n : Nat) (m : List AO) (v : AV) (m' : List AO) : Prop := ∃ tl, m = m' ++ tl ∧ (tl ≠ [] → n ≤ m'.length ∧ Closed m' ∧ v.sc m'.length = true)

def aend (P : Program) (n : Nat) (rs : List ResultVar) (K : AV → List AO → Prop) : AX → Env → List AO → Prop
  | .exit _, _, _ => False
  | _, env, m => match ares P env m rs with
    | some vs => ∃ m', Trunc n m (aone vs) m' ∧ K (aone vs) m'
    | none => False

def resF (tmps : Array Value) : ResultVar → Sem Value
  | .tmp t => pure (tmps.getD t undef)
  | .cell a t => do loadVar t (← asAddr (tmps.getD a undef))

theorem results_eq (fn : Func) (tmps : Array Value) : results fn tmps = (do let vs ← fn.results.mapM (resF tmps); pure (if h : vs.size = 1 then vs[0] else .tuple vs)) := by
  unfold results
  congr 1

theorem ares_sound {P : Program} {B0 : Nat} {w0 w : World} {ρ : List Place} {m : List AO} {env : Env} {tmps : Array Value} (hs : Sim B0 w0 ρ m w) (he : ER ρ env tmps) : ∀ (rs : List ResultVar) (vs : List AV), ares P env m rs = some vs →
    ∃ us : List Value, (rs.mapM (resF tmps)).run P w = .ok us w ∧ VRs ρ vs us
  | [], vs, h => by simp [ares] at h; subst h; exact ⟨[], by simp, by simp [VRs]⟩
  | .tmp t :: r, vs, h => by
    simp only [ares] at h
    split at h
    · rename_i vs' hr
      simp at h; subst h
      obtain ⟨us, h1, h2⟩ := ares_sound hs he r vs' hr
      exact ⟨tmps.getD t undef :: us, by simp only [List.mapM_cons, resF, Sem.run_bind, Sem.run_pure, Result.andThen_ok, h1], by simp only [VRs]; exact ⟨he t, h2⟩⟩
    · simp at h
  | .cell a t :: r, vs, h => by
    simp only [ares] at h
    split at h
    · rename_i v vs' hl hr
      simp at h; subst h
      obtain ⟨us, h1, h2⟩ := ares_sound hs he r vs' hr
      obtain ⟨u, h3, h4⟩ := load_sound hs hl (he a)
      refine ⟨u :: us, ?_, by simp only [VRs]; exact ⟨h4, h2⟩⟩
      have hp : ∃ ad, tmps.getD a undef = .pointer (some ad) := by
        have := he a
        cases hx : env a with
        | ptr b o g => rw [hx] at this; simp only [VR] at this; obtain ⟨_, _, _, ⟨ad, h⟩, _⟩ := this; exact ⟨ad, h⟩
        | _ => simp [hx, aLoad] at hl
      obtain ⟨ad, had⟩ := hp
      have h3' : (loadVar t ad).run P w = .ok u w := by
        rw [had] at h3; simpa [Instr.loadAt, Instr.sureAddr] using h3
      simp only [List.mapM_cons, resF, Sem.run_bind, had, asAddr, Sem.run_pure, Result.andThen_ok, h3', h1]
    · simp at h

theorem results_sound {P : Program} {B0 : Nat} {w0 w : World} {ρ : List Place} {m : List AO} {env : Env} {tmps : Array Value} {fn : Func} {vs : List AV} (hs : Sim B0 w0 ρ m w) (he : ER ρ env tmps) (h : ares P env m fn.results.toList = some vs) :
    ∃ u, (results fn tmps).run P w = .ok u w ∧ VR ρ (aone vs) u := by
  obtain ⟨us, h1, h2⟩ := ares_sound (P := P) hs he _ vs h
  have hl := h2.length
  refine ⟨if h : us.toArray.size = 1 then us.toArray[0] else .tuple us.toArray, ?_, ?_⟩
  · rw [results_eq, Array.mapM_eq_mapM_toList]
    simp only [Sem.run_bind, Sem.run_map, Sem.run_pure, h1, Result.andThen_ok]
  · match vs, us, h2 with
    | [], [], _ => simp [aone, VR, VRs]
    | [v], [u], h2 => simp only [VRs] at h2; simpa [aone] using h2.1
    | v :: v2 :: vs, u :: u2 :: us, h2 => simp [aone, VR]; exact h2
    | [], _ :: _, h2 => simp [VRs] at h2
    | _ :: _, [], h2 => simp [VRs] at h2
    | [_], _ :: _ :: _, h2 => simp [VRs] at h2
    | _ :: _ :: _, [_], h2 => simp [VRs] at h2

def argE : Nat → List AV → Nat → AV
  | _, [], _ => .s undef
  | i, a :: r, t => if t = i then a else argE (i + 1) r t

theorem argE_getD : ∀ (args : List AV) (i t : Nat), i ≤ t → argE i args t = args.getD (t - i) (.s undef)
  | [], i, t, _ => by simp [argE]
  | a :: r, i, t, h => by
    simp only [argE]
    split
    · rename_i e; subst e; simp
    · have e : t - i = (t - (i + 1)) + 1 := by omega
      rw [argE_getD r (i + 1) t (by omega), e]; simp

def env0 (args : List AV) : Env := argE 0 args

/-- A call's contract out of its body. -/
theorem ACalls.of_body {P : Program} {f : FuncId} {fn : Func} {c : Code} {args : List AV} {m : List AO} {K : AV → List AO → Prop} (hf : P.funcs[f]? = some fn) (hb : fn.body = some c) (hname : (fn.name != "runtime.NumGoroutine") = true)
    (hn : args.length ≤ fn.ntmps) (h : Closed m → awp P fn.ntmps m.length none c (aend P m.length fn.results.toList K) (env0 args) m) : ACalls P f args m K := by
  refine ⟨by simp [callable, hf, hb]; simpa using hname, fun B0 w0 ρ w cargs hs hr => ?_⟩
  have hl := hr.length
  simp at hl
  refine calls_of_wp hf hb ?_
  have hawp := h hs.closed
  rw [← hs.len] at hawp
  refine awp_sound (N := fn.ntmps) (B0 := B0) (w0 := w0) (ρe := ρ) c _ _ (env0 args) m _ w ⟨⟨ρ, hs, fun t => ?_, Ext.refl _⟩, by simp; omega, rfl⟩ ?_ hawp
  · simp only [env0]
    rw [argE_getD args 0 t (Nat.zero_le _), Nat.sub_zero]
    by_cases ht : t < args.length
    · obtain ⟨v, hv, hr'⟩ := hr.get (List.getElem?_eq_getElem ht)
      have hv' : cargs[t]? = some v := by simpa using hv
      have : (cargs ++ Array.replicate (fn.ntmps - cargs.size) undef).getD t undef = v := by
        rw [Array.getD_eq_getD_getElem?, Array.getElem?_append_left (by omega), hv']; rfl
      rw [this, List.getD_eq_getElem?_getD, List.getElem?_eq_getElem ht]
      exact hr'
    · rw [List.getD_eq_getElem?_getD, List.getElem?_eq_none (by omega)]
      simp only [Option.getD_none, VR]
      rw [Array.getD_eq_getD_getElem?]
      by_cases h2 : t < cargs.size + (fn.ntmps - cargs.size)
      · rw [Array.getElem?_append_right (by omega), Array.getElem?_replicate]
        split <;> rfl
      · rw [Array.getElem?_eq_none (by simp; omega)]; rfl
  · intro e env m' a w' hst hk
    obtain ⟨⟨ρ', hs', he', hx'⟩, hsz, hdf⟩ := hst
    have fin : ∀ vs, ares P env m' fn.results.toList = some vs → (∃ m2, Trunc ρ.length m' (aone vs) m2 ∧ K (aone vs) m2) →
        a.defers = [] ∧ ∃ v, (results fn a.tmps).run P w' = .ok v w' ∧ ∃ v0 v', ∃ m2 ρ2, Ending.returned v = .returned v' ∧ Sim B0 w0 ρ2 m2 w' ∧ Ext ρ ρ2 ∧ VR ρ2 v0 v' ∧ K v0 m2 := by
      intro vs hvs ⟨m2, ⟨tl, htl, htr⟩, hK⟩
      obtain ⟨u, h1, h2⟩ := results_sound hs' he' hvs
      refine ⟨hdf, u, h1, aone vs, u, m2, ?_⟩
      by_cases ht : tl = []
      · subst ht; rw [List.append_nil] at htl; subst htl
        exact ⟨ρ', rfl, hs', hx', h2, hK⟩
      · obtain ⟨hn', hc', hv'⟩ := htr ht
        subst htl
        exact ⟨ρ'.take m2.length, rfl, hs'.trunc hc', hx'.take _ hn', VR.take _ _ _ h2 hv', hK⟩
    cases e with
    | exit id => exact hk.elim
    | normal =>
      simp only [aend] at hk
      split at hk
      · rename_i vs hvs; exact fin vs hvs hk
      · exact hk.elim
    | ret =>
      simp only [aend] at hk
      split at hk
      · rename_i vs hvs; exact fin vs hvs hk
      · exact hk.elim

end Go.Proofs.Ytkpjaffbbppneaa

/- Code as a list of items still to do: the equations by which 'simp' runs it. -/
namespace Go.Proofs.Ytkpjaffbbppneaa
open Go Go.RowKit

inductive It where
  | code (c : Code)
  | ops (all : Array Oper) (l : List Oper)
  | inBlock (id : Nat)

/-- Where the code runs: the program, the slots, the objects that were there. -/
structure Cx where
  P : Program
  N : Nat
  n : Nat
  D : Md
  K : AX → Env → List AO → Prop

mutual
def go (c : Cx) : List It → Env → List AO → Prop
  | [], env, m => c.K .normal env m
  | .code x :: k, env, m => awp c.P c.N c.n c.D x (fun e env m => match e with | .normal => go c k env m | .exit id => goX c id k env m | .ret => c.K .ret env m) env m
  | .ops all l :: k, env, m => awpOps c.P c.N c.D all (fun env m => go c k env m) l env m
  | .inBlock _ :: k, env, m => go c k env m
def goX (c : Cx) (id : Nat) : List It → Env → List AO → Prop
  | [], env, m => c.K (.exit id) env m
  | .inBlock i :: k, env, m => if i = id then go c k env m else goX c id k env m
  | .code _ :: k, env, m => goX c id k env m
  | .ops _ _ :: k, env, m => goX c id k env m
end

def goP (c : Cx) (dst : Option Tmp) (v : AV) (all : Array Oper) (rest : List Oper) (k : List It) (env : Env) (m : List AO) : Prop :=
  aput c.N env dst v fun env' => go c (.ops all rest :: k) env' m

def goV (c : Cx) (r : Option (AV × List AO)) (dst : Option Tmp) (all : Array Oper) (rest : List Oper) (k : List It) (env : Env) : Prop :=
  aV r fun v m' => goP c dst v all rest k env m'

def goCall (c : Cx) (f : FuncId) (args : List AV) (dst : Option Tmp) (all : Array Oper) (rest : List Oper) (k : List It) (env : Env) (m : List AO) : Prop :=
  aC c.P c.D dst f args m fun v m' => goP c dst v all rest k env m'

def goF (c : Cx) (fv : AV) (args : List AV) (dst : Option Tmp) (all : Array Oper) (rest : List Oper) (k : List It) (env : Env) (m : List AO) : Prop :=
  match fv with
  | .fn f caps => goCall c f (args ++ caps) dst all rest k env m
  | _ => False

def goO (c : Cx) (op : Op) (dst : Option Tmp) (all : Array Oper) (rest : List Oper) (k : List It) (env : Env) (m : List AO) : Prop :=
  match op with
  | .call { callee := .value fv, args, .. } => goF c (aev env fv) (args.toList.map (aev env)) dst all rest k env m
  | op => goV c (aop c.P op (aev env) m) dst all rest k env

def goW (c : Cx) (b : Option Bool) (op : Op) (dst : Option Tmp) (all : Array Oper) (rest : List Oper) (k : List It) (env : Env) (m : List AO) : Prop :=
  match b with
  | some b => (b = true → goO c op dst all rest k env m) ∧ (b = false → goP c dst (.s undef) all rest k env m)
  | none => False

def goB (c : Cx) (b : AV) (x y : Code) (k : List It) (env : Env) (m : List AO) : Prop :=
  match b with
  | .s (.bool b) => (b = true → go c (.code x :: k) env m) ∧ (b = false → go c (.code y :: k) env m)
  | _ => False

section
variable {c : Cx} {k : List It} {env : Env} {m : List AO} {all : Array Oper} {rest : List Oper} {dst : Option Tmp}

theorem go_nil : go c [] env m = c.K .normal env m := by simp [go]
theorem go_inBlock (id : Nat) : go c (.inBlock id :: k) env m = go c k env m := by simp [go]
theorem go_skip : go c (.code .skip :: k) env m = go c k env m := by simp [go, awp]
theorem go_exit (id : Nat) : go c (.code (.exit id) :: k) env m = goX c id k env m := by simp [go, awp]
theorem go_ret : go c (.code .ret :: k) env m = c.K .ret env m := by simp [go, awp]
theorem go_region (id : Nat) (ops : Array Oper) : go c (.code (.region id ops false) :: k) env m = go c (.ops ops ops.toList :: k) env m := by simp [go, awp]
theorem go_region_lit (id : Nat) (l : List Oper) : go c (.code (.region id l.toArray false) :: k) env m = go c (.ops l.toArray l :: k) env m := by simp [go, awp]
theorem go_seq (x y : Code) : go c (.code (.seq x y) :: k) env m = go c (.code x :: .code y :: k) env m := by
  simp only [go, awp]
  congr 1
  funext e env m
  cases e <;> simp [goX]
theorem go_block (id : Nat) (x : Code) : go c (.code (.block id x) :: k) env m = go c (.code x :: .inBlock id :: k) env m := by
  simp only [go, awp]
  congr 1
  funext e env m
  cases e with
  | exit i => simp only [goX]; by_cases h : i = id
              · subst h; simp
              · rw [if_neg h, if_neg (fun e => h e.symm)]
  | _ => rfl
theorem goX_nil (id : Nat) : goX c id [] env m = c.K (.exit id) env m := by simp [goX]
theorem goX_code (id : Nat) (x : Code) : goX c id (.code x :: k) env m = goX c id k env m := by simp [goX]
theorem goX_ops (id : Nat) (l : List Oper) : goX c id (.ops all l :: k) env m = goX c id k env m := by simp [goX]
theorem goX_same (id : Nat) : goX c id (.inBlock id :: k) env m = go c k env m := by simp [goX]
theorem goX_other (id i : Nat) (h : i ≠ id) : goX c id (.inBlock i :: k) env m = goX c id k env m := by simp [goX, h]
theorem go_cond (x : Operand) (a b : Code) : go c (.code (.cond x a b) :: k) env m = goB c (aev env x) a b k env m := by
  simp only [go, awp, goB, AIf]
  all_goals (generalize aev env x = v; cases v <;> rfl)
theorem goB_true (x y : Code) : goB c (.s (.bool true)) x y k env m = go c (.code x :: k) env m := by simp [goB]
theorem goB_false (x y : Code) : goB c (.s (.bool false)) x y k env m = go c (.code y :: k) env m := by simp [goB]
theorem goB_intro {b : Bool} {x y : Code} (h1 : b = true → go c (.code x :: k) env m) (h2 : b = false → go c (.code y :: k) env m) : goB c (.s (.bool b)) x y k env m := ⟨h1, h2⟩
theorem go_ops_nil : go c (.ops all [] :: k) env m = go c k env m := by simp [go, awpOps]
theorem step_goO (d : Option Tmp) (op : Op) (t : TypeId) (pos : String) (af : Array Edge) (g : Option (Nat × Bool)) :
    (astep c.P c.D env ⟨d, op, t, pos, af, g⟩ m fun v m' => aput c.N env d v fun env' => awpOps c.P c.N c.D all (fun env m => go c k env m) rest env' m') = goO c op d all rest k env m := by
  cases op with
  | call cl =>
    obtain ⟨cal, args, tys⟩ := cl
    cases cal with
    | value fv =>
      simp only [astep, goO, goF]
      generalize aev env fv = v
      cases v <;> simp only [goCall, goP, go]
    | invoke r n => simp only [astep, goO, goV, goP, go]
    | builtin b => simp only [astep, goO, goV, goP, go]
  | _ => simp only [astep, goO, goV, goP, go]
theorem go_ops (d : Option Tmp) (op : Op) (t : TypeId) (pos : String) (af : Array Edge) (g : Option (Nat × Bool)) :
    go c (.ops all (⟨d, op, t, pos, af, g⟩ :: rest) :: k) env m = goW c (awant all env ⟨d, op, t, pos, af, g⟩) op d all rest k env m := by
  have h := step_goO (c := c) (k := k) (env := env) (m := m) (all := all) (rest := rest) d op t pos af g
  simp only [go, awpOps, goW]
  generalize awant all env ⟨d, op, t, pos, af, g⟩ = r
  cases r with
  | none => rfl
  | some b =>
    simp only [AIf, h, goP, go]
theorem go_op (d : Option Tmp) (op : Op) (t : TypeId) (pos : String) (af : Array Edge) :
    go c (.ops all (⟨d, op, t, pos, af, none⟩ :: rest) :: k) env m = goO c op d all rest k env m := by
  rw [go_ops]; simp [awant, goW]
theorem goW_true (op : Op) : goW c (some true) op dst all rest k env m = goO c op dst all rest k env m := by simp [goW]
theorem goW_false (op : Op) : goW c (some false) op dst all rest k env m = goP c dst (.s undef) all rest k env m := by simp [goW]
theorem goW_intro {b : Bool} {op : Op} (h1 : b = true → goO c op dst all rest k env m) (h2 : b = false → goP c dst (.s undef) all rest k env m) : goW c (some b) op dst all rest k env m := ⟨h1, h2⟩
theorem goO_move (x : Operand) : goO c (.move x) dst all rest k env m = goP c dst (aev env x) all rest k env m := rfl
theorem goO_assign (x : Operand) : goO c (.assign x) dst all rest k env m = goP c dst (aev env x) all rest k env m := rfl
theorem goO_call (fv : Operand) (args : Array Operand) (tys : Array TypeId) : goO c (.call ⟨.value fv, args, tys⟩) dst all rest k env m = goF c (aev env fv) (args.toList.map (aev env)) dst all rest k env m := rfl
theorem goF_fn (f : FuncId) (caps args : List AV) : goF c (.fn f caps) args dst all rest k env m = goCall c f (args ++ caps) dst all rest k env m := rfl
theorem goV_some (v : AV) (m' : List AO) : goV c (some (v, m')) dst all rest k env = goP c dst v all rest k env m' := rfl
theorem goP_none (v : AV) : goP c none v all rest k env m = go c (.ops all rest :: k) env m := rfl
theorem goP_some (d : Tmp) (v : AV) : goP c (some d) v all rest k env m = (d < c.N ∧ go c (.ops all rest :: k) (env.upd d v) m) := by simp [goP, aput]
end

def gD : Nat → List Oper → Nat → Option Tmp
  | _, [], _ => none
  | i, o :: r, j => if j = i then o.dst else gD (i + 1) r j
theorem gD_get : ∀ (l : List Oper) (i j : Nat), i ≤ j → gD i l j = (l[j - i]?).bind (·.dst)
  | [], i, j, _ => by simp [gD]
  | o :: r, i, j, h => by
    simp only [gD]
    split
    · rename_i e; subst e; simp
    · have e : j - i = (j - (i + 1)) + 1 := by omega
      rw [gD_get r (i + 1) j (by omega), e]; simp
def gWant (d : Option Tmp) (env : Env) (want : Bool) : Option Bool :=
  match d with
  | some d => match env d with
    | .s (.bool b) => some (b == want)
    | .s (.tuple _) => some false
    | _ => none
  | none => some false

section
variable {c : Cx} {k : List It} {env : Env} {m : List AO} {all : Array Oper} {rest : List Oper} {dst : Option Tmp}
theorem go_opg (l : List Oper) (d : Option Tmp) (op : Op) (t : TypeId) (pos : String) (af : Array Edge) (j : Nat) (b : Bool) :
    go c (.ops l.toArray (⟨d, op, t, pos, af, some (j, b)⟩ :: rest) :: k) env m = goW c (gWant (gD 0 l j) env b) op d l.toArray rest k env m := by
  rw [go_ops]
  congr 1
  have e : (l.toArray[j]?).bind (·.dst) = gD 0 l j := by
    rw [gD_get l 0 j (Nat.zero_le _)]; simp
  simp only [awant, e]
  cases gD 0 l j with
  | none => rfl
  | some d => rfl
theorem goO_pick (x a b : Operand) : goO c (.pick x a b) dst all rest k env m = goV c (aop c.P (.pick x a b) (aev env) m) dst all rest k env := rfl
theorem goO_alloc (e : TypeId) : goO c (.alloc e) dst all rest k env m = goV c (aop c.P (.alloc e) (aev env) m) dst all rest k env := rfl
theorem goO_box (e : TypeId) (x : Operand) : goO c (.box e x) dst all rest k env m = goV c (aNew m (aev env x).cs) dst all rest k env := rfl
theorem goO_build (t : TypeId) (ps : Array (Nat × Operand)) : goO c (.build t ps) dst all rest k env m = goV c ((aBuild c.P t (ps.toList.map fun p => (p.1, aev env p.2))).map (·, m)) dst all rest k env := rfl
theorem goO_buildSlice (t : TypeId) (l : Nat) (ps : Array (Nat × Operand)) : goO c (.buildSlice t l ps) dst all rest k env m = goV c (aBuildSlice c.P m t l (ps.toList.map fun p => (p.1, aev env p.2))) dst all rest k env := rfl
theorem goO_load (t : TypeId) (x : Operand) : goO c (.load t x) dst all rest k env m = goV c ((aLoad c.P m t (aev env x)).map (·, m)) dst all rest k env := rfl
theorem goO_store (t : TypeId) (x y : Operand) : goO c (.store t x y) dst all rest k env m = goV c ((aStore c.P m t (aev env x) (aev env y)).map (AV.s undef, ·)) dst all rest k env := rfl
theorem goO_nilCheck (x : Operand) : goO c (.nilCheck x) dst all rest k env m = goV c (aop c.P (.nilCheck x) (aev env) m) dst all rest k env := rfl
theorem goO_bin (op : BinOp) (t : TypeId) (x y : Operand) (u : TypeId) : goO c (.binOp op t x y u) dst all rest k env m = goV c ((aBin c.P op t (aev env x) (aev env y)).map (·, m)) dst all rest k env := rfl
theorem goO_un (op : UnOp) (t : TypeId) (x : Operand) : goO c (.unOp op t x) dst all rest k env m = goV c ((aUn op (aev env x)).map (·, m)) dst all rest k env := rfl
theorem goO_convert (s t : TypeId) (x : Operand) : goO c (.convert s t x) dst all rest k env m = goV c ((aConv c.P m s t (aev env x)).map (·, m)) dst all rest k env := rfl
theorem goO_makeFunc (f : Fn) (a b : Array Operand) : goO c (.makeFunc f a b) dst all rest k env m = goV c (aop c.P (.makeFunc f a b) (aev env) m) dst all rest k env := rfl
theorem goO_makeSlice (t : TypeId) (x y : Operand) : goO c (.makeSlice t x y) dst all rest k env m = goV c (aMakeSlice c.P m t (aev env x) (aev env y)) dst all rest k env := rfl
theorem goO_slice (t : TypeId) (x : Operand) (lo hi : Option Operand) : goO c (.slice t x lo hi none) dst all rest k env m = goV c ((aSlice c.P m t (aev env x) (lo.map (aev env)) (hi.map (aev env))).map (·, m)) dst all rest k env := rfl
theorem goO_fieldAddr (t : TypeId) (x : Operand) (f : Nat) : goO c (.fieldAddr t x f) dst all rest k env m = goV c ((aFieldAddr c.P m t (aev env x) f).map (·, m)) dst all rest k env := rfl
theorem goO_field (t : TypeId) (x : Operand) (f : Nat) : goO c (.field t x f) dst all rest k env m = goV c ((aField c.P t (aev env x) f).map (·, m)) dst all rest k env := rfl
theorem goO_indexAddr (t : TypeId) (x i : Operand) : goO c (.indexAddr t x i) dst all rest k env m = goV c ((aIndexAddr c.P m t (aev env x) (aev env i)).map (·, m)) dst all rest k env := rfl
theorem goO_index (t : TypeId) (x i : Operand) : goO c (.index t x i) dst all rest k env m = goV c ((aIndex c.P t (aev env x) (aev env i)).map (·, m)) dst all rest k env := rfl
theorem goO_extract (t : Operand) (i : Nat) : goO c (.extract t i) dst all rest k env m = goV c (aop c.P (.extract t i) (aev env) m) dst all rest k env := rfl
theorem goO_builtin (b : Builtin) (args : Array Operand) (tys : Array TypeId) : goO c (.call ⟨.builtin b, args, tys⟩) dst all rest k env m = goV c (aop c.P (.call ⟨.builtin b, args, tys⟩) (aev env) m) dst all rest k env := rfl
end
theorem upd_app (e : Env) (t : Nat) (v : AV) (s : Nat) : Env.upd e t v s = if s = t then v else e s := rfl
theorem env0_nil (i t : Nat) : argE i [] t = .s undef := rfl
theorem env0_cons (i : Nat) (a : AV) (r : List AV) (t : Nat) : argE i (a :: r) t = if t = i then a else argE (i + 1) r t := rfl
section
variable {m l : List AO} {o : AO}
theorem get_loc0 : (m ++ l)[m.length]? = l[0]? := by rw [List.getElem?_append_right (Nat.le_refl _), Nat.sub_self]
theorem get_loc (i : Nat) : (m ++ l)[m.length + i]? = l[i]? := by rw [List.getElem?_append_right (by omega), Nat.add_sub_cancel_left]
theorem set_loc0 : (m ++ l).set m.length o = m ++ l.set 0 o := by simp
theorem set_loc (i : Nat) : (m ++ l).set (m.length + i) o = m ++ l.set i o := by simp
theorem get_old {a : Nat} (h : a < m.length) : (m ++ l)[a]? = m[a]? := List.getElem?_append_left h
theorem set_old {a : Nat} (h : a < m.length) : (m ++ l).set a o = m.set a o ++ l := by simp [List.set_append, h]
theorem cont_loc0 (g : Nat) : content (m ++ l) m.length g = content l 0 g := by simp only [content, get_loc0]
theorem cont_loc (i g : Nat) : content (m ++ l) (m.length + i) g = content l i g := by simp only [content, get_loc]
theorem cont_old {a : Nat} (g : Nat) (h : a < m.length) : content (m ++ l) a g = content m a g := by simp [content, List.getElem?_append_left h]
theorem cont_here (xs : List AV) (g z : Nat) : content (.cells xs g z :: l) 0 g = some xs := by simp [content]
theorem cont_ro (xs : List AV) (z : Nat) : content (.ro xs z :: l) 0 0 = some xs := by simp [content]
theorem cont_next (i g : Nat) : content (o :: l) (i + 1) g = content l i g := by simp [content]
theorem row_loc0 : rowz (m ++ l) m.length = rowz l 0 := by simp only [rowz, get_loc0]
theorem row_loc (i : Nat) : rowz (m ++ l) (m.length + i) = rowz l i := by simp only [rowz, get_loc]
theorem row_old {a : Nat} (h : a < m.length) : rowz (m ++ l) a = rowz m a := by simp [rowz, List.getElem?_append_left h]
theorem row_here (xs : List AV) (g z : Nat) : rowz (.cells xs g z :: l) 0 = z := by simp [rowz]
theorem row_next (i : Nat) : rowz (o :: l) (i + 1) = rowz l i := by simp [rowz]
theorem nth_zero (l : List AO) (o : AO) : (o :: l)[0]? = some o := rfl
theorem nth_succ (l : List AO) (o : AO) (i : Nat) : (o :: l)[i + 1]? = l[i]? := rfl
end
theorem aend_normal (P : Program) (n : Nat) (rs : List ResultVar) (K : AV → List AO → Prop) (env : Env) (m : List AO) {vs : List AV} (h : ares P env m rs = some vs) : aend P n rs K .normal env m = ∃ m', Trunc n m (aone vs) m' ∧ K (aone vs) m' := by
  simp [aend, h]
theorem aend_ret (P : Program) (n : Nat) (rs : List ResultVar) (K : AV → List AO → Prop) (env : Env) (m : List AO) {vs : List AV} (h : ares P env m rs = some vs) : aend P n rs K .ret env m = ∃ m', Trunc n m (aone vs) m' ∧ K (aone vs) m' := by
  simp [aend, h]

/-- What holds at the head of a loop, and what is wanted behind a round. -/
def LK (c : Cx) (k : List It) {α : Type} (S : α → Env) (M : α → List AO) (μ : α → Nat) (x : α) : AX → Env → List AO → Prop
  | .normal, env, m => ∃ x', Wk c.n env m (S x') (M x') ∧ μ x' < μ x
  | .exit id, env, m => goX c id k env m
  | .ret, env, m => c.K .ret env m

theorem go_loop {c : Cx} {k : List It} {env : Env} {m : List AO} {body : Code} {α : Type} (S : α → Env) (M : α → List AO) (μ : α → Nat) (x0 : α) (h0 : Wk c.n env m (S x0) (M x0))
    (h : ∀ x, go ⟨c.P, c.N, c.n, c.D, LK c k S M μ x⟩ [.code body] (S x) (M x)) : go c (.code (.loop body) :: k) env m := by
  simp only [go, awp]
  refine ⟨α, S, M, μ, x0, h0, fun x => ?_⟩
  have := h x
  simp only [go, goX] at this
  refine cast (congrFun (congrFun (congrArg _ ?_) _) _) this
  funext e env m
  cases e <;> rfl

theorem go_draw {c : Cx} {k : List It} {env : Env} {m : List AO} {id : Nat} {ops : Array Oper} (h : ADraw c.P c.N c.n id ops (fun env m => go c k env m) env m) : go c (.code (.region id ops true) :: k) env m := by
  simp only [go, awp]; exact h

def mkE : List (Nat × AV) → Env
  | [], _ => .any
  | (s, v) :: r, t => if t = s then v else mkE r t

def allE (env : Env) : List (Nat × AV) → Prop
  | [] => True
  | (s, v) :: r => env s = v ∧ allE env r

def allS (L : Nat) : List (Nat × AV) → Bool
  | [] => true
  | (_, v) :: r => v.sc L && allS L r

theorem mkE_weak {env : Env} : ∀ {l : List (Nat × AV)}, allE env l → ∀ t, mkE l t = .any ∨ mkE l t = env t
  | [], _, _ => .inl rfl
  | (s, v) :: r, h, t => by
    obtain ⟨h1, h2⟩ := h
    simp only [mkE]
    split
    · rename_i e; subst e; exact .inr h1.symm
    · exact mkE_weak h2 t

theorem mkE_sc {L : Nat} : ∀ {l : List (Nat × AV)}, allS L l = true → ∀ t, (mkE l t).sc L = true
  | [], _, _ => by simp [mkE, AV.sc]
  | (s, v) :: r, h, t => by
    simp [allS] at h
    simp only [mkE]
    split
    · exact h.1
    · exact mkE_sc h.2 t

/-- Slots forgotten; the memory as it is. -/
theorem Wk.keep {n : Nat} {env : Env} {m : List AO} {l : List (Nat × AV)} (h : allE env l) : Wk n env m (mkE l) m :=
  ⟨[], by simp, fun h => absurd rfl h, fun t => (mkE_weak h t).imp id fun e => ⟨e, fun h => absurd rfl h⟩⟩

/-- Slots forgotten, the last objects dropped. -/
theorem Wk.drop {n : Nat} {env : Env} {m tl : List AO} {l : List (Nat × AV)} (h : allE env l) (hn : n ≤ m.length) (hc : Closed m) (hs : allS m.length l = true) : Wk n env (m ++ tl) (mkE l) m :=
  ⟨tl, rfl, fun _ => ⟨hn, hc⟩, fun t => (mkE_weak h t).imp id fun e => ⟨e, fun _ => by rw [← e]; exact mkE_sc hs t⟩⟩

theorem keep {n : Nat} {m : List AO} {v : AV} {K : AV → List AO → Prop} (h : K v m) : ∃ m', Trunc n m v m' ∧ K v m' := ⟨m, ⟨[], by simp, fun h => absurd rfl h⟩, h⟩
theorem drop {m tl : List AO} {v : AV} {K : AV → List AO → Prop} (hc : Closed m) (hv : v.sc m.length = true) (h : K v m) : ∃ m', Trunc m.length (m ++ tl) v m' ∧ K v m' := ⟨m, ⟨tl, rfl, fun _ => ⟨Nat.le_refl _, hc, hv⟩⟩, h⟩
theorem dropTo {n : Nat} (m tl : List AO) {v : AV} {K : AV → List AO → Prop} (hn : n ≤ m.length) (hc : Closed m) (hv : v.sc m.length = true) (h : K v m) : ∃ m', Trunc n (m ++ tl) v m' ∧ K v m' := ⟨m, ⟨tl, rfl, fun _ => ⟨hn, hc, hv⟩⟩, h⟩

theorem wrap_id {x : Int} (h1 : -9223372036854775808 ≤ x) (h2 : x ≤ 9223372036854775807) : IntKind.i64.wrap x = x := by
  rw [IntKind.wrap_i64]; omega

/-- A call entered: its body is to be run. -/
theorem ACalls.enter {P : Program} {f : FuncId} {fn : Func} {x : Code} {args : List AV} {m : List AO} {K : AV → List AO → Prop} (hf : P.funcs[f]? = some fn) (hb : fn.body = some x) (hname : (fn.name != "runtime.NumGoroutine") = true)
    {N : Nat} (hN : fn.ntmps = N) {rs : List ResultVar} (hrs : fn.results.toList = rs) (hn : args.length ≤ N) (h : Closed m → go ⟨P, N, m.length, none, aend P m.length rs K⟩ [.code x] (env0 args) m) : ACalls P f args m K := by
  subst hN; subst hrs
  refine ACalls.of_body hf hb hname hn fun hc => ?_
  have := h hc
  simp only [go, goX] at this
  refine cast (congrFun (congrFun (congrArg _ ?_) _) _) this
  funext e env m
  cases e <;> rfl

end Go.Proofs.Ytkpjaffbbppneaa

/- Regions that draw their order: one run in the order of the text, and a look at the edges. -/
namespace Go.Proofs.Ytkpjaffbbppneaa
open Go Go.RowKit

inductive Cl where
  | pure | shape | read | call | push | store | other
  deriving DecidableEq

def cls (P : Program) : Op → Cl
  | .move _ | .assign _ | .pick .. | .binOp .. | .unOp .. | .extract .. | .build .. | .makeFunc .. | .nilCheck _ | .field .. | .index .. => .pure
  | .convert _ t _ => match mkTI P t with
    | some { d := .int _, .. } => .pure
    | _ => .read
  | .fieldAddr .. | .indexAddr .. | .slice .. => .shape
  | .call { callee := .builtin .len, .. } => .shape
  | .call { callee := .builtin .min, .. } | .call { callee := .builtin .max, .. } => .pure
  | .load .. => .read
  | .call { callee := .value _, .. } => .call
  | .alloc _ | .box .. | .buildSlice .. | .makeSlice .. => .push
  | .store .. => .store
  | _ => .other

def isW (P : Program) (Wd : List (Option Tmp)) (o : Oper) : Bool :=
  match cls P o.op with
  | .push | .store | .other => true
  | .call => Wd.contains o.dst
  | _ => false

def bnd (e : Edge) : Bool := Region.binds .any e

def msk (o : Oper) (acc : List Nat) : Nat := o.after.toList.foldl (fun s e => if bnd e then s ||| 2 ^ e.on ||| acc.getD e.on 0 else s) 0
def bmGo : List Oper → List Nat → List Nat
  | [], acc => acc
  | o :: r, acc => bmGo r (acc ++ [msk o acc])

def dataDep (all : Array Oper) (x y : Oper) : Bool :=
  (match x.dst with
   | some d => (y.looksAt all).contains d || y.dst == some d
   | none => false) ||
  (match y.dst with
   | some d => (x.looksAt all).contains d
   | none => false)

/-- A load and a store at slots that are said to point at two objects. -/
def sepB (ds : List (Tmp × Tmp)) (x y : Oper) : Bool :=
  match x.op, y.op with
  | .load _ (.tmp a), .store _ (.tmp b) _ => ds.contains (a, b)
  | _, _ => false

def memOk (P : Program) (Wd : List (Option Tmp)) (ext : Bool) (ds : List (Tmp × Tmp)) (x y : Oper) : Bool :=
  match isW P Wd x, isW P Wd y with
  | false, false => true
  | false, true => match cls P x.op, cls P y.op with
    | .pure, _ => true
    | .shape, .store => true
    | .shape, .push => true
    | .read, .push => true
    | .call, .push => ext
    | .read, .store => sepB ds x y
    | _, _ => false
  | true, false => match cls P y.op, cls P x.op with
    | .pure, _ => true
    | .shape, .store => true
    | .read, .store => sepB ds y x
    | _, _ => false
  | true, true => false

def chk (P : Program) (Wd : List (Option Tmp)) (ext : Bool) (ds : List (Tmp × Tmp)) (l : List Oper) : Bool :=
  let b := bmGo l []
  (l.zipIdx.all fun (x, i) => (l.drop i).all fun y => (match x.op with
    | .load _ (.tmp a) => y.dst != some a
    | .store _ (.tmp b) _ => y.dst != some b
    | _ => true) || ds.isEmpty) &&
  (l.zipIdx.all fun (o, i) => o.after.toList.all fun e => !bnd e || decide (e.on < i)) &&
  (l.zipIdx.all fun (y, j) => (l.take j).zipIdx.all fun (x, i) => (b.getD j 0).testBit i || (!dataDep l.toArray x y && memOk P Wd ext ds x y))

section
variable {P : Program}

/-! What a step does not look at. -/

theorem aop_congr (op : Op) (ev ev' : Operand → AV) (m : List AO) (h : ∀ x ∈ op.operands, ev x = ev' x) : aop P op ev m = aop P op ev' m := by
  have pairs : ∀ ps : Array (Nat × Operand), (∀ x ∈ (ps.toList.map (·.2)), ev x = ev' x) → (ps.toList.map fun p => (p.1, ev p.2)) = (ps.toList.map fun p => (p.1, ev' p.2)) := fun ps hp =>
    List.map_congr_left fun p hm => by rw [hp p.2 (List.mem_map.2 ⟨p, hm, rfl⟩)]
  cases op <;> simp only [Op.operands] at h <;> simp only [aop]
  case build t ps => rw [pairs ps fun x hx => h x (by simpa using hx)]
  case buildSlice t n ps => rw [pairs ps fun x hx => h x (by simpa using hx)]
  case makeFunc fn first captured =>
    cases fn <;> try rfl
    simp only
    rw [List.map_congr_left (l := captured.toList) fun x hx => h x (by simp; exact .inr (by simpa using hx))]
  case call c =>
    obtain ⟨cal, args, tys⟩ := c
    cases cal <;> try rfl
    rename_i b
    cases b <;> try rfl
    case append =>
      simp only
      split <;> try rfl
      rename_i x y t u ha ht
      have e : args = #[x, y] := by apply Array.ext'; simpa using ha
      subst e
      rw [h x (by simp [Call.operands]), h y (by simp [Call.operands])]
    case len =>
      simp only
      split <;> try rfl
      rename_i x t ha ht
      have e : args = #[x] := by apply Array.ext'; simpa using ha
      subst e
      rw [h x (by simp [Call.operands])]
    case min =>
      simp only
      split <;> try rfl
      rename_i x y ha
      have e : args = #[x, y] := by apply Array.ext'; simpa using ha
      subst e
      rw [h x (by simp [Call.operands]), h y (by simp [Call.operands])]
    case max =>
      simp only
      split <;> try rfl
      rename_i x y ha
      have e : args = #[x, y] := by apply Array.ext'; simpa using ha
      subst e
      rw [h x (by simp [Call.operands]), h y (by simp [Call.operands])]
  case slice t x lo hi mx => cases mx <;> cases lo <;> cases hi <;> simp_all
  all_goals (first | rfl | (simp_all; done))

theorem aop_same (op : Op) (ev : Operand → AV) (m m' : List AO) (v : AV) (hc : cls P op = .pure ∨ cls P op = .shape ∨ cls P op = .read) (h : aop P op ev m = some (v, m')) : m' = m := by
  have key : ∀ {o : Option AV}, o.map (·, m) = some (v, m') → m' = m := by
    intro o ho
    simp only [Option.map_eq_some_iff, Prod.mk.injEq] at ho
    obtain ⟨_, _, _, e⟩ := ho; exact e.symm
  cases op <;> simp only [cls] at hc <;> simp only [aop] at h
  case call c =>
    obtain ⟨cal, args, tys⟩ := c
    cases cal <;> try (simp at h hc; done)
    rename_i b
    cases b <;> try (simp at hc; done)
    all_goals
      simp only at h
      split at h
      · exact key h
      · simp at h
  case makeFunc fn a b =>
    cases fn <;> simp only at h <;> try (simp at h; done)
    split at h
    · simp only [Option.some.injEq, Prod.mk.injEq] at h; exact h.2.symm
    · simp at h
  case slice t x lo hi mx =>
    cases mx <;> simp only at h
    · exact key h
    · simp at h
  all_goals first
    | (simp at hc; done)
    | (simp only [Option.some.injEq, Prod.mk.injEq] at h; exact h.2.symm)
    | exact key h
    | (split at h <;> first | (simp at h; done) | (simp only [Option.some.injEq, Prod.mk.injEq] at h; exact h.2.symm) | exact key h | (split at h <;> first | (simp at h; done) | (simp only [Option.some.injEq, Prod.mk.injEq] at h; exact h.2.symm)))

theorem aop_pure (op : Op) (ev : Operand → AV) (m m2 : List AO) (v : AV) (hc : cls P op = .pure) (h : aop P op ev m = some (v, m)) : aop P op ev m2 = some (v, m2) := by
  have key : ∀ {o : Option AV}, o.map (·, m) = some (v, m) → o.map (·, m2) = some (v, m2) := by
    intro o ho
    simp only [Option.map_eq_some_iff, Prod.mk.injEq] at ho ⊢
    obtain ⟨x, hx, e, _⟩ := ho; exact ⟨x, hx, e, trivial⟩
  cases op <;> simp only [cls] at hc <;> simp only [aop] at h ⊢
  case call c =>
    obtain ⟨cal, args, tys⟩ := c
    cases cal <;> try (simp at hc; done)
    rename_i b
    cases b <;> try (simp at hc; done)
    all_goals
      simp only at h ⊢
      split at h
      · rename_i x y ha
        exact key h
      · simp at h
  case makeFunc fn a b =>
    cases fn <;> simp only at h ⊢ <;> try (simp at h; done)
    split at h
    · rename_i h0; rw [if_pos h0]; simp only [Option.some.injEq, Prod.mk.injEq] at h ⊢; exact ⟨h.1, trivial⟩
    · simp at h
  case convert s t x =>
    split at hc
    · rename_i k sz by_ ze hi
      have e : ∀ m', aConv P m' s t (ev x) = aConv P m s t (ev x) := by
        intro m'
        simp only [aConv, hi]
        cases mkTI P s with
        | none => rfl
        | some si => cases ev x with
          | s y => cases y <;> rfl
          | _ => rfl
      rw [e m2]; exact key h
    · simp at hc
  all_goals first
    | (simp at hc; done)
    | (simp only [Option.some.injEq, Prod.mk.injEq] at h ⊢; exact ⟨h.1, trivial⟩)
    | exact key h
    | (split at h <;> first | (simp at h; done) | (simp only [Option.some.injEq, Prod.mk.injEq] at h ⊢; exact ⟨h.1, trivial⟩) | exact key h | (split at h <;> first | (simp at h; done) | (simp only [Option.some.injEq, Prod.mk.injEq] at h ⊢; exact ⟨h.1, trivial⟩)))

def AO.shp : AO → Nat × Nat × Nat × Nat
  | .dead => (0, 0, 0, 0)
  | .cells xs g z => (1, xs.length, g, z)
  | .ro xs z => (2, xs.length, 0, z)
  | .amap _ => (3, 0, 0, 0)

theorem shp_at {m m2 : List AO} (h : m.map AO.shp = m2.map AO.shp) (a : Nat) : (m[a]?).map AO.shp = (m2[a]?).map AO.shp := by
  rw [← List.getElem?_map, ← List.getElem?_map, h]

theorem content_shp1 {m m2 : List AO} {a g : Nat} {xs : List AV} (e : (m[a]?).map AO.shp = (m2[a]?).map AO.shp) (hc : content m a g = some xs) : ∃ ys, content m2 a g = some ys ∧ ys.length = xs.length := by
  unfold content at hc ⊢
  cases h1 : m[a]? with
  | none => simp [h1] at hc
  | some o =>
    cases h2 : m2[a]? with
    | none => simp [h1, h2] at e
    | some o2 =>
      simp [h1, h2] at e
      simp only [h1] at hc
      cases o with
      | dead => simp at hc
      | amap _ => simp at hc
      | cells ys g' z =>
        cases o2 <;> simp [AO.shp] at e
        rename_i ys2 g2 z2
        obtain ⟨e1, e2, e3⟩ := e
        subst e2
        simp only at hc ⊢
        split at hc
        · rename_i hg; simp at hc; subst hc; exact ⟨ys2, by rw [if_pos hg], e1.symm⟩
        · simp at hc
      | ro ys z =>
        cases o2 <;> simp [AO.shp] at e
        rename_i ys2 z2
        obtain ⟨e1, e3⟩ := e
        simp only at hc ⊢
        split at hc
        · rename_i hg; simp at hc; subst hc; exact ⟨ys2, by rw [if_pos hg], e1.symm⟩
        · simp at hc

theorem content_shp {m m2 : List AO} (h : m.map AO.shp = m2.map AO.shp) {a g : Nat} {xs : List AV} (hc : content m a g = some xs) : ∃ ys, content m2 a g = some ys ∧ ys.length = xs.length := content_shp1 (shp_at h a) hc

theorem rowz_shp1 {m m2 : List AO} {a : Nat} (e : (m[a]?).map AO.shp = (m2[a]?).map AO.shp) : rowz m a = rowz m2 a := by
  unfold rowz
  cases h1 : m[a]? <;> cases h2 : m2[a]? <;> simp [h1, h2] at e
  · rfl
  · rename_i o o2
    cases o <;> cases o2 <;> simp [AO.shp] at e <;> simp [e]
theorem rowz_shp {m m2 : List AO} (h : m.map AO.shp = m2.map AO.shp) (a : Nat) : rowz m a = rowz m2 a := rowz_shp1 (shp_at h a)

theorem content_app {m : List AO} (t : List AO) {a g : Nat} {xs : List AV} (hc : content m a g = some xs) : content (m ++ t) a g = some xs := by
  have ha : a < m.length := by
    unfold content at hc
    cases h1 : m[a]? with
    | none => simp [h1] at hc
    | some o => exact (List.getElem?_eq_some_iff.1 h1).1
  rw [cont_old g ha]; exact hc

theorem rowz_app {m : List AO} (t : List AO) {a g : Nat} {xs : List AV} (hc : content m a g = some xs) : rowz (m ++ t) a = rowz m a := by
  have ha : a < m.length := by
    unfold content at hc
    cases h1 : m[a]? with
    | none => simp [h1] at hc
    | some o => exact (List.getElem?_eq_some_iff.1 h1).1
  exact row_old ha

/-- The object that a value points at. -/
def objOf : AV → Option Nat
  | .ptr a _ _ => some a
  | .slice a _ _ _ => some a
  | _ => none
/-- The operand through which an operation comes to an object. -/
def obX : Op → Option Operand
  | .fieldAddr _ x _ => some x
  | .indexAddr _ x _ => some x
  | .slice _ x _ _ _ => some x
  | .load _ x => some x
  | .convert _ _ x => some x
  | .store _ x _ => some x
  | .call { callee := .builtin .len, args, .. } => match args.toList with
    | [x] => some x
    | _ => none
  | _ => none

/-- The addresses' steps look at shapes alone. -/
theorem shape_step (op : Op) (ev : Operand → AV) (m m2 : List AO) (v : AV) (hc : cls P op = .shape)
    (hcont : ∀ x, obX op = some x → ∀ a g xs, objOf (ev x) = some a → content m a g = some xs → ∃ ys, content m2 a g = some ys ∧ ys.length = xs.length) (hrow : ∀ x, obX op = some x → ∀ a g xs, objOf (ev x) = some a → content m a g = some xs → rowz m2 a = rowz m a)
    (h : aop P op ev m = some (v, m)) : aop P op ev m2 = some (v, m2) := by
  have key : ∀ {o o2 : Option AV}, (∀ x, o = some x → o2 = some x) → o.map (·, m) = some (v, m) → o2.map (·, m2) = some (v, m2) := by
    intro o o2 hx ho
    simp only [Option.map_eq_some_iff, Prod.mk.injEq] at ho ⊢
    obtain ⟨x, hx', e, _⟩ := ho; exact ⟨x, hx x hx', e, trivial⟩
  cases op <;> simp only [cls] at hc <;> try (simp at hc; done)
  case convert s t x => split at hc <;> simp at hc
  case fieldAddr t x f =>
    simp only [aop] at h ⊢
    refine key (fun y hy => ?_) h
    unfold aFieldAddr at hy ⊢
    split at hy
    · rename_i _ _ a o g fs sz by_ ze h1 h2
      split at hy
      · rename_i _ _ off ft xs hf hcc
        obtain ⟨ys, hys, _⟩ := hcont _ rfl _ _ _ (by rw [h1]; rfl) hcc
        simp only [h1, h2, hf, hys]; exact hy
      · simp at hy
    · simp at hy
  case indexAddr t x i =>
    simp only [aop] at h ⊢
    refine key (fun y hy => ?_) h
    unfold aIndexAddr at hy ⊢
    split at hy
    · rename_i k iv h0
      split at hy
      · rename_i _ _ n e sz by_ ze a o g h1 h2
        split at hy
        · rename_i _ _ ei xs h3 hcc
          obtain ⟨ys, hys, _⟩ := hcont _ rfl _ _ _ (by rw [h2]; rfl) hcc
          simp only [h0, h1, h2, h3, hys]; exact hy
        · simp at hy
      · rename_i _ _ e sz by_ ze a o len g h1 h2
        split at hy
        · rename_i _ _ ei xs h3 hcc
          obtain ⟨ys, hys, _⟩ := hcont _ rfl _ _ _ (by rw [h2]; rfl) hcc
          simp only [h0, h1, h2, h3, hys]; exact hy
        · simp at hy
      · simp at hy
    · simp at hy
  case slice t x lo hi mx =>
    cases mx with
    | some _ => simp [aop] at h
    | none =>
      simp only [aop] at h ⊢
      refine key (fun y hy => ?_) h
      unfold aSlice at hy ⊢
      split at hy
      · simp_all
      · rename_i _ _ e sz by_ ze a o len g h1 h2
        split at hy
        · rename_i _ _ _ _ ei xs l hh h3 hcc h4 h5
          obtain ⟨ys, hys, hl⟩ := hcont _ rfl _ _ _ (by rw [h2]; rfl) hcc
          simp only [h1, h2, h3, hys, h4, h5, hl, hrow _ rfl _ _ _ (by rw [h2]; rfl) hcc]; exact hy
        · simp at hy
      · simp at hy
  case call c =>
    obtain ⟨cal, args, tys⟩ := c
    cases cal <;> try (simp at hc; done)
    rename_i b
    cases b <;> try (simp at hc; done)
    simp only [aop] at h ⊢
    split at h
    · rename_i x0 t0 ha0 ht0
      refine key (fun y hy => ?_) h
      unfold aLen at hy ⊢
      split at hy
      · simp_all
      · rename_i _ _ e sz by_ ze a o n g h1 h2
        split at hy
        · rename_i xs hcc
          obtain ⟨ys, hys, _⟩ := hcont x0 (by simp only [obX, ha0]) _ _ _ (by rw [h2]; rfl) hcc
          simp only [h1, h2, hys]; exact hy
        · simp at hy
      · simp_all
      · simp at hy
    · simp at h

theorem read_push (op : Op) (ev : Operand → AV) (m t : List AO) (v : AV) (hc : cls P op = .read) (h : aop P op ev m = some (v, m)) : aop P op ev (m ++ t) = some (v, m ++ t) := by
  have key : ∀ {o o2 : Option AV}, (∀ x, o = some x → o2 = some x) → o.map (·, m) = some (v, m) → o2.map (·, m ++ t) = some (v, m ++ t) := by
    intro o o2 hx ho
    simp only [Option.map_eq_some_iff, Prod.mk.injEq] at ho ⊢
    obtain ⟨x, hx', e, _⟩ := ho; exact ⟨x, hx x hx', e, trivial⟩
  cases op <;> simp only [cls] at hc <;> try (simp at hc; done)
  case load ty x =>
    simp only [aop] at h ⊢
    refine key (fun y hy => ?_) h
    generalize ev x = z at hy ⊢
    cases z <;> simp only [aLoad] at hy ⊢ <;> try (simp at hy; done)
    rename_i a o g
    cases hcc : content m a g with
    | none => simp [hcc] at hy
    | some xs => simp only [hcc, content_app t hcc] at hy ⊢; exact hy
  case convert s d x =>
    simp only [aop] at h ⊢
    refine key (fun y hy => ?_) h
    unfold aConv at hy ⊢
    split at hy
    · simp_all
    · rename_i _ _ _ e sz by_ ze sz' by' ze' a o len g h1 h2 h3
      split at hy
      · rename_i _ _ sz2 by2 ze2 xs h4 hcc
        simp only [h1, h2, h3, h4, content_app t hcc]; exact hy
      · simp at hy
    · simp at hy
  case call c =>
    obtain ⟨cal, args, tys⟩ := c
    cases cal <;> try (simp at hc; done)
    rename_i b
    cases b <;> simp at hc

theorem store_shp (t : TypeId) (x y : Operand) (ev : Operand → AV) (m m' : List AO) (v : AV) (h : aop P (.store t x y) ev m = some (v, m')) : m'.map AO.shp = m.map AO.shp := by
  simp only [aop, Option.map_eq_some_iff, Prod.mk.injEq] at h
  obtain ⟨m1, hm, _, rfl⟩ := h
  unfold aStore at hm
  split at hm
  · rename_i _ a o g hg
    split at hm
    · rename_i _ _ xs g' z i h1 h2
      split at hm
      · simp only [Option.some.injEq] at hm; subst hm
        apply List.ext_getElem?
        intro j
        rw [List.getElem?_map, List.getElem?_map]
        by_cases hj : a = j
        · subst hj
          rw [List.getElem?_set_self (List.getElem?_eq_some_iff.1 h1).1, h1]
          simp [AO.shp, splice_eq, spl_length]
        · rw [List.getElem?_set_ne hj]
      · simp at hm
    · simp at hm
  · simp at hm

theorem push_app (op : Op) (ev : Operand → AV) (m m' : List AO) (v : AV) (hc : cls P op = .push) (h : aop P op ev m = some (v, m')) : ∃ t, m' = m ++ t := by
  have hnew : ∀ xs, aNew m xs = some (v, m') → ∃ t, m' = m ++ t := by
    intro xs hx
    unfold aNew at hx
    split at hx
    · simp at hx; exact ⟨_, hx.2.symm⟩
    · simp at hx
  cases op <;> simp only [cls] at hc <;> try (simp at hc; done)
  case alloc e =>
    simp only [aop] at h
    split at h
    · exact hnew _ h
    · simp at h
  case box e x => simp only [aop] at h; exact hnew _ h
  case buildSlice t n ps =>
    simp only [aop] at h
    unfold aBuildSlice at h
    split at h <;> try (simp at h; done)
    split at h <;> try (simp at h; done)
    split at h <;> try (simp at h; done)
    split at h <;> try (simp at h; done)
    simp at h; exact ⟨_, h.2.symm⟩
  case makeSlice t x y =>
    simp only [aop] at h
    unfold aMakeSlice at h
    split at h <;> try (simp at h; done)
    split at h <;> try (simp at h; done)
    split at h <;> try (simp at h; done)
    split at h <;> try (simp at h; done)
    simp at h; exact ⟨_, h.2.symm⟩
  case convert s t x => split at hc <;> simp at hc
  case call c =>
    obtain ⟨cal, args, tys⟩ := c
    cases cal <;> try (simp at hc; done)
    rename_i b
    cases b <;> simp at hc

end
end Go.Proofs.Ytkpjaffbbppneaa

/- Regions that draw their order: every order ends as the order of the text does. -/
namespace Go.Proofs.Ytkpjaffbbppneaa
open Go Go.RowKit

/-- What one operation does, in the order of the text. -/
def OpF (P : Program) (W : List (Option Tmp)) (ext : Bool) (env : Env) (o : Oper) (m : List AO) (v : AV) (m' : List AO) : Prop :=
  match o.op with
  | .call { callee := .value fv, args, .. } => ∃ f caps, aev env fv = .fn f caps ∧
      (if W.contains o.dst = true then ACalls P f (args.toList.map (aev env) ++ caps) m (fun v' m'' => v' = v ∧ m'' = m')
       else m' = m ∧ (if ext = true then ∀ m2, ACalls P f (args.toList.map (aev env) ++ caps) m2 fun v' m'' => v' = v ∧ m'' = m2
         else ACalls P f (args.toList.map (aev env) ++ caps) m fun v' m'' => v' = v ∧ m'' = m))
  | op => aop P op (aev env) m = some (v, m')

section
variable {P : Program} {W : List (Option Tmp)} {ext : Bool} {ds : List (Tmp × Tmp)}

theorem OpF.of_aop {env : Env} {o : Oper} {m m' : List AO} {v : AV} (hc : cls P o.op ≠ .call) : OpF P W ext env o m v m' ↔ aop P o.op (aev env) m = some (v, m') := by
  obtain ⟨d, op, t, pos, af, g⟩ := o
  simp only at hc ⊢
  cases op <;> try (simp only [OpF]; done)
  rename_i c
  obtain ⟨cal, args, tys⟩ := c
  cases cal <;> try (simp only [OpF]; done)
  simp [cls] at hc

theorem cls_call {op : Op} (h : cls P op = .call) : ∃ fv args tys, op = .call ⟨.value fv, args, tys⟩ := by
  cases op <;> simp only [cls] at h <;> try (simp at h; done)
  case convert s t x => split at h <;> simp at h
  case call c =>
    obtain ⟨cal, args, tys⟩ := c
    cases cal with
    | value fv => exact ⟨fv, args, tys, rfl⟩
    | invoke r n => simp at h
    | builtin b => cases b <;> simp at h

theorem cls_store {op : Op} (h : cls P op = .store) : ∃ t x y, op = .store t x y := by
  cases op <;> simp only [cls] at h <;> try (simp at h; done)
  case store t x y => exact ⟨t, x, y, rfl⟩
  case convert s t x => split at h <;> simp at h
  case call c =>
    obtain ⟨cal, args, tys⟩ := c
    cases cal with
    | value fv => simp at h
    | invoke r n => simp at h
    | builtin b => cases b <;> simp at h

theorem OpF.astep {env : Env} {o : Oper} {m m' : List AO} {v : AV} (h : OpF P W ext env o m v m') : astep P none env o m fun v' m'' => v' = v ∧ m'' = m' := by
  by_cases hc : cls P o.op = .call
  · obtain ⟨d, op, t, pos, af, g⟩ := o
    obtain ⟨fv, args, tys, rfl⟩ := cls_call hc
    simp only [OpF] at h
    obtain ⟨f, caps, hf, h⟩ := h
    simp only [Ytkpjaffbbppneaa.astep, hf, aC]
    split at h
    · exact h
    · obtain ⟨rfl, h⟩ := h
      split at h
      · exact h _
      · exact h
  · rw [OpF.of_aop hc] at h
    obtain ⟨d, op, t, pos, af, g⟩ := o
    simp only at h hc
    have fin : aV (aop P op (aev env) m) fun v' m'' => v' = v ∧ m'' = m' := by rw [h]; exact ⟨rfl, rfl⟩
    cases op <;> try exact fin
    rename_i c
    obtain ⟨cal, args, tys⟩ := c
    cases cal <;> try exact fin
    simp [cls] at hc

theorem OpF.congr {env env' : Env} {o : Oper} {m m' : List AO} {v : AV} (h : OpF P W ext env o m v m') (he : ∀ x ∈ o.op.operands, aev env' x = aev env x) : OpF P W ext env' o m v m' := by
  by_cases hc : cls P o.op = .call
  · obtain ⟨d, op, t, pos, af, g⟩ := o
    obtain ⟨fv, args, tys, rfl⟩ := cls_call hc
    simp only [OpF] at h ⊢
    simp only [Op.operands, Call.operands] at he
    rw [he fv (by simp)]
    have hm : args.toList.map (aev env') = args.toList.map (aev env) := List.map_congr_left fun x hx => he x (by simp; exact .inr (by simpa using hx))
    rw [hm]; exact h
  · rw [OpF.of_aop hc] at h ⊢
    rw [aop_congr o.op (aev env') (aev env) m he]; exact h

theorem OpF.same {env : Env} {o : Oper} {m m' : List AO} {v : AV} (h : OpF P W ext env o m v m') (hw : isW P W o = false) : m' = m := by
  by_cases hc : cls P o.op = .call
  · simp only [isW, hc] at hw
    obtain ⟨d, op, t, pos, af, g⟩ := o
    obtain ⟨fv, args, tys, rfl⟩ := cls_call hc
    simp only [OpF] at h
    obtain ⟨f, caps, hf, h⟩ := h
    simp only at hw
    rw [if_neg (by rw [hw]; simp)] at h
    exact h.1
  · rw [OpF.of_aop hc] at h
    refine aop_same o.op _ _ _ _ ?_ h
    simp only [isW] at hw
    cases hk : cls P o.op <;> simp_all

/-- Two slots that point at two objects. -/
def ptrNe (x y : AV) : Prop := ∃ a o g b o' g', x = .ptr a o g ∧ y = .ptr b o' g' ∧ a ≠ b

theorem sepB_ops {x y : Oper} (h : sepB ds x y = true) : ∃ t a t' b z, x.op = .load t (.tmp a) ∧ y.op = .store t' (.tmp b) z ∧ (a, b) ∈ ds := by
  unfold sepB at h
  split at h
  · rename_i t a t' b z h1 h2; exact ⟨t, a, t', b, z, h1, h2, by simpa using h⟩
  · simp at h

theorem content_set_ne {m : List AO} {a b : Nat} (h : a ≠ b) (o : AO) (g : Nat) : content (m.set b o) a g = content m a g := by
  simp [content, List.getElem?_set_ne (Ne.symm h)]

theorem load_store {ei ej : Operand → AV} {t t' : TypeId} {x y z : Operand} {m m' : List AO} {vj : AV} (hne : ptrNe (ei x) (ej y)) (hs : aop P (.store t' y z) ej m = some (vj, m')) : aLoad P m' t (ei x) = aLoad P m t (ei x) := by
  obtain ⟨a, o, g, b, o', g', e1, e2, hab⟩ := hne
  simp only [aop, Option.map_eq_some_iff, Prod.mk.injEq] at hs
  obtain ⟨m1, hm, _, rfl⟩ := hs
  rw [e1]
  rw [e2] at hm
  unfold aStore at hm
  simp only at hm
  split at hm
  · split at hm
    · simp only [Option.some.injEq] at hm; subst hm
      simp only [aLoad, content_set_ne hab]
    · simp at hm
  · simp at hm

/-- An operation that does not write does the same on the other side of one that it need not wait for: forward. -/
theorem OpF.over {ei ej : Env} {oi oj : Oper} {m m' : List AO} {v vj : AV} (h : OpF P W ext ei oi m v m) (hj : OpF P W ext ej oj m vj m') (wi : isW P W oi = false) (wj : isW P W oj = true) (hok : memOk P W ext ds oi oj = true) (hds : ∀ t a t' b z, oi.op = .load t (.tmp a) → oj.op = .store t' (.tmp b) z → (a, b) ∈ ds → ptrNe (ei a) (ej b)) :
    OpF P W ext ei oi m' v m' := by
  simp only [memOk, wi, wj] at hok
  by_cases hc : cls P oi.op = .call
  · simp only [hc] at hok
    split at hok <;> try (simp at hok; done)
    rename_i h1 h2 <;> try (simp at h1; done)
    all_goals try (simp at *; done)
    rename_i hp
    rw [OpF.of_aop (by rw [hp]; simp)] at hj
    obtain ⟨t, rfl⟩ := push_app _ _ _ _ _ hp hj
    obtain ⟨d, op, ty, pos, af, g⟩ := oi
    obtain ⟨fv, args, tys, rfl⟩ := cls_call hc
    simp only [OpF] at h ⊢
    obtain ⟨f, caps, hf, h⟩ := h
    refine ⟨f, caps, hf, ?_⟩
    simp only [isW, hc] at wi
    rw [if_neg (by rw [wi]; simp)] at h ⊢
    refine ⟨trivial, ?_⟩
    rw [if_pos hok] at h ⊢
    exact h.2
  · rw [OpF.of_aop hc] at h ⊢
    cases hk : cls P oi.op with
    | pure => exact aop_pure _ _ _ _ _ hk h
    | call => exact absurd hk hc
    | shape =>
      simp only [hk] at hok
      cases hl : cls P oj.op <;> rw [hl] at hok <;> try (simp at hok; done)
      · rw [OpF.of_aop (by rw [hl]; simp)] at hj
        obtain ⟨t, rfl⟩ := push_app _ _ _ _ _ hl hj
        exact shape_step _ _ _ _ _ hk (fun _ _ a g xs _ hx => ⟨xs, content_app t hx, rfl⟩) (fun _ _ a g xs _ hx => rowz_app t hx) h
      · rw [OpF.of_aop (by rw [hl]; simp)] at hj
        have hst := cls_store hl
        obtain ⟨t, x, y, ho⟩ := hst
        rw [ho] at hj
        have hsh := store_shp _ _ _ _ _ _ _ hj
        exact shape_step _ _ _ _ _ hk (fun _ _ a g xs _ hx => content_shp hsh.symm hx) (fun _ _ a g xs _ hx => rowz_shp hsh a) h
    | read =>
      simp only [hk] at hok
      cases hl : cls P oj.op <;> rw [hl] at hok <;> try (simp at hok; done)
      · rw [OpF.of_aop (by rw [hl]; simp)] at hj
        obtain ⟨t, rfl⟩ := push_app _ _ _ _ _ hl hj
        exact read_push _ _ _ _ _ hk h
      · rw [OpF.of_aop (by rw [hl]; simp)] at hj
        obtain ⟨t, a, t', b, z, e1, e2, hmem⟩ := sepB_ops hok
        rw [e1] at h ⊢
        rw [e2] at hj
        simp only [aop] at h ⊢
        have hl2 := load_store (t := t) (ei := aev ei) (ej := aev ej) (x := .tmp a) (y := .tmp b) (hds _ _ _ _ _ e1 e2 hmem) hj
        rw [hl2]
        simp only [Option.map_eq_some_iff, Prod.mk.injEq] at h ⊢
        obtain ⟨u, hu, e, _⟩ := h
        exact ⟨u, hu, e, trivial⟩
    | push => simp [isW, hk] at wi
    | store => simp [isW, hk] at wi
    | other => simp [isW, hk] at wi

/-- .. and backward. -/
theorem OpF.under {ei ej : Env} {oi oj : Oper} {m m' : List AO} {v vj : AV} (h : OpF P W ext ei oi m' v m') (hj : OpF P W ext ej oj m vj m') (wi : isW P W oi = false) (wj : isW P W oj = true) (hok : memOk P W ext ds oj oi = true) (hds : ∀ t a t' b z, oi.op = .load t (.tmp a) → oj.op = .store t' (.tmp b) z → (a, b) ∈ ds → ptrNe (ei a) (ej b)) :
    OpF P W ext ei oi m v m := by
  simp only [memOk, wi, wj] at hok
  cases hk : cls P oi.op with
  | pure => rw [OpF.of_aop (by rw [hk]; simp)] at h ⊢; exact aop_pure _ _ _ _ _ hk h
  | shape =>
    simp only [hk] at hok
    cases hl : cls P oj.op <;> rw [hl] at hok <;> try (simp at hok; done)
    rw [OpF.of_aop (by rw [hk]; simp)] at h ⊢
    rw [OpF.of_aop (by rw [hl]; simp)] at hj
    have hst := cls_store hl
    obtain ⟨t, x, y, ho⟩ := hst
    rw [ho] at hj
    have hsh := store_shp _ _ _ _ _ _ _ hj
    exact shape_step _ _ _ _ _ hk (fun _ _ a g xs _ hx => content_shp hsh hx) (fun _ _ a g xs _ hx => rowz_shp hsh.symm a) h
  | read =>
    simp only [hk] at hok
    cases hl : cls P oj.op <;> rw [hl] at hok <;> try (simp at hok; done)
    rw [OpF.of_aop (by rw [hk]; simp)] at h ⊢
    rw [OpF.of_aop (by rw [hl]; simp)] at hj
    obtain ⟨t, a, t', b, z, e1, e2, hmem⟩ := sepB_ops hok
    rw [e1] at h ⊢
    rw [e2] at hj
    simp only [aop] at h ⊢
    have hl2 := load_store (t := t) (ei := aev ei) (ej := aev ej) (x := .tmp a) (y := .tmp b) (hds _ _ _ _ _ e1 e2 hmem) hj
    rw [hl2] at h
    simp only [Option.map_eq_some_iff, Prod.mk.injEq] at h ⊢
    obtain ⟨u, hu, e, _⟩ := h
    exact ⟨u, hu, e, trivial⟩
  | _ => simp [hk] at hok

end
end Go.Proofs.Ytkpjaffbbppneaa

/- Regions that draw their order: the theorem. -/
namespace Go.Proofs.Ytkpjaffbbppneaa
open Go Go.RowKit

def putE (env : Env) (dst : Option Tmp) (v : AV) : Env :=
  match dst with
  | none => env
  | some d => env.upd d v

structure Dt (P : Program) (N : Nat) (W : List (Option Tmp)) (ext : Bool) (ops : Array Oper) (K : Env → List AO → Prop) (l : List Oper) (E : Nat → Env) (M : Nat → List AO) (V : Nat → AV) : Prop where
  op : ∀ (i : Nat) (o : Oper), l[i]? = some o → ∃ b, awant ops (E i) o = some b ∧ (b = false → V i = .s undef ∧ M (i + 1) = M i) ∧ (b = true → OpF P W ext (E i) o (M i) (V i) (M (i + 1))) ∧
    (∀ d, o.dst = some d → d < N) ∧ E (i + 1) = putE (E i) o.dst (V i)
  fin : K (E l.length) (M l.length)

section
variable {P : Program} {N : Nat} {W : List (Option Tmp)} {ext : Bool} {ds : List (Tmp × Tmp)} {ops : Array Oper} {K : Env → List AO → Prop}

theorem astep_D {env : Env} {o : Oper} {m : List AO} {K : AV → List AO → Prop} (h : astep P (some (W, ext)) env o m K) : ∃ v m', OpF P W ext env o m v m' ∧ K v m' := by
  by_cases hc : cls P o.op = .call
  · obtain ⟨d, op, t, pos, af, g⟩ := o
    obtain ⟨fv, args, tys, rfl⟩ := cls_call hc
    simp only [Ytkpjaffbbppneaa.astep] at h
    split at h
    · rename_i f caps hf
      simp only [aC] at h
      simp only [OpF]
      split at h
      · rename_i hw
        obtain ⟨v, m', h1, h2⟩ := h
        exact ⟨v, m', ⟨f, caps, hf, by rw [if_pos hw]; exact h1⟩, h2⟩
      · rename_i hw
        split at h
        · rename_i he
          obtain ⟨v, h1, h2⟩ := h
          exact ⟨v, m, ⟨f, caps, hf, by rw [if_neg hw]; exact ⟨rfl, by rw [if_pos he]; exact h1⟩⟩, h2⟩
        · rename_i he
          obtain ⟨v, h1, h2⟩ := h
          exact ⟨v, m, ⟨f, caps, hf, by rw [if_neg hw]; exact ⟨rfl, by rw [if_neg he]; exact h1⟩⟩, h2⟩
    · exact h.elim
  · have fin : aV (aop P o.op (aev env) m) K → ∃ v m', OpF P W ext env o m v m' ∧ K v m' := by
      intro h
      unfold aV at h
      split at h
      · rename_i v m' ha; exact ⟨v, m', (OpF.of_aop hc).2 ha, h⟩
      · exact h.elim
    obtain ⟨d, op, t, pos, af, g⟩ := o
    simp only at hc
    cases op <;> try exact fin h
    rename_i c
    obtain ⟨cal, args, tys⟩ := c
    cases cal <;> try exact fin h
    simp [cls] at hc

theorem extract : ∀ (l : List Oper) (env : Env) (m : List AO), awpOps P N (some (W, ext)) ops K l env m → ∃ E M V, E 0 = env ∧ M 0 = m ∧ Dt P N W ext ops K l E M V
  | [], env, m, h => ⟨fun _ => env, fun _ => m, fun _ => .any, rfl, rfl, ⟨fun i o ho => by simp at ho, h⟩⟩
  | o :: r, env, m, h => by
    simp only [awpOps] at h
    split at h
    · rename_i b hb
      have next : ∀ (v : AV) (m' : List AO), (b = false → v = .s undef ∧ m' = m) → (b = true → OpF P W ext env o m v m') → aput N env o.dst v (fun env' => awpOps P N (some (W, ext)) ops K r env' m') →
          ∃ E M V, E 0 = env ∧ M 0 = m ∧ Dt P N W ext ops K (o :: r) E M V := by
        intro v m' hf ht hp
        have hp' : (∀ d, o.dst = some d → d < N) ∧ awpOps P N (some (W, ext)) ops K r (putE env o.dst v) m' := by
          unfold aput at hp
          cases hd : o.dst with
          | none => simp only [hd] at hp; exact ⟨by simp, hp⟩
          | some d => simp only [hd] at hp; exact ⟨by simp; exact hp.1, hp.2⟩
        obtain ⟨E, M, V, e0, m0, hdt⟩ := extract r _ _ hp'.2
        refine ⟨fun i => match i with | 0 => env | i + 1 => E i, fun i => match i with | 0 => m | i + 1 => M i, fun i => match i with | 0 => v | i + 1 => V i, rfl, rfl, ⟨fun i o' ho => ?_, hdt.fin⟩⟩
        cases i with
        | zero =>
          simp at ho; subst ho
          exact ⟨b, hb, fun e => by simp only [m0]; exact hf e, fun e => by simp only [m0]; exact ht e, hp'.1, e0⟩
        | succ i =>
          simp only [List.getElem?_cons_succ] at ho
          exact hdt.op i o' ho
      obtain ⟨h1, h2⟩ := h
      cases b with
      | true =>
        obtain ⟨v, m', h3, h4⟩ := astep_D (h1 rfl)
        exact next v m' (by simp) (fun _ => h3) h4
      | false => exact next (.s undef) m (fun _ => ⟨rfl, rfl⟩) (by simp) (h2 rfl)
    · exact h.elim

/-! The edges. -/

theorem bmGo_len : ∀ (l : List Oper) (acc : List Nat), (bmGo l acc).length = acc.length + l.length
  | [], acc => by simp [bmGo]
  | o :: r, acc => by simp [bmGo, bmGo_len r]; omega

theorem msk_sound {S : Nat → Prop} {acc : List Nat} (o : Oper) (hacc : ∀ j, j < acc.length → S j → ∀ i, (acc.getD j 0).testBit i = true → S i) (hp : ∀ e ∈ o.after.toList, bnd e = true → S e.on) : ∀ i, (msk o acc).testBit i = true → S i := by
  unfold msk
  have key : ∀ (es : List Edge) (s : Nat), (∀ e ∈ es, bnd e = true → S e.on) → (∀ i, s.testBit i = true → S i) → ∀ i, (es.foldl (fun s e => if bnd e then s ||| 2 ^ e.on ||| acc.getD e.on 0 else s) s).testBit i = true → S i := by
    intro es
    induction es with
    | nil => intro s _ hs i hi; exact hs i hi
    | cons e es ih =>
      intro s he hs i hi
      refine ih _ (fun e' h' => he e' (by simp [h'])) ?_ i hi
      intro i hi
      simp only at hi
      split at hi
      · rename_i hb
        have hS := he e (by simp) hb
        simp only [Nat.testBit_or, Bool.or_eq_true] at hi
        rcases hi with (hi | hi) | hi
        · exact hs i hi
        · rw [Nat.testBit_two_pow] at hi
          have : e.on = i := by simpa using hi
          rw [← this]; exact hS
        · by_cases hl : e.on < acc.length
          · exact hacc e.on hl hS i hi
          · rw [List.getD_eq_getElem?_getD, List.getElem?_eq_none (by omega)] at hi
            simp at hi
      · exact hs i hi
  exact key o.after.toList 0 hp (by simp)

theorem bm_sound {S : Nat → Prop} (l0 : List Oper) (dc : ∀ (j : Nat) (o : Oper), l0[j]? = some o → S j → ∀ e ∈ o.after.toList, bnd e = true → S e.on) :
    ∀ (l : List Oper) (acc : List Nat), (∀ j, l[j]? = l0[acc.length + j]?) → (∀ (j : Nat) (o : Oper), j < acc.length → l0[j]? = some o → (∀ e ∈ o.after.toList, bnd e = true → S e.on) → ∀ i, (acc.getD j 0).testBit i = true → S i) → acc.length ≤ l0.length →
      ∀ (j : Nat) (o : Oper), l0[j]? = some o → j < acc.length + l.length → (∀ e ∈ o.after.toList, bnd e = true → S e.on) → ∀ i, ((bmGo l acc).getD j 0).testBit i = true → S i
  | [], acc, _, hacc, _, j, o, ho, hj, hp, i, hi => hacc j o (by simpa using hj) ho hp i hi
  | x :: r, acc, hl, hacc, hle, j, o, ho, hj, hp, i, hi => by
    simp only [bmGo] at hi
    have hx : l0[acc.length]? = some x := by have := hl 0; simpa using this.symm
    refine bm_sound l0 dc r (acc ++ [msk x acc]) (fun j => ?_) (fun j o hjl ho hp i hi => ?_) ?_ j o ho (by simp at hj ⊢; omega) hp i hi
    · have := hl (j + 1)
      simp only [List.getElem?_cons_succ] at this
      rw [this]; simp; congr 1; omega
    · by_cases hja : j < acc.length
      · rw [List.getD_eq_getElem?_getD, List.getElem?_append_left hja, ← List.getD_eq_getElem?_getD] at hi
        exact hacc j o hja ho hp i hi
      · have hje : j = acc.length := by simp at hjl; omega
        subst hje
        rw [hx] at ho; simp at ho; subst ho
        rw [List.getD_eq_getElem?_getD, List.getElem?_concat_length] at hi
        refine msk_sound x (fun j' hj' hS i hi => ?_) hp i (by simpa using hi)
        have hlt : j' < l0.length := by omega
        exact hacc j' l0[j'] hj' (List.getElem?_eq_getElem hlt) (dc j' _ (List.getElem?_eq_getElem hlt) hS) i hi
    · have := (List.getElem?_eq_some_iff.1 hx).1
      simp; omega

theorem chk_edges {l : List Oper} (h : chk P W ext ds l = true) : ∀ (i : Nat) (o : Oper), l[i]? = some o → ∀ e ∈ o.after.toList, bnd e = true → e.on < i := by
  intro i o ho e he hb
  simp only [chk, Bool.and_eq_true, List.all_eq_true] at h
  have hm : (o, i) ∈ l.zipIdx := by
    rw [List.mem_iff_getElem?]; exact ⟨i, by simp [ho]⟩
  have := h.1.2 (o, i) hm e he
  simp [hb] at this; exact this

theorem chk_ds {l : List Oper} (h : chk P W ext ds l = true) (hne : ds ≠ []) (i j : Nat) (x y : Oper) (hij : i ≤ j) (hx : l[i]? = some x) (hy : l[j]? = some y) :
    (∀ t a, x.op = .load t (.tmp a) → y.dst ≠ some a) ∧ (∀ t b z, x.op = .store t (.tmp b) z → y.dst ≠ some b) := by
  simp only [chk, Bool.and_eq_true, List.all_eq_true] at h
  have hm : (x, i) ∈ l.zipIdx := by
    rw [List.mem_iff_getElem?]; exact ⟨i, by simp [hx]⟩
  have hd : y ∈ l.drop i := by
    rw [List.mem_iff_getElem?]; exact ⟨j - i, by rw [List.getElem?_drop, show i + (j - i) = j by omega]; exact hy⟩
  have := h.1.1 (x, i) hm y hd
  have he : ds.isEmpty = false := by cases ds <;> simp_all
  rw [he, Bool.or_false] at this
  refine ⟨fun t a e => ?_, fun t b z e => ?_⟩
  · simp only [e] at this; simpa using this
  · simp only [e] at this; simpa using this

theorem chk_pairs {l : List Oper} (h : chk P W ext ds l = true) : ∀ (i j : Nat) (x y : Oper), i < j → l[i]? = some x → l[j]? = some y → ((bmGo l []).getD j 0).testBit i = true ∨ (dataDep l.toArray x y = false ∧ memOk P W ext ds x y = true) := by
  intro i j x y hij hx hy
  simp only [chk, Bool.and_eq_true, List.all_eq_true] at h
  have hm : (y, j) ∈ l.zipIdx := by
    rw [List.mem_iff_getElem?]; exact ⟨j, by simp [hy]⟩
  have hm2 : (x, i) ∈ (l.take j).zipIdx := by
    rw [List.mem_iff_getElem?]; exact ⟨i, by simp [hx, hij]⟩
  have := h.2 (y, j) hm (x, i) hm2
  simp only [Bool.or_eq_true, Bool.and_eq_true, Bool.not_eq_true'] at this
  exact this

end

/-! What is known when some operations have run. -/

section
variable {P : Program} {N : Nat} {W : List (Option Tmp)} {ext : Bool} {ds : List (Tmp × Tmp)} {K : Env → List AO → Prop} {l : List Oper} {E : Nat → Env} {M : Nat → List AO} {V : Nat → AV}

def dOf (l : List Oper) (i : Nat) : Option Tmp := (l[i]?).bind (·.dst)
def wOf (P : Program) (W : List (Option Tmp)) (l : List Oper) (i : Nat) : Bool := (l[i]?).any (isW P W)

def eS (l : List Oper) (E : Nat → Env) (V : Nat → AV) (S : Nat → Bool) : Nat → Env
  | 0 => E 0
  | k + 1 => if S k then putE (eS l E V S k) (dOf l k) (V k) else eS l E V S k

def mS (P : Program) (W : List (Option Tmp)) (l : List Oper) (M : Nat → List AO) (S : Nat → Bool) : Nat → List AO
  | 0 => M 0
  | k + 1 => if S k && wOf P W l k then M (k + 1) else mS P W l M S k

theorem putE_at (env : Env) (dst : Option Tmp) (v : AV) (t : Tmp) : putE env dst v t = if dst = some t then v else env t := by
  cases dst with
  | none => simp [putE]
  | some d => simp only [putE, Env.upd, Option.some.injEq]; split <;> split <;> simp_all

theorem eS_congr (S S' : Nat → Bool) (t : Tmp) : ∀ k, (∀ j, j < k → dOf l j = some t → S j = S' j) → eS l E V S k t = eS l E V S' k t
  | 0, _ => rfl
  | k + 1, h => by
    have ih := eS_congr S S' t k fun j hj => h j (by omega)
    simp only [eS]
    by_cases hd : dOf l k = some t
    · rw [h k (by omega) hd]
      split
      · rw [putE_at, putE_at, if_pos hd, if_pos hd]
      · exact ih
    · have e : ∀ (S : Nat → Bool), (if S k then putE (eS l E V S k) (dOf l k) (V k) else eS l E V S k) t = eS l E V S k t := by
        intro S; split
        · rw [putE_at, if_neg hd]
        · rfl
      rw [e, e, ih]

theorem eS_last (S : Nat → Bool) (t : Tmp) (i : Nat) (hi : S i = true) (hd : dOf l i = some t) : ∀ k, i < k → (∀ j, i < j → j < k → dOf l j = some t → S j = false) → eS l E V S k t = V i
  | 0, h, _ => by omega
  | k + 1, h, hn => by
    simp only [eS]
    by_cases hk : k = i
    · subst hk; rw [if_pos hi, putE_at, if_pos hd]
    · have ih := eS_last S t i hi hd k (by omega) fun j h1 h2 => hn j h1 (by omega)
      split
      · rename_i hS
        rw [putE_at]
        split
        · rename_i hdk; have := hn k (by omega) (by omega) hdk; rw [this] at hS; simp at hS
        · exact ih
      · exact ih

theorem eS_add (S S' : Nat → Bool) (i k : Nat) (hik : i < k) (hS : ∀ j, S' j = (S j || j == i)) (hn : ∀ j t, i < j → j < k → dOf l i = some t → dOf l j = some t → S j = false) :
    eS l E V S' k = putE (eS l E V S k) (dOf l i) (V i) := by
  funext t
  rw [putE_at]
  split
  · rename_i hd
    refine eS_last S' t i (by rw [hS]; simp) hd k hik fun j h1 h2 h3 => ?_
    rw [hS, hn j t h1 h2 hd h3]; simp; omega
  · rename_i hd
    refine eS_congr S' S t k fun j hj hdj => ?_
    rw [hS]
    have : j ≠ i := fun e => hd (e ▸ hdj)
    simp [this]

variable {ops : Array Oper}

theorem eS_all (h : Dt P N W ext ops K l E M V) (S : Nat → Bool) : ∀ k, k ≤ l.length → (∀ j, j < k → S j = true) → eS l E V S k = E k
  | 0, _, _ => rfl
  | k + 1, hk, hS => by
    simp only [eS]
    rw [if_pos (hS k (by omega)), eS_all h S k (by omega) fun j hj => hS j (by omega)]
    have ho : l[k]? = some l[k] := List.getElem?_eq_getElem (by omega)
    obtain ⟨b, _, _, _, _, he⟩ := h.op k _ ho
    rw [he]; simp [dOf, ho]

theorem eS_before (h : Dt P N W ext ops K l E M V) (i : Nat) : ∀ k, i ≤ k → k ≤ l.length → eS l E V (fun j => decide (j < i)) k = E i
  | 0, hi, _ => by have : i = 0 := by omega
                   subst this; rfl
  | k + 1, hi, hk => by
    by_cases he : i = k + 1
    · subst he
      exact eS_all h _ (k + 1) hk fun j hj => by simpa using hj
    · simp only [eS]
      rw [if_neg (by simp; omega)]
      exact eS_before h i k (by omega) (by omega)

theorem M_same (h : Dt P N W ext ops K l E M V) (i : Nat) (hi : i < l.length) (hw : wOf P W l i = false) : M (i + 1) = M i := by
  have ho : l[i]? = some l[i] := List.getElem?_eq_getElem hi
  obtain ⟨b, _, h1, h2, _⟩ := h.op i _ ho
  cases b with
  | false => exact (h1 rfl).2
  | true => exact (h2 rfl).same (by simpa [wOf, ho] using hw)

theorem mS_upto (h : Dt P N W ext ops K l E M V) (S : Nat → Bool) (q : Nat) : ∀ k, k ≤ l.length → (∀ j, j < k → wOf P W l j = true → (S j = true ↔ j < q)) → mS P W l M S k = M (min k q)
  | 0, _, _ => by simp [mS]
  | k + 1, hk, hq => by
    have ih := mS_upto h S q k (by omega) fun j hj => hq j (by omega)
    simp only [mS]
    by_cases hw : wOf P W l k = true
    · have := hq k (by omega) hw
      by_cases hkq : k < q
      · rw [if_pos (by simp [this.2 hkq, hw]), Nat.min_eq_left (by omega)]
      · have hS : S k = false := by
          cases hc : S k with
          | false => rfl
          | true => exact absurd (this.1 hc) hkq
        rw [if_neg (by simp [hS]), ih]
        congr 1; omega
    · have hw' : wOf P W l k = false := by simpa using hw
      rw [if_neg (by simp [hw']), ih]
      by_cases hkq : k < q
      · rw [Nat.min_eq_left (by omega), Nat.min_eq_left (by omega)]
        exact (M_same h k (by omega) hw').symm
      · congr 1; omega

theorem first_missing (S w : Nat → Bool) : ∀ n, (∀ j, j < n → w j = true → S j = true) ∨ ∃ j0, j0 < n ∧ w j0 = true ∧ S j0 = false ∧ ∀ j, j < j0 → w j = true → S j = true
  | 0 => .inl fun j hj => by omega
  | n + 1 => by
    rcases first_missing S w n with h | ⟨j0, h1, h2⟩
    · by_cases hw : w n = true
      · by_cases hS : S n = true
        · refine .inl fun j hj hwj => ?_
          by_cases hjn : j = n
          · subst hjn; exact hS
          · exact h j (by omega) hwj
        · exact .inr ⟨n, by omega, hw, by simpa using hS, h⟩
      · refine .inl fun j hj hwj => ?_
        by_cases hjn : j = n
        · subst hjn; exact absurd hwj hw
        · exact h j (by omega) hwj
    · exact .inr ⟨j0, by omega, h2⟩

end
end Go.Proofs.Ytkpjaffbbppneaa
