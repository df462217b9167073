/- Part 1 of the proof that laws.FnFull answers true at every input and leaves it as it was: an own small semantics of the translated code, contracts of the functions, the plain law. No condition. -/
import Derived.Calls
import Derived.Deep.AppendSrc
import Derived.Deep.Upon
import Derived.Great.BuildSlice
import Derived.Laws.BytesString
import Derived.Laws.CopyRow
import Derived.Laws.Sem
import Derived.Laws.Small
import Derived.Laws.StructEq
import Derived.Laws.Tables
import Derived.Laws.World
import Derived.Lib.ConvBytes
import Derived.Lib.Strings
set_option linter.unusedVariables false
set_option linter.unusedSimpArgs false
set_option linter.unnecessarySimpa false
namespace Go.AW

inductive P where
  | int (k : IntKind) (n : Int)
  | bool (b : Bool)
  | str (s : List UInt8)
  | lit (v : Value)
  | err
  | z (n : Nat)
  | sl (n : Nat) (es : List P)
  | agg (cs : List P)
  | ptr (cs : List P)
  | clo (f : FuncId) (caps : List P)
  deriving Inhabited

def P.cells : P → List P
  | .agg cs => cs
  | p => [p]

/-- the cells of memory from 'a' on read 'vs' -/
def Reads (w : World) (a : Addr) (vs : List Value) : Prop := ∀ i v, vs[i]? = some v → w.cell? (a.add i) = some v

/-- two worlds agree on the blocks of the first that are not in M -/
structure Agree (M : Nat → Prop) (w w' : World) : Prop where
  size : w.heap.size ≤ w'.heap.size
  same : ∀ b, b < w.heap.size → ¬ M b → w'.heap[b]? = w.heap[b]?

mutual
def PRel (w : World) (M : Nat → Prop) : P → Value → Prop
  | .int k n, v => v = .int k n
  | .bool b, v => v = .bool b
  | .str s, v => v = .string ⟨s.toArray⟩
  | .lit u, v => v = u
  | .err, v => ∃ t u, v = .iface t u
  | .z _, v => ∃ a, v = .slice a 0 0
  | .sl n es, v => ∃ a cap vs, v = .slice a es.length cap ∧ es.length ≤ cap ∧ PElems w M n es vs ∧
      (es ≠ [] → ∃ ad, a = some ad ∧ ad.spot = none ∧ ¬ M ad.block ∧ ad.block < w.heap.size ∧ Reads w ad vs)
  | .agg cs, v => ∃ vs, v = .agg vs ∧ PRels w M cs vs.toList
  | .ptr cs, v => ∃ ad vs, v = .pointer (some ad) ∧ ad.spot = none ∧ ¬ M ad.block ∧ ad.block < w.heap.size ∧ PRels w M cs vs ∧ Reads w ad vs
  | .clo f cs, v => ∃ vs, v = .func (.func f) #[] vs ∧ PRels w M cs vs.toList
def PRels (w : World) (M : Nat → Prop) : List P → List Value → Prop
  | [], vs => vs = []
  | c :: cs, vs => ∃ v rest, vs = v :: rest ∧ PRel w M c v ∧ PRels w M cs rest
/-- the elements of a row: each of n cells -/
def PElems (w : World) (M : Nat → Prop) (n : Nat) : List P → List Value → Prop
  | [], vs => vs = []
  | e :: es, vs => ∃ c rest, vs = c ++ rest ∧ c.length = n ∧ (∀ v ∈ c, v.oneCell' = true) ∧ PElem w M e c ∧ PElems w M n es rest
def PElem (w : World) (M : Nat → Prop) : P → List Value → Prop
  | .agg cs, c => PRels w M cs c
  | .int k n, c => c = [.int k n]
  | .bool b, c => c = [.bool b]
  | .str s, c => c = [.string ⟨s.toArray⟩]
  | .lit u, c => c = [u]
  | .err, c => ∃ t u, c = [.iface t u]
  | .z _, c => ∃ a, c = [.slice a 0 0]
  | .sl n es, c => ∃ a cap vs, c = [.slice a es.length cap] ∧ es.length ≤ cap ∧ PElems w M n es vs ∧
      (es ≠ [] → ∃ ad, a = some ad ∧ ad.spot = none ∧ ¬ M ad.block ∧ ad.block < w.heap.size ∧ Reads w ad vs)
  | .ptr cs, c => ∃ ad vs, c = [.pointer (some ad)] ∧ ad.spot = none ∧ ¬ M ad.block ∧ ad.block < w.heap.size ∧ PRels w M cs vs ∧ Reads w ad vs
  | .clo f cs, c => ∃ vs, c = [.func (.func f) #[] vs] ∧ PRels w M cs vs.toList
end

theorem Agree.refl (M : Nat → Prop) (w : World) : Agree M w w := ⟨Nat.le_refl _, fun _ _ _ => rfl⟩

theorem Agree.cell {M : Nat → Prop} {w w' : World} (h : Agree M w w') {a : Addr} (hb : a.block < w.heap.size) (hm : ¬ M a.block) : w'.cell? a = w.cell? a := by
  unfold World.cell?; rw [h.same _ hb hm]

theorem Agree.reads {M : Nat → Prop} {w w' : World} (h : Agree M w w') {a : Addr} {vs : List Value} (hb : a.block < w.heap.size) (hm : ¬ M a.block) (hr : Reads w a vs) : Reads w' a vs := by
  intro i v hv
  have h1 := hr i v hv
  have hbl : (a.add i).block = a.block := by unfold Addr.add; split <;> rfl
  rw [h.cell (by rw [hbl]; exact hb) (by rw [hbl]; exact hm)]; exact h1

/- one lemma for all that may become of the world and of the set of blocks that may be written -/
mutual
theorem PRel.move {w w' : World} {M M' : Nat → Prop} (ha : Agree M w w') (hm : ∀ b, b < w.heap.size → M' b → M b) : ∀ (p : P) (v : Value), PRel w M p v → PRel w' M' p v
  | .int _ _, _, h => by simpa [PRel] using h
  | .bool _, _, h => by simpa [PRel] using h
  | .str _, _, h => by simpa [PRel] using h
  | .lit _, _, h => by simpa [PRel] using h
  | .err, _, h => by simpa [PRel] using h
  | .z _, _, h => by simpa [PRel] using h
  | .sl n es, v, h => by
    simp only [PRel] at h ⊢
    obtain ⟨a, cap, vs, rfl, hc, he, hn⟩ := h
    refine ⟨a, cap, vs, rfl, hc, PElems.move ha hm n es vs he, fun hne => ?_⟩
    obtain ⟨ad, rfl, hs, hM, hb, hr⟩ := hn hne
    exact ⟨ad, rfl, hs, fun hh => hM (hm _ hb hh), Nat.lt_of_lt_of_le hb ha.size, ha.reads hb hM hr⟩
  | .agg cs, v, h => by
    simp only [PRel] at h ⊢
    obtain ⟨vs, rfl, hr⟩ := h
    exact ⟨vs, rfl, PRels.move ha hm cs _ hr⟩
  | .ptr cs, v, h => by
    simp only [PRel] at h ⊢
    obtain ⟨ad, vs, rfl, hs, hM, hb, hc, hr⟩ := h
    exact ⟨ad, vs, rfl, hs, fun hh => hM (hm _ hb hh), Nat.lt_of_lt_of_le hb ha.size, PRels.move ha hm cs vs hc, ha.reads hb hM hr⟩
  | .clo f cs, v, h => by
    simp only [PRel] at h ⊢
    obtain ⟨vs, rfl, hr⟩ := h
    exact ⟨vs, rfl, PRels.move ha hm cs _ hr⟩
theorem PRels.move {w w' : World} {M M' : Nat → Prop} (ha : Agree M w w') (hm : ∀ b, b < w.heap.size → M' b → M b) : ∀ (ps : List P) (vs : List Value), PRels w M ps vs → PRels w' M' ps vs
  | [], _, h => by simpa [PRels] using h
  | c :: cs, vs, h => by
    simp only [PRels] at h ⊢
    obtain ⟨v, rest, rfl, h1, h2⟩ := h
    exact ⟨v, rest, rfl, PRel.move ha hm c v h1, PRels.move ha hm cs rest h2⟩
theorem PElems.move {w w' : World} {M M' : Nat → Prop} (ha : Agree M w w') (hm : ∀ b, b < w.heap.size → M' b → M b) : ∀ (n : Nat) (es : List P) (vs : List Value), PElems w M n es vs → PElems w' M' n es vs
  | _, [], _, h => by simpa [PElems] using h
  | n, e :: es, vs, h => by
    simp only [PElems] at h ⊢
    obtain ⟨c, rest, rfl, hl, ho, h1, h2⟩ := h
    exact ⟨c, rest, rfl, hl, ho, PElem.move ha hm e c h1, PElems.move ha hm n es rest h2⟩
theorem PElem.move {w w' : World} {M M' : Nat → Prop} (ha : Agree M w w') (hm : ∀ b, b < w.heap.size → M' b → M b) : ∀ (e : P) (c : List Value), PElem w M e c → PElem w' M' e c
  | .int _ _, _, h => by simpa [PElem] using h
  | .bool _, _, h => by simpa [PElem] using h
  | .str _, _, h => by simpa [PElem] using h
  | .lit _, _, h => by simpa [PElem] using h
  | .err, _, h => by simpa [PElem] using h
  | .z _, _, h => by simpa [PElem] using h
  | .sl n es, v, h => by
    simp only [PElem] at h ⊢
    obtain ⟨a, cap, vs, rfl, hc, he, hn⟩ := h
    refine ⟨a, cap, vs, rfl, hc, PElems.move ha hm n es vs he, fun hne => ?_⟩
    obtain ⟨ad, rfl, hs, hM, hb, hr⟩ := hn hne
    exact ⟨ad, rfl, hs, fun hh => hM (hm _ hb hh), Nat.lt_of_lt_of_le hb ha.size, ha.reads hb hM hr⟩
  | .agg cs, c, h => by
    simp only [PElem] at h ⊢
    exact PRels.move ha hm cs _ h
  | .ptr cs, v, h => by
    simp only [PElem] at h ⊢
    obtain ⟨ad, vs, rfl, hs, hM, hb, hc, hr⟩ := h
    exact ⟨ad, vs, rfl, hs, fun hh => hM (hm _ hb hh), Nat.lt_of_lt_of_le hb ha.size, PRels.move ha hm cs vs hc, ha.reads hb hM hr⟩
  | .clo f cs, v, h => by
    simp only [PElem] at h ⊢
    obtain ⟨vs, rfl, hr⟩ := h
    exact ⟨vs, rfl, PRels.move ha hm cs _ hr⟩
end

/-- an element's cells, by 'cells' -/
theorem PElem_iff {w : World} {M : Nat → Prop} (e : P) (c : List Value) : PElem w M e c ↔ PRels w M e.cells c := by
  cases e <;> simp only [PElem, P.cells, PRels, PRel]
  all_goals (constructor <;> (intro h; grind))

end Go.AW
namespace Go.AW

inductive L where
  | p (v : P)
  | sl (s ver off len : Nat)
  | ptr (s ver off : Nat)
  | eptr (s ver i off : Nat)
  | agg (xs : List L)
  | tup (xs : List L)
  | clo (f : FuncId) (caps : List L)
  | undef
  deriving Inhabited

inductive Blk where
  | box (cs : List L) (fz : Bool)
  | arr (n : Nat) (es : List P) (fz : Bool)
  | dead
  deriving Inhabited

abbrev Mem := List (Nat × Nat × Blk)
def look : Mem → Nat → Option (Nat × Blk)
  | [], _ => none
  | (s, v, b) :: m, t => if s = t then some (v, b) else look m t
def put : Mem → Nat → Nat → Blk → Mem
  | [], s, v, b => [(s, v, b)]
  | (s', v', b') :: m, s, v, b => if s' = s then (s, v, b) :: m else (s', v', b') :: put m s v b

theorem look_put (m : Mem) (s t v : Nat) (b : Blk) : look (put m s v b) t = if s = t then some (v, b) else look m t := by
  induction m with
  | nil => simp [put, look]
  | cons x m ih =>
    obtain ⟨s', v', b'⟩ := x
    simp only [put]
    by_cases h : s' = s
    · subst h; simp only [if_true, look]; split <;> simp_all
    · simp only [h, if_false, look, ih]
      by_cases h1 : s' = t
      · subst h1; simp [Ne.symm h]
      · simp [h1]

/-- may the block be written? -/
def Blk.mut : Blk → Bool
  | .box _ fz => !fz
  | .arr _ _ fz => !fz
  | .dead => false

def Blk.live : Blk → Bool
  | .dead => false
  | _ => true

/-- the blocks that may be written: the caller's, and the call's own -/
def mutOf (M0 : Nat → Prop) (ρ : Nat → Nat) (mem : Mem) (b : Nat) : Prop :=
  M0 b ∨ ∃ s ver blk, look mem s = some (ver, blk) ∧ blk.mut = true ∧ ρ s = b

/-- a reference into a block of the call's own -/
def Here (ρ : Nat → Nat) (mem : Mem) (s ver : Nat) (K : Blk → Nat → Prop) : Prop :=
  ∃ ver' blk, look mem s = some (ver', blk) ∧ ver ≤ ver' ∧ (ver = ver' → K blk (ρ s))

def slK (w : World) (off len : Nat) (v : Value) : Blk → Nat → Prop
  | .arr n es _, b => ∃ cap c t fr, v = .slice (some ⟨b, off * n, none⟩) len cap ∧ off + len ≤ es.length ∧ len ≤ cap ∧
      w.heap[b]? = some (.cells c t fr) ∧ (off + cap) * n ≤ c.size
  | .box _ _, _ => False
  | .dead, _ => True
def ptrK (off : Nat) (v : Value) : Blk → Nat → Prop
  | .box _ _, b => v = .pointer (some ⟨b, off, none⟩)
  | .arr _ _ _, _ => False
  | .dead, _ => True
def eptrK (i off : Nat) (v : Value) : Blk → Nat → Prop
  | .arr n _ _, b => v = .pointer (some ⟨b, i * n + off, none⟩)
  | .box _ _, _ => False
  | .dead, _ => True

mutual
def LRel (w : World) (M : Nat → Prop) (ρ : Nat → Nat) (mem : Mem) : L → Value → Prop
  | .p p, v => PRel w M p v
  | .sl s ver off len, v => v.oneCell' = true ∧ Here ρ mem s ver (slK w off len v)
  | .ptr s ver off, v => v.oneCell' = true ∧ Here ρ mem s ver (ptrK off v)
  | .eptr s ver i off, v => v.oneCell' = true ∧ Here ρ mem s ver (eptrK i off v)
  | .agg ls, v => ∃ vs, v = .agg vs ∧ LRels w M ρ mem ls vs.toList
  | .tup ls, v => ∃ vs, v = .tuple vs ∧ LRels w M ρ mem ls vs.toList
  | .clo f ls, v => ∃ vs, v = .func (.func f) #[] vs ∧ LRels w M ρ mem ls vs.toList
  | .undef, _ => True
def LRels (w : World) (M : Nat → Prop) (ρ : Nat → Nat) (mem : Mem) : List L → List Value → Prop
  | [], vs => vs = []
  | l :: ls, vs => ∃ v rest, vs = v :: rest ∧ LRel w M ρ mem l v ∧ LRels w M ρ mem ls rest
end

def Fits (w w' : World) (b : Nat) : Blk → Blk → Prop
  | _, .dead => True
  | .box _ _, .box _ _ => True
  | .arr n es _, .arr n' es' _ => n' = n ∧ es.length ≤ es'.length ∧
      ∀ c t fr, w.heap[b]? = some (.cells c t fr) → ∃ c' t' fr', w'.heap[b]? = some (.cells c' t' fr') ∧ c.size ≤ c'.size
  | _, _ => False

structure Tr (w : World) (M : Nat → Prop) (ρ : Nat → Nat) (mem : Mem) (w' : World) (M' : Nat → Prop) (ρ' : Nat → Nat) (mem' : Mem) : Prop where
  agree : Agree M w w'
  less : ∀ b, b < w.heap.size → M' b → M b
  site : ∀ s ver blk, look mem s = some (ver, blk) → ∃ ver' blk', look mem' s = some (ver', blk') ∧ ver ≤ ver' ∧
    (ver = ver' → ρ' s = ρ s ∧ Fits w w' (ρ s) blk blk')

theorem Fits.refl (w w' : World) (b : Nat) (blk : Blk) (h : blk.live = true → w'.heap[b]? = w.heap[b]?) : Fits w w' b blk blk := by
  cases blk with
  | box => trivial
  | dead => trivial
  | arr n es fz => exact ⟨rfl, Nat.le_refl _, fun c t fr hc => ⟨c, t, fr, by rw [h rfl]; exact hc, Nat.le_refl _⟩⟩

section
variable {w w' : World} {M M' : Nat → Prop} {ρ ρ' : Nat → Nat} {mem mem' : Mem}

theorem Here.move (tr : Tr w M ρ mem w' M' ρ' mem') {s ver : Nat} {K K' : Blk → Nat → Prop}
    (hk : ∀ blk blk', Fits w w' (ρ s) blk blk' → K blk (ρ s) → K' blk' (ρ s)) (h : Here ρ mem s ver K) : Here ρ' mem' s ver K' := by
  obtain ⟨v1, blk, hl, hle, hkk⟩ := h
  obtain ⟨v2, blk', hl', hle', hf⟩ := tr.site s v1 blk hl
  refine ⟨v2, blk', hl', Nat.le_trans hle hle', fun e => ?_⟩
  have e1 : v1 = v2 := by omega
  have e2 : ver = v1 := by omega
  obtain ⟨hr, hfit⟩ := hf e1
  rw [hr]
  exact hk _ _ hfit (hkk e2)

theorem slK.move (off len : Nat) (v : Value) (b : Nat) (blk blk' : Blk) (hf : Fits w w' b blk blk') (h : slK w off len v blk b) : slK w' off len v blk' b := by
  cases blk' with
  | dead => trivial
  | box => cases blk <;> simp_all [Fits, slK]
  | arr n es fz =>
    cases blk with
    | arr n0 es0 fz0 =>
      obtain ⟨rfl, hl, hc⟩ := hf
      obtain ⟨cap, c, t, fr, hv, h1, h2, h3, h4⟩ := h
      obtain ⟨c', t', fr', h5, h6⟩ := hc _ _ _ h3
      exact ⟨cap, c', t', fr', hv, by omega, h2, h5, by omega⟩
    | box => exact hf.elim
    | dead => exact hf.elim

theorem ptrK.move (off : Nat) (v : Value) (b : Nat) (blk blk' : Blk) (hf : Fits w w' b blk blk') (h : ptrK off v blk b) : ptrK off v blk' b := by
  cases blk' <;> cases blk <;> simp_all [Fits, ptrK]

theorem eptrK.move (i off : Nat) (v : Value) (b : Nat) (blk blk' : Blk) (hf : Fits w w' b blk blk') (h : eptrK i off v blk b) : eptrK i off v blk' b := by
  cases blk' <;> cases blk <;> simp_all [Fits, eptrK]

mutual
theorem LRel.move (tr : Tr w M ρ mem w' M' ρ' mem') : ∀ (l : L) (v : Value), LRel w M ρ mem l v → LRel w' M' ρ' mem' l v
  | .p p, v, h => by simp only [LRel] at h ⊢; exact h.move tr.agree tr.less
  | .sl s ver off len, v, h => by simp only [LRel] at h ⊢; exact ⟨h.1, h.2.move tr (fun _ _ hf hk => slK.move _ _ _ _ _ _ hf hk)⟩
  | .ptr s ver off, v, h => by simp only [LRel] at h ⊢; exact ⟨h.1, h.2.move tr (fun _ _ hf hk => ptrK.move _ _ _ _ _ hf hk)⟩
  | .eptr s ver i off, v, h => by simp only [LRel] at h ⊢; exact ⟨h.1, h.2.move tr (fun _ _ hf hk => eptrK.move _ _ _ _ _ _ hf hk)⟩
  | .agg ls, v, h => by simp only [LRel] at h ⊢; obtain ⟨vs, rfl, hr⟩ := h; exact ⟨vs, rfl, LRels.move tr ls _ hr⟩
  | .tup ls, v, h => by simp only [LRel] at h ⊢; obtain ⟨vs, rfl, hr⟩ := h; exact ⟨vs, rfl, LRels.move tr ls _ hr⟩
  | .clo f ls, v, h => by simp only [LRel] at h ⊢; obtain ⟨vs, rfl, hr⟩ := h; exact ⟨vs, rfl, LRels.move tr ls _ hr⟩
  | .undef, _, _ => by simp only [LRel]
theorem LRels.move (tr : Tr w M ρ mem w' M' ρ' mem') : ∀ (ls : List L) (vs : List Value), LRels w M ρ mem ls vs → LRels w' M' ρ' mem' ls vs
  | [], vs, h => by simpa [LRels] using h
  | l :: ls, vs, h => by
    simp only [LRels] at h ⊢
    obtain ⟨v, rest, rfl, h1, h2⟩ := h
    exact ⟨v, rest, rfl, LRel.move tr l v h1, LRels.move tr ls rest h2⟩
end
end

/-- nothing that was there before is turned, but for the blocks D -/
structure Keeps (D : List Nat) (w w' : World) : Prop where
  os : w'.os = w.os
  tape : w'.tape = w.tape
  output : w'.output = w.output
  size : w.heap.size ≤ w'.heap.size
  block : ∀ k, k < w.heap.size → k ∉ D → w'.heap[k]? = w.heap[k]?

theorem Keeps.refl (D : List Nat) (w : World) : Keeps D w w := ⟨rfl, rfl, rfl, Nat.le_refl _, fun _ _ _ => rfl⟩
theorem Keeps.trans {D : List Nat} {a b c : World} (h : Keeps D a b) (k : Keeps D b c) : Keeps D a c :=
  ⟨k.os.trans h.os, k.tape.trans h.tape, k.output.trans h.output, Nat.le_trans h.size k.size,
   fun i hi hd => (k.block i (Nat.lt_of_lt_of_le hi h.size) hd).trans (h.block i hi hd)⟩

def BRel (w : World) (M : Nat → Prop) (ρ : Nat → Nat) (mem : Mem) (b : Nat) : Blk → Prop
  | .box cs _ => ∃ c t, w.heap[b]? = some (.cells c t (0, 0)) ∧ LRels w M ρ mem cs c.toList
  | .arr n es _ => ∃ c t vs rest, w.heap[b]? = some (.cells c t (0, 0)) ∧ PElems w M n es vs ∧ c.toList = vs ++ rest
  | .dead => True

structure AS where
  env : List L
  mem : Mem

/-- the world of the entry, and the lent blocks: where they stand and which they are -/
structure Base extends World where
  pins : List (Nat × Nat)
instance : Coe Base World := ⟨Base.toWorld⟩

structure SR (M0 : Nat → Prop) (D : List Nat) (w0 : Base) (ρ : Nat → Nat) (σ : AS) (a : Act) (w : World) : Prop where
  defers : a.defers = []
  len : σ.env.length = a.tmps.size
  keeps : Keeps D w0 w
  base : ∀ b, M0 b → b < w0.heap.size ∧ b ∉ D
  own : ∀ b, b ∈ D → b < w0.heap.size
  lo : ∀ s ver blk, look σ.mem s = some (ver, blk) → blk.live = true → w0.heap.size ≤ ρ s ∨ ρ s ∈ D
  hi : ∀ s ver blk, look σ.mem s = some (ver, blk) → blk.live = true → ρ s < w.heap.size
  inj : ∀ s ver blk s' ver' blk', look σ.mem s = some (ver, blk) → blk.live = true → look σ.mem s' = some (ver', blk') → blk'.live = true → ρ s = ρ s' → s = s'
  blk : ∀ s ver b, look σ.mem s = some (ver, b) → BRel w (mutOf M0 ρ σ.mem) ρ σ.mem (ρ s) b
  env : ∀ i l, σ.env[i]? = some l → LRel w (mutOf M0 ρ σ.mem) ρ σ.mem l (a.tmps.getD i undef)
  pin : ∀ s b, (s, b) ∈ w0.pins → 900 ≤ s ∧ s < 1000 ∧ ∃ ver blk, look σ.mem s = some (ver, blk) ∧ (ver = 0 → blk.live = true → ρ s = b)

end Go.AW
namespace Go.AW

/-- an owned or a plain value in a cell -/
inductive O where
  | p (v : P)
  | own (n : Nat) (es : List P)
  deriving Inhabited
/-- an argument -/
inductive A where
  | v (p : P)
  | own (n : Nat) (es : List P)
  | box (cs : List O)
  deriving Inhabited
/-- a result -/
inductive R where
  | o (x : O)
  | agg (cs : List O)
  | box (cs : List O)
  | tup (rs : List R)
  deriving Inhabited

inductive X where
  | t (i : Nat)
  | c (p : P)
  | f (fn : FuncId)
  deriving Inhabited

inductive CK where
  | int (k : IntKind)
  | runeStr
  | bytesStr
  | strBytes
  | same

inductive AOp where
  | mov (x : X)
  | pick (c a b : X)
  | alloc (zero : List P)
  | box (n : Nat) (x : X)
  | build (zero : List P) (parts : List (Nat × Nat × X))
  | bslice (n len : Nat) (zero : P) (parts : List (Nat × X))
  | load (ag : Bool) (n : Nat) (a : X)
  | store (n : Nat) (a v : X)
  | nilc (x : X)
  | bin (op : BinOp) (x y : X)
  | beq (neg : Bool) (x y : X)
  | isnil (k : Nat) (neg : Bool) (x : X)
  | aeq (neg : Bool) (ks : List Nat) (x y : X)
  | un (op : UnOp) (x : X)
  | conv (k : CK) (x : X)
  | fn (f : FuncId) (caps : List X)
  | sstr (x : X) (lo hi : Option X)
  | slice (n : Nat) (x : X) (lo hi : Option X)
  | slice0 (n : Nat) (x : X)
  | cap (x : X)
  | dead
  | faddr (off : Nat) (x : X)
  | field (ag : Bool) (off n : Nat) (x : X)
  | iaddr (n : Nat) (x i : X)
  | index (x i : X)
  | extr (x : X) (i : Nat)
  | mks (n bytes : Nat) (zero : P) (l c : X)
  | len (str : Bool) (x : X)
  | app (n bytes : Nat) (x y : X)
  | copy (n : Nat) (x y : X)
  | clear (n : Nat) (zero : P) (x : X)
  | max (x y : X)
  | min (x y : X)
  | call (f : X) (args : List X) (keep own : Bool)

structure IOp where
  dst : Option Nat
  guard : Option (Nat × Bool)
  op : AOp

inductive IC where
  | skip
  | reg (ops : List IOp)
  | draw (ops : List IOp) (un : List (Nat × Nat))
  | seq (a b : IC)
  | ite (x : X) (a b : IC)
  | blk (id : Nat) (c : IC)
  | loop (live sites : List Nat) (c : IC)
  | exit (id : Nat)
  | ret

def ev (env : List L) : X → L
  | .t i => env.getD i .undef
  | .c p => .p p
  | .f fn => .clo fn []

def cellsOf : L → List L
  | .agg xs => xs
  | .p (.agg cs) => cs.map .p
  | l => [l]

mutual
def wk : P → P
  | .z n => .sl n []
  | .agg cs => .agg (wks cs)
  | p => p
def wks : List P → List P
  | [] => []
  | c :: cs => wk c :: wks cs
end

/-- what an operation does: its value, the blocks that it turns, the blocks that it looks at -/
structure Eff where
  val : L
  wr : List (Nat × Nat × Blk)
  rd : List Nat

/-- a value that lies in one cell -/
def isCell : L → Bool
  | .p (.agg _) => false
  | .p (.lit v) => v.oneCell'
  | .p _ => true
  | .sl _ _ _ _ => true
  | .ptr _ _ _ => true
  | .eptr _ _ _ _ => true
  | .clo _ _ => true
  | _ => false

def mkv (ag : Bool) (n : Nat) (xs : List L) : Option L :=
  if xs.length = n then (if ag then some (.agg xs) else xs.head?) else none

def splice {α : Type} (cs : List α) (off : Nat) (xs : List α) : List α := cs.take off ++ xs ++ cs.drop (off + xs.length)

def setIn (e : P) (off : Nat) (ps : List P) : Option P :=
  match e with
  | .agg cs => if off + ps.length ≤ cs.length then some (.agg (splice cs off ps)) else none
  | _ => match off, ps with
    | 0, [p] => some p
    | _, _ => none

/-- a block of elements, as a reference sees it -/
def arrAt (mem : Mem) (s ver : Nat) : Option (Nat × List P × Bool) :=
  match look mem s with
  | some (v, .arr n es fz) => if v = ver then some (n, es, fz) else none
  | _ => none
def boxAt (mem : Mem) (s ver : Nat) : Option (List L × Bool) :=
  match look mem s with
  | some (v, .box cs fz) => if v = ver then some (cs, fz) else none
  | _ => none
def nextVer (mem : Mem) (s : Nat) : Nat :=
  match look mem s with
  | some (v, _) => v + 1
  | none => 0

/-- a value as it reads now (and the blocks that it was read from) -/
def flat (mem : Mem) : L → Option (P × List Nat)
  | .p p => some (wk p, [])
  | .sl s ver off len => match arrAt mem s ver with
    | some (n, es, _) => if off + len ≤ es.length then some (.sl n ((es.drop off).take len), [s]) else none
    | none => none
  | _ => none
def flats (mem : Mem) : List L → Option (List P × List Nat)
  | [] => some ([], [])
  | l :: ls => match flat mem l, flats mem ls with
    | some (p, s), some (ps, ss) => some (p :: ps, s ++ ss)
    | _, _ => none
def capt (mem : Mem) : L → Option (P × List Nat)
  | .ptr s ver off => match boxAt mem s ver with
    | some (cs, _) => match flats mem cs with
      | some (ps, ss) => some (.ptr (ps.drop off), s :: ss)
      | none => none
    | none => none
  | l => flat mem l
def capts (mem : Mem) : List L → Option (List P × List Nat)
  | [] => some ([], [])
  | l :: ls => match capt mem l, capts mem ls with
    | some (p, s), some (ps, ss) => some (p :: ps, s ++ ss)
    | _, _ => none
def snap (mem : Mem) : L → Option (P × List Nat)
  | .agg xs => match flats mem xs with
    | some (ps, ss) => some (.agg ps, ss)
    | none => none
  | .clo f caps => match capts mem caps with
    | some (ps, ss) => some (.clo f ps, ss)
    | none => none
  | l => capt mem l

def fzBlk : Blk → Blk
  | .box cs _ => .box cs true
  | .arr n es _ => .arr n es true
  | .dead => .dead
def freeze (mem : Mem) (ss : List Nat) : List (Nat × Nat × Blk) :=
  ss.filterMap fun s => (look mem s).map fun (v, b) => (s, v, fzBlk b)

def u8s (es : List P) : Option (List UInt8) :=
  match es with
  | [] => some []
  | .int .u8 n :: es => (u8s es).map (UInt8.ofNat n.toNat :: ·)
  | _ => none

def elems (mem : Mem) (n : Nat) : L → Option (List P × List Nat)
  | .p (.sl m es) => if m = n then some (es, []) else none
  | .p (.z _) => some ([], [])
  | .p (.str l) => if n = 1 then some (l.map fun b => .int .u8 b.toNat, []) else none
  | .p (.lit (.slice _ 0 _)) => some ([], [])
  | .sl s ver off len => match arrAt mem s ver with
    | some (m, es, _) => if m = n ∧ off + len ≤ es.length then some ((es.drop off).take len, [s]) else none
    | none => none
  | _ => none

def binP (op : BinOp) : P → P → Option P
  | .int k x, .int k' y =>
    match op with
    | .shl => if y < 0 then none else some (.int k (k.wrap (x * 2 ^ (min y.toNat k.bits))))
    | .shr => if y < 0 then none else some (.int k (x.fdiv (2 ^ (min y.toNat k.bits))))
    | op => if k = k' then
      match op with
      | .add => some (.int k (k.wrap (x + y)))
      | .sub => some (.int k (k.wrap (x - y)))
      | .mul => some (.int k (k.wrap (x * y)))
      | .quo => if y = 0 then none else some (.int k (k.wrap (x.tdiv y)))
      | .rem => if y = 0 then none else some (.int k (x.tmod y))
      | .and => some (.int k (k.wrap (BitVec.ofInt k.bits x &&& BitVec.ofInt k.bits y).toNat))
      | .or => some (.int k (k.wrap (BitVec.ofInt k.bits x ||| BitVec.ofInt k.bits y).toNat))
      | .xor => some (.int k (k.wrap (BitVec.ofInt k.bits x ^^^ BitVec.ofInt k.bits y).toNat))
      | .eql => some (.bool (decide (x = y)))
      | .neq => some (.bool (decide (x ≠ y)))
      | .lss => some (.bool (decide (x < y)))
      | .leq => some (.bool (decide (x ≤ y)))
      | .gtr => some (.bool (decide (y < x)))
      | .geq => some (.bool (decide (y ≤ x)))
      | _ => none
      else none
  | .str x, .str y =>
    match op with
    | .add => if x.length + y.length ≤ 4611686018427387904 then some (.str (x ++ y)) else none
    | .eql => some (.bool (decide (x = y)))
    | .neq => some (.bool (decide (x ≠ y)))
    | .lss => some (.bool (Op.bytesLess x y))
    | .leq => some (.bool (Op.bytesLess x y || decide (x = y)))
    | .gtr => some (.bool (!(Op.bytesLess x y || decide (x = y))))
    | .geq => some (.bool (!Op.bytesLess x y))
    | _ => none
  | _, _ => none

def bound (lo : Option L) (d : Nat) : Option Int :=
  match lo with
  | none => some d
  | some (.p (.int _ j)) => some j
  | _ => none

def pureE (o : Option L) : Option Eff := o.map fun v => ⟨v, [], []⟩

def partsIn (env : List L) : List (Nat × Nat × X) → List L → Option (List L)
  | [], cs => some cs
  | (off, n, x) :: ps, cs =>
    let xs := cellsOf (ev env x)
    if xs.length = n ∧ off + n ≤ cs.length ∧ xs.all isCell = true then partsIn env ps (splice cs off xs) else none

def partsOf (env : List L) (mem : Mem) (n : Nat) : List (Nat × X) → List P → Option (List P × List Nat)
  | [], es => some (es, [])
  | (i, x) :: ps, es => match snap mem (ev env x) with
    | some (p, ss) => if p.cells.length = n ∧ i < es.length ∧ (cellsOf (ev env x)).all isCell = true then
        match partsOf env mem n ps (es.set i p) with
        | some (es', ss') => some (es', ss ++ ss')
        | none => none
      else none
    | none => none

def aggP : L → Option (List P)
  | .agg xs => go xs
  | .p (.agg cs) => some cs
  | _ => none
where go : List L → Option (List P)
  | [] => some []
  | .p p :: xs => (go xs).map (p :: ·)
  | _ :: _ => none

/-- are two rows of cells alike? -/
def eqCells : List Nat → List P → List P → Option Bool
  | [], _, _ => some true
  | 0 :: ks, .int k x :: xs, .int k' y :: ys => if k = k' then (eqCells ks xs ys).map (decide (x = y) && ·) else none
  | 1 :: ks, .str x :: xs, .str y :: ys => (eqCells ks xs ys).map (decide (x = y) && ·)
  | 2 :: ks, .bool x :: xs, .bool y :: ys => (eqCells ks xs ys).map ((x == y) && ·)
  | _, _, _ => none

/-- the operations that call nothing -/
def aop (σ : AS) (dst : Nat) : AOp → Option Eff
  | .mov x => pureE (some (ev σ.env x))
  | .pick c a b => match ev σ.env c with
    | .p (.bool t) => pureE (some (if t then ev σ.env a else ev σ.env b))
    | _ => none
  | .alloc zero => let v := nextVer σ.mem dst; some ⟨.ptr dst v 0, [(dst, v, .box (zero.map .p) false)], [dst]⟩
  | .box n x => let v := nextVer σ.mem dst
    let cs := cellsOf (ev σ.env x)
    if cs.length = n ∧ cs.all isCell = true then some ⟨.ptr dst v 0, [(dst, v, .box cs false)], [dst]⟩ else none
  | .build zero parts => pureE ((partsIn σ.env parts (zero.map .p)).map .agg)
  | .bslice n len zero parts => match partsOf σ.env σ.mem n parts (List.replicate len zero) with
    | some (es, ss) => let v := nextVer σ.mem dst
      some ⟨.sl dst v 0 len, freeze σ.mem ss ++ [(dst, v, .arr n es false)], dst :: ss⟩
    | none => none
  | .load ag n a => match ev σ.env a with
    | .ptr s ver off => match boxAt σ.mem s ver with
      | some (cs, _) => (mkv ag n ((cs.drop off).take n)).map fun v => ⟨v, [], [s]⟩
      | none => none
    | .eptr s ver i off => match arrAt σ.mem s ver with
      | some (_, es, _) => if i < es.length then
          (mkv ag n ((((es.getD i default).cells.drop off).take n).map .p)).map fun v => ⟨v, [], [s]⟩ else none
      | none => none
    | .p (.ptr cs) => pureE (mkv ag n ((cs.take n).map .p))
    | _ => none
  | .store n a v => match ev σ.env a with
    | .ptr s ver off => match boxAt σ.mem s ver with
      | some (cs, false) => let xs := cellsOf (ev σ.env v)
        if xs.length = n ∧ off + n ≤ cs.length ∧ xs.all isCell = true then some ⟨.undef, [(s, ver, .box (splice cs off xs) false)], [s]⟩ else none
      | _ => none
    | .eptr s ver i off => match arrAt σ.mem s ver with
      | some (m, es, false) => if i < es.length ∧ (cellsOf (ev σ.env v)).length = n ∧ (cellsOf (ev σ.env v)).all isCell = true then
          match flats σ.mem (cellsOf (ev σ.env v)) with
          | some (ps, ss) => if ss.contains s then none else
            match setIn (es.getD i default) off ps with
            | some e => if e.cells.length = m then some ⟨.undef, freeze σ.mem ss ++ [(s, ver, .arr m (es.set i e) false)], s :: ss⟩ else none
            | none => none
          | none => none
        else none
      | _ => none
    | _ => none
  | .nilc x => match ev σ.env x with
    | .ptr s ver off => (boxAt σ.mem s ver).map fun _ => ⟨.ptr s ver off, [], [s]⟩
    | .eptr s ver i off => (arrAt σ.mem s ver).map fun _ => ⟨.eptr s ver i off, [], [s]⟩
    | .p (.ptr cs) => pureE (some (.p (.ptr cs)))
    | _ => none
  | .bin op x y => match ev σ.env x, ev σ.env y with
    | .p x, .p y => pureE ((binP op x y).map .p)
    | _, _ => none
  | .beq neg x y => match ev σ.env x, ev σ.env y with
    | .p (.bool x), .p (.bool y) => pureE (some (.p (.bool (if neg then x != y else x == y))))
    | _, _ => none
  | .isnil k neg x => match k, ev σ.env x with
    | 0, .p .err => pureE (some (.p (.bool neg)))
    | 0, .p (.lit .nilIface) => pureE (some (.p (.bool !neg)))
    | 1, .ptr s ver _ => (boxAt σ.mem s ver).map fun _ => ⟨.p (.bool neg), [], [s]⟩
    | 1, .eptr s ver _ _ => (arrAt σ.mem s ver).map fun _ => ⟨.p (.bool neg), [], [s]⟩
    | 1, .p (.ptr _) => pureE (some (.p (.bool neg)))
    | 1, .p (.lit (.pointer none)) => pureE (some (.p (.bool !neg)))
    | 2, .p (.lit (.slice a _ _)) => pureE (some (.p (.bool (neg != a.isNone))))
    | 2, .p (.sl _ (_ :: _)) => pureE (some (.p (.bool neg)))
    | _, _ => none
  | .aeq neg ks x y => match aggP (ev σ.env x), aggP (ev σ.env y) with
    | some xs, some ys => pureE ((eqCells ks xs ys).map fun b => .p (.bool (neg != b)))
    | _, _ => none
  | .un op x => match op, ev σ.env x with
    | .not, .p (.bool b) => pureE (some (.p (.bool !b)))
    | .neg, .p (.int k n) => pureE (some (.p (.int k (k.wrap (0 - n)))))
    | _, _ => none
  | .conv k x => match k, ev σ.env x with
    | .int k, .p (.int _ n) => pureE (some (.p (.int k (k.wrap n))))
    | .runeStr, .p (.int _ n) => pureE (some (.p (.str (Utf8.encode n).data.toList)))
    | .same, .p (.str s) => pureE (some (.p (.str s)))
    | .bytesStr, l => match elems σ.mem 1 l with
      | some (es, ss) => match l with
        | .p (.str _) => none
        | _ => (u8s es).map fun s => ⟨.p (.str s), [], ss⟩
      | none => none
    | .strBytes, .p (.str s) => pureE (some (.p (.sl 1 (s.map fun b => .int .u8 b.toNat))))
    | _, _ => none
  | .fn f caps => pureE (some (.clo f (caps.map (ev σ.env))))
  | .sstr x lo hi => match ev σ.env x with
    | .p (.str s) => match bound (lo.map (ev σ.env)) 0, bound (hi.map (ev σ.env)) s.length with
      | some l, some h => if 0 ≤ l ∧ l ≤ h ∧ h ≤ s.length then pureE (some (.p (.str ((s.take h.toNat).drop l.toNat)))) else none
      | _, _ => none
    | _ => none
  | .slice n x lo hi => match ev σ.env x with
    | .sl s ver off len => match arrAt σ.mem s ver with
      | some (m, _, _) => match bound (lo.map (ev σ.env)) 0, bound (hi.map (ev σ.env)) len with
        | some l, some h => if m = n ∧ 0 ≤ l ∧ l ≤ h ∧ h ≤ len then
            (if l = h ∧ l ≠ 0 then some ⟨.p (.sl n []), [], [s]⟩ else some ⟨.sl s ver (off + l.toNat) (h.toNat - l.toNat), [], [s]⟩) else none
        | _, _ => none
      | none => none
    | .p (.sl m es) => match bound (lo.map (ev σ.env)) 0, bound (hi.map (ev σ.env)) es.length with
      | some l, some h => if m = n ∧ 0 ≤ l ∧ l ≤ h ∧ h ≤ es.length then pureE (some (.p (.sl n ((es.take h.toNat).drop l.toNat)))) else none
      | _, _ => none
    | .p (.z m) => match bound (lo.map (ev σ.env)) 0, bound (hi.map (ev σ.env)) 0 with
      | some l, some h => if l = 0 ∧ h = 0 then pureE (some (.p (.z m))) else none
      | _, _ => none
    | _ => none
  | .cap x => match ev σ.env x with
    | .p (.z _) => pureE (some (.p (.int .i64 0)))
    | _ => none
  | .dead => none
  | .slice0 n x => match ev σ.env x with
    | .sl s ver _ _ => match arrAt σ.mem s ver with
      | some _ => some ⟨.p (.z n), [], [s]⟩
      | none => none
    | .p (.sl _ _) => pureE (some (.p (.z n)))
    | .p (.z _) => pureE (some (.p (.z n)))
    | _ => none
  | .faddr o x => match ev σ.env x with
    | .ptr s ver off => (boxAt σ.mem s ver).map fun _ => ⟨.ptr s ver (off + o), [], [s]⟩
    | .eptr s ver i off => (arrAt σ.mem s ver).map fun _ => ⟨.eptr s ver i (off + o), [], [s]⟩
    | .p (.ptr cs) => pureE (some (.p (.ptr (cs.drop o))))
    | _ => none
  | .field ag off n x => match ev σ.env x with
    | .agg xs => pureE (mkv ag n ((xs.drop off).take n))
    | .p (.agg cs) => pureE (mkv ag n (((cs.map .p).drop off).take n))
    | _ => none
  | .iaddr n x i => match ev σ.env i with
    | .p (.int _ j) => match ev σ.env x with
      | .sl s ver off len => match arrAt σ.mem s ver with
        | some (m, _, _) => if m = n ∧ 0 ≤ j ∧ j < len then some ⟨.eptr s ver (off + j.toNat) 0, [], [s]⟩ else none
        | none => none
      | .p (.sl m es) => if m = n ∧ 0 ≤ j ∧ j < es.length then pureE (some (.p (.ptr (es.getD j.toNat default).cells))) else none
      | _ => none
    | _ => none
  | .index x i => match ev σ.env x, ev σ.env i with
    | .p (.str s), .p (.int _ j) => if 0 ≤ j ∧ j < s.length then pureE (some (.p (.int .u8 (s.getD j.toNat 0).toNat))) else none
    | _, _ => none
  | .extr x i => match ev σ.env x with
    | .tup xs => pureE xs[i]?
    | _ => none
  | .mks n bytes zero l c => match ev σ.env l, ev σ.env c with
    | .p (.int _ l), .p (.int _ c) => if 0 ≤ l ∧ l ≤ c ∧ c < 9223372036854775808 ∧ bytes * c ≤ 281474976710656 ∧ zero.cells.length = n then
        let v := nextVer σ.mem dst
        some ⟨.sl dst v 0 l.toNat, [(dst, v, .arr n (List.replicate l.toNat zero) false)], [dst]⟩ else none
    | _, _ => none
  | .len str x => match str, ev σ.env x with
    | false, .sl s ver _ len => (arrAt σ.mem s ver).map fun _ => ⟨.p (.int .i64 len), [], [s]⟩
    | false, .p (.sl _ es) => pureE (some (.p (.int .i64 es.length)))
    | false, .p (.z _) => pureE (some (.p (.int .i64 0)))
    | true, .p (.str s) => pureE (some (.p (.int .i64 s.length)))
    | _, _ => none
  | .app n bytes x y => match elems σ.mem n (ev σ.env y) with
    | some (ys, ss) => match ev σ.env x with
      | .sl s ver off len => match arrAt σ.mem s ver with
        | some (m, es, false) => if m = n ∧ off = 0 ∧ len = es.length ∧ (2 * (len + ys.length) + 512) * bytes ≤ 281474976710656 then
            some ⟨.sl s (ver + 1) 0 (len + ys.length), [(s, ver + 1, .arr n (es ++ ys) false)], s :: ss⟩ else none
        | _ => none
      | .p (.z _) => if ys = [] then some ⟨.p (.z n), [], ss⟩ else
          if (2 * ys.length + 512) * bytes ≤ 281474976710656 then
            let v := nextVer σ.mem dst
            some ⟨.sl dst v 0 ys.length, [(dst, v, .arr n ys false)], dst :: ss⟩ else none
      | _ => none
    | none => none
  | .copy n x y => match elems σ.mem n (ev σ.env y) with
    | some (ys, ss) => match ev σ.env x with
      | .sl s ver off len => match arrAt σ.mem s ver with
        | some (m, es, false) => if m = n ∧ off + len ≤ es.length then
            let k := min ys.length len
            some ⟨.p (.int .i64 k), [(s, ver, .arr n (splice es off (ys.take k)) false)], s :: ss⟩ else none
        | _ => none
      | .p (.sl _ []) => some ⟨.p (.int .i64 0), [], ss⟩
      | _ => none
    | none => none
  | .clear n zero x => match ev σ.env x with
    | .sl s ver off len => match arrAt σ.mem s ver with
      | some (m, es, false) => if m = n ∧ off + len ≤ es.length then
          some ⟨.undef, [(s, ver, .arr n (splice es off (List.replicate len zero)) false)], [s]⟩ else none
      | _ => none
    | .p (.sl _ []) => pureE (some .undef)
    | _ => none
  | .max x y => match ev σ.env x, ev σ.env y with
    | .p (.int k x), .p (.int _ y) => pureE (some (.p (.int k (if y > x then y else x))))
    | _, _ => none
  | .min x y => match ev σ.env x, ev σ.env y with
    | .p (.int k x), .p (.int _ y) => pureE (some (.p (.int k (if y < x then y else x))))
    | _, _ => none
  | .call _ _ _ _ => none

def putAll : Mem → List (Nat × Nat × Blk) → Mem
  | m, [] => m
  | m, (s, v, b) :: r => putAll (put m s v b) r

def setEnv (env : List L) : Option Nat → L → List L
  | some d, v => env.set d v
  | none, _ => env

def AS.after (σ : AS) (dst : Option Nat) (e : Eff) : AS := { env := setEnv σ.env dst e.val, mem := putAll σ.mem e.wr }

end Go.AW
namespace Go.AW

def toO (mem : Mem) : L → Option (O × List Nat × List Nat)
  | .sl s ver 0 len => match arrAt mem s ver with
    | some (n, es, false) => if len ≤ es.length then some (.own n (es.take len), [s], []) else none
    | some (n, es, true) => if len ≤ es.length then some (.p (.sl n (es.take len)), [], [s]) else none
    | none => none
  | .p (.z n) => some (.p (.z n), [], [])
  | l => match flat mem l with
    | some (p, ss) => some (.p p, [], ss)
    | none => none
def toOs (mem : Mem) : List L → Option (List O × List Nat × List Nat)
  | [] => some ([], [], [])
  | l :: ls => match toO mem l, toOs mem ls with
    | some (o, h, s), some (os, hs, ss) => some (o :: os, h ++ hs, s ++ ss)
    | _, _ => none
def toA (own : Bool) (mem : Mem) (l : L) : Option (A × List Nat × List Nat) :=
  match l with
  | .ptr s ver 0 => match boxAt mem s ver with
    | some (cs, false) => match toOs mem cs with
      | some (os, h, ss) => some (.box os, s :: h, ss)
      | none => none
    | _ => none
  | l => if own then match toO mem l with
      | some (.own n es, h, ss) => some (.own n es, h, ss)
      | some (.p p, h, ss) => some (.v p, h, ss)
      | none => none
    else match snap mem l with
      | some (p, ss) => some (.v p, [], ss)
      | none => none
def toAs (own : Bool) (mem : Mem) : List L → Option (List A × List Nat × List Nat)
  | [] => some ([], [], [])
  | l :: ls => match toA own mem l, toAs own mem ls with
    | some (o, h, s), some (os, hs, ss) => some (o :: os, h ++ hs, s ++ ss)
    | _, _ => none

def ofP : P → L
  | .agg cs => .agg (cs.map .p)
  | p => .p p

/-- an owned value becomes a block at 'site' (keep), or is left as it is for good -/
def fromO (keep : Bool) (mem : Mem) (site : Nat) : O → L × List (Nat × Nat × Blk)
  | .p p => (.p p, [])
  | .own n es => if keep then (.sl site (nextVer mem site) 0 es.length, [(site, nextVer mem site, .arr n es false)]) else (.p (.sl n es), [])
def fromOs (keep : Bool) (mem : Mem) (site : Nat) : List O → List L × List (Nat × Nat × Blk)
  | [] => ([], [])
  | o :: os => ((fromO keep mem site o).1 :: (fromOs keep mem (site + 1) os).1, (fromO keep mem site o).2 ++ (fromOs keep mem (site + 1) os).2)
def fromR1 (keep : Bool) (mem : Mem) (site : Nat) : R → L × List (Nat × Nat × Blk)
  | .o (.p p) => (ofP p, [])
  | .o x => fromO keep mem site x
  | .agg cs => (.agg (fromOs keep mem site cs).1, (fromOs keep mem site cs).2)
  | .box cs => (.ptr site (nextVer mem site) 0, (site, nextVer mem site, .box (fromOs keep mem (site + 1) cs).1 false) :: (fromOs keep mem (site + 1) cs).2)
  | .tup _ => (.undef, [])
def fromRs (keep : Bool) (mem : Mem) (site : Nat) : List R → List L × List (Nat × Nat × Blk)
  | [] => ([], [])
  | r :: rs => ((fromR1 keep mem site r).1 :: (fromRs keep mem (site + 16) rs).1, (fromR1 keep mem site r).2 ++ (fromRs keep mem (site + 16) rs).2)
def fromR (keep : Bool) (mem : Mem) (site : Nat) : R → L × List (Nat × Nat × Blk)
  | .tup rs => (.tup (fromRs keep mem site rs).1, (fromRs keep mem site rs).2)
  | r => fromR1 keep mem site r

/-- the blocks that were lent, as they come back -/
def backs (keep : Bool) (mem : Mem) : List L → List A → List (List O) → Option (List (Nat × Nat × Blk))
  | [], [], [] => some []
  | .ptr s ver _ :: ls, .box _ :: as, o :: outs => match backs keep mem ls as outs with
    | some r => some ((s, ver, .box (fromOs keep mem (1000 + 64 * s) o).1 false) :: (fromOs keep mem (1000 + 64 * s) o).2 ++ r)
    | none => none
  | _ :: ls, .v _ :: as, outs => backs keep mem ls as outs
  | _ :: ls, .own _ _ :: as, outs => backs keep mem ls as outs
  | _, _, _ => none

mutual
def litP : P → Bool
  | .sl _ _ => false
  | .ptr _ => false
  | .clo _ _ => false
  | .agg cs => litPs cs
  | _ => true
def litPs : List P → Bool
  | [] => true
  | c :: cs => litP c && litPs cs
end
def litO : O → Bool
  | .p p => litP p
  | .own _ _ => false
mutual
def litR : R → Bool
  | .o x => litO x
  | .agg cs => cs.all litO
  | .box _ => false
  | .tup rs => litRs rs
def litRs : List R → Bool
  | [] => true
  | r :: rs => litR r && litRs rs
end

def isBoxSite (mem : Mem) (s : Nat) : Bool :=
  match look mem s with
  | some (_, .box _ _) => true
  | _ => false
/-- slices that were handed over are gone -/
def gone (mem : Mem) (hs : List Nat) : List (Nat × Nat × Blk) :=
  (hs.filter fun s => !isBoxSite mem s).map fun s => (s, nextVer mem s, .dead)

def nodup (l : List Nat) : Bool := match l with
  | [] => true
  | x :: l => !l.contains x && nodup l

def callee (l : L) (args : List L) : Option (FuncId × List L) :=
  match l with
  | .clo f caps => some (f, args ++ caps)
  | .p (.clo f caps) => some (f, args ++ caps.map .p)
  | _ => none

def uniq : List Nat → List Nat
  | [] => []
  | x :: l => if l.contains x then uniq l else x :: uniq l
theorem mem_uniq : ∀ (l : List Nat) (s : Nat), s ∈ uniq l ↔ s ∈ l
  | [], s => Iff.rfl
  | x :: l, s => by
    simp only [uniq]
    split
    · rename_i h
      rw [mem_uniq l s, List.mem_cons]
      exact ⟨.inr, fun h' => h'.elim (fun e => e ▸ (by simpa using h)) id⟩
    · rw [List.mem_cons, List.mem_cons, mem_uniq l s]

/-- the blocks that a call turns -/
def callWr (mem : Mem) (dst : Nat) (keep : Bool) (hs ss : List Nat) (res : R) (outs : List (List O)) (bk : List (Nat × Nat × Blk)) : List (Nat × Nat × Blk) :=
  gone mem (hs.filter fun s => !((bk ++ (fromR keep mem (1000000 + 64 * dst) res).2).map (·.1)).contains s) ++ bk ++ (fromR keep mem (1000000 + 64 * dst) res).2 ++
    (if litR res && outs.all (·.all litO) then [] else freeze mem (uniq (ss.filter fun s => !((bk ++ (fromR keep mem (1000000 + 64 * dst) res).2).map (·.1)).contains s)))
def callOk (hs ss : List Nat) (wr : List (Nat × Nat × Blk)) : Bool := nodup hs && !hs.any (ss.contains ·) && nodup (wr.map (·.1))
/-- what a call does to the state, its results known -/
def callEff (mem : Mem) (dst : Nat) (keep : Bool) (ls : List L) (as : List A) (hs ss : List Nat) (res : R) (outs : List (List O)) : Option Eff :=
  match backs keep mem ls as outs with
  | none => none
  | some bk => if callOk hs ss (callWr mem dst keep hs ss res outs bk) then
      some ⟨(fromR keep mem (1000000 + 64 * dst) res).1, callWr mem dst keep hs ss res outs bk, hs ++ ss ++ (callWr mem dst keep hs ss res outs bk).map (·.1)⟩ else none

/-! ### relations for calls -/

def ORel (w : World) (M : Nat → Prop) : O → Value → List Nat → Prop
  | .p p, v, bs => bs = [] ∧ PRel w M p v
  | .own n es, v, bs => ∃ b cap c t vs rest, bs = [b] ∧ v = .slice (some ⟨b, 0, none⟩) es.length cap ∧ es.length ≤ cap ∧
      w.heap[b]? = some (.cells c t (0, 0)) ∧ cap * n ≤ c.size ∧ PElems w M n es vs ∧ c.toList = vs ++ rest
def ORels (w : World) (M : Nat → Prop) : List O → List Value → List Nat → Prop
  | [], vs, bs => vs = [] ∧ bs = []
  | o :: os, vs, bs => ∃ v rest b1 b2, vs = v :: rest ∧ bs = b1 ++ b2 ∧ ORel w M o v b1 ∧ ORels w M os rest b2
def BoxRel (w : World) (M : Nat → Prop) (os : List O) (v : Value) (bs : List Nat) : Prop :=
  ∃ b c t b2, v = .pointer (some ⟨b, 0, none⟩) ∧ w.heap[b]? = some (.cells c t (0, 0)) ∧ ORels w M os c.toList b2 ∧ bs = b :: b2
def ARel (w : World) (M : Nat → Prop) : A → Value → List Nat → Prop
  | .v p, v, bs => bs = [] ∧ PRel w M p v
  | .own n es, v, bs => ORel w M (.own n es) v bs
  | .box os, v, bs => BoxRel w M os v bs
def ARels (w : World) (M : Nat → Prop) : List A → List Value → List Nat → Prop
  | [], vs, bs => vs = [] ∧ bs = []
  | o :: os, vs, bs => ∃ v rest b1 b2, vs = v :: rest ∧ bs = b1 ++ b2 ∧ ARel w M o v b1 ∧ ARels w M os rest b2
mutual
def RRel (w : World) (M : Nat → Prop) : R → Value → List Nat → Prop
  | .o x, v, bs => ORel w M x v bs
  | .agg cs, v, bs => ∃ vs, v = .agg vs ∧ ORels w M cs vs.toList bs
  | .box os, v, bs => BoxRel w M os v bs
  | .tup rs, v, bs => ∃ vs, v = .tuple vs ∧ RRels w M rs vs.toList bs
def RRels (w : World) (M : Nat → Prop) : List R → List Value → List Nat → Prop
  | [], vs, bs => vs = [] ∧ bs = []
  | o :: os, vs, bs => ∃ v rest b1 b2, vs = v :: rest ∧ bs = b1 ++ b2 ∧ RRel w M o v b1 ∧ RRels w M os rest b2
end
/-- the lent blocks behind the call -/
def OutRel (w : World) (M : Nat → Prop) : List A → List Value → List (List O) → List Nat → Prop
  | [], _, outs, bs => outs = [] ∧ bs = []
  | .box _ :: as, vs, outs, bs => ∃ v rest o os b1 b2, vs = v :: rest ∧ outs = o :: os ∧ bs = b1 ++ b2 ∧ BoxRel w M o v b1 ∧ OutRel w M as rest os b2
  | .v _ :: as, vs, outs, bs => OutRel w M as vs.tail outs bs
  | .own _ _ :: as, vs, outs, bs => OutRel w M as vs.tail outs bs

/-- THE CONTRACT: called with these arguments the function returns this, in whatever memory -/
def RetC (Pg : Program) (f : FuncId) (args : List A) (res : R) (outs : List (List O)) : Prop :=
  ∀ (w : World) (M : Nat → Prop) (vals : List Value) (D : List Nat), ARels w (fun b => M b ∨ b ∈ D) args vals D → D.Nodup →
    (∀ b, b ∈ D → b < w.heap.size ∧ ¬ M b) → (∀ b, M b → b < w.heap.size) →
    Calls Pg f vals.toArray w fun e w' => ∃ v D1 D2, e = .returned v ∧ Keeps D w w' ∧
      OutRel w' (fun b => M b ∨ b ∈ D1 ++ D2) args vals outs D1 ∧ RRel w' (fun b => M b ∨ b ∈ D1 ++ D2) res v D2 ∧ (D1 ++ D2).Nodup ∧
      ∀ b, b ∈ D1 ++ D2 → b < w'.heap.size ∧ (w.heap.size ≤ b ∨ b ∈ D)

/-- a function with a text of its own -/
def Enter (Pg : Program) (f : FuncId) : Prop := ∃ fn, Pg.funcs[f]? = some fn ∧ (fn.name == "runtime.NumGoroutine") = false ∧ fn.body.isNone = false

def Ret (Pg : Program) (f : FuncId) (args : List A) (res : R) (outs : List (List O)) : Prop := Enter Pg f ∧ RetC Pg f args res outs

/-! ### what a text comes to -/

def step (Pg : Program) (σ : AS) (o : IOp) (K : Eff → AS → Prop) : Prop :=
  match o.op with
  | .call f xs keep own => ∃ fn ls as hs ss res outs e, callee (ev σ.env f) (xs.map (ev σ.env)) = some (fn, ls) ∧ toAs own σ.mem ls = some (as, hs, ss) ∧
      Ret Pg fn as res outs ∧ callEff σ.mem (o.dst.getD 0) keep ls as hs ss res outs = some e ∧ K e (σ.after o.dst e)
  | op => ∃ e, aop σ (o.dst.getD 0) op = some e ∧ K e (σ.after o.dst e)

/-- an operation that its guard leaves out -/
def skipped : Eff := ⟨.tup [], [], []⟩

/-- what a guard says: an operation that was itself left out yields nothing -/
def guardOf (l : L) (want : Bool) : Option Bool :=
  match l with
  | .p (.bool b) => some (b == want)
  | .tup [] => some false
  | _ => none

def stepG (Pg : Program) (σ : AS) (o : IOp) (K : Eff → AS → Prop) : Prop :=
  match o.guard with
  | none => step Pg σ o K
  | some (t, want) => ∃ b, guardOf (σ.env.getD t .undef) want = some b ∧ (if b = true then step Pg σ o K else K skipped (σ.after o.dst skipped))

def run (Pg : Program) : List IOp → AS → (AS → Prop) → Prop
  | [], σ, K => K σ
  | o :: os, σ, K => stepG Pg σ o fun _ σ' => run Pg os σ' K

def runD (Pg : Program) : List IOp → List Eff → AS → (List Eff → AS → Prop) → Prop
  | [], es, σ, K => K es σ
  | o :: os, es, σ, K => stepG Pg σ o fun e σ' => runD Pg os (es ++ [e]) σ' K

def Eff.apart (a b : Eff) : Bool :=
  (a.wr.all fun x => !(b.wr.map (·.1)).contains x.1 && !b.rd.contains x.1) && (b.wr.all fun x => !a.rd.contains x.1)

def indep (un : List (Nat × Nat)) (es : List Eff) : Bool :=
  un.all fun (i, j) => (es.getD i ⟨.undef, [], []⟩).apart (es.getD j ⟨.undef, [], []⟩)

inductive IE where
  | norm
  | exit (id : Nat)
  | ret
  deriving DecidableEq

mutual
def refs : L → List Nat
  | .sl s _ _ _ => [s]
  | .ptr s _ _ => [s]
  | .eptr s _ _ _ => [s]
  | .agg xs => refss xs
  | .tup xs => refss xs
  | .clo _ xs => refss xs
  | _ => []
def refss : List L → List Nat
  | [] => []
  | x :: xs => refs x ++ refss xs
end
def blkRefs : Blk → List Nat
  | .box cs _ => refss cs
  | _ => []

/-- at a loop's head what is dead is forgotten -/
def cleanEnv (live : List Nat) : Nat → List L → List L
  | _, [] => []
  | i, l :: ls => (if live.contains i then l else .undef) :: cleanEnv live (i + 1) ls
/-- the lent blocks stay at hand -/
def keptSite (sites : List Nat) (s : Nat) : Bool := sites.contains s || (decide (900 ≤ s) && decide (s < 1000))
/-- what is reached from these places, in k steps -/
def reach (mem : Mem) : Nat → List Nat → List Nat
  | 0, acc => acc
  | k + 1, acc => reach mem k (acc ++ mem.flatMap fun x => if acc.contains x.1 then blkRefs x.2.2 else [])
def clean (live sites : List Nat) (σ : AS) : Option AS :=
  let env := cleanEnv live 0 σ.env
  let ks := reach σ.mem 3 (sites ++ refss env)
  let mem := σ.mem.filter fun x => keptSite ks x.1
  if (refss env ++ mem.flatMap fun x => blkRefs x.2.2).all (keptSite ks ·) then some ⟨env, mem⟩ else none

def iter (body : (IE → AS → Prop) → AS → Prop) (live sites : List Nat) (Q : IE → AS → Prop) : Nat → AS → Prop
  | 0, _ => False
  | n + 1, σ => ∃ σ', clean live sites σ = some σ' ∧ body (fun e s => match e with | .norm => iter body live sites Q n s | e => Q e s) σ'

def awp (Pg : Program) : IC → (IE → AS → Prop) → AS → Prop
  | .skip, Q, σ => Q .norm σ
  | .reg ops, Q, σ => run Pg ops σ (Q .norm)
  | .draw ops un, Q, σ => runD Pg ops [] σ fun es s => indep un es = true ∧ Q .norm s
  | .seq a b, Q, σ => awp Pg a (fun e s => match e with | .norm => awp Pg b Q s | e => Q e s) σ
  | .ite x a b, Q, σ => ∃ t, ev σ.env x = .p (.bool t) ∧ (if t = true then awp Pg a Q σ else awp Pg b Q σ)
  | .blk id c, Q, σ => awp Pg c (fun e s => if e = .exit id then Q .norm s else Q e s) σ
  | .loop live sites c, Q, σ => ∃ n, iter (awp Pg c) live sites Q n σ
  | .exit id, Q, σ => Q (.exit id) σ
  | .ret, Q, σ => Q .ret σ

inductive RV where
  | t (i : Nat)
  | cell (ag : Bool) (n : Nat) (i : Nat)

structure IFn where
  ntmps : Nat
  res : List RV
  body : IC

def entry (i : Nat) : List A → List L × Mem
  | [] => ([], [])
  | .v p :: as => (ofP p :: (entry (i + 1) as).1, (entry (i + 1) as).2)
  | .own n es :: as => (.sl (900 + i) 0 0 es.length :: (entry (i + 1) as).1, (900 + i, 0, .arr n es false) :: (entry (i + 1) as).2)
  | .box os :: as => (.ptr (900 + i) 0 0 :: (entry (i + 1) as).1,
      (900 + i, 0, .box (fromOs true [] (1000 + 64 * (900 + i)) os).1 false) :: (fromOs true [] (1000 + 64 * (900 + i)) os).2 ++ (entry (i + 1) as).2)

def start (fn : IFn) (args : List A) : AS :=
  { env := (entry 0 args).1 ++ List.replicate (fn.ntmps - args.length) .undef, mem := (entry 0 args).2 }

def toR (mem : Mem) : L → Option (R × List Nat × List Nat)
  | .agg xs => match toOs mem xs with
    | some (os, h, s) => some (.agg os, h, s)
    | none => none
  | .ptr s ver 0 => match boxAt mem s ver with
    | some (cs, false) => match toOs mem cs with
      | some (os, h, ss) => some (.box os, s :: h, ss)
      | none => none
    | _ => none
  | l => match toO mem l with
    | some (o, h, s) => some (.o o, h, s)
    | none => none
def resOf (σ : AS) : RV → Option L
  | .t i => some (σ.env.getD i .undef)
  | .cell ag n i => match σ.env.getD i .undef with
    | .ptr s ver off => match boxAt σ.mem s ver with
      | some (cs, _) => mkv ag n ((cs.drop off).take n)
      | none => none
    | _ => none
def resRs (σ : AS) : List RV → Option (List R × List Nat × List Nat)
  | [] => some ([], [], [])
  | r :: rs => match resOf σ r, resRs σ rs with
    | some l, some (os, hs, ss) => match toR σ.mem l with
      | some (o, h, s) => some (o :: os, h ++ hs, s ++ ss)
      | none => none
    | _, _ => none
/-- the lent blocks at the end -/
def outsOf (mem : Mem) (i : Nat) : List A → Option (List (List O) × List Nat × List Nat)
  | [] => some ([], [], [])
  | .box _ :: as => match look mem (900 + i), outsOf mem (i + 1) as with
    | some (0, .box cs false), some (os, hs, ss) => match toOs mem cs with
      | some (o, h, s) => some (o :: os, (900 + i) :: (h ++ hs), s ++ ss)
      | none => none
    | _, _ => none
  | _ :: as => outsOf mem (i + 1) as

def finish (fn : IFn) (args : List A) (σ : AS) (res : R) (outs : List (List O)) : Prop :=
  ∃ rs hs ss os hs' ss', resRs σ fn.res = some (rs, hs, ss) ∧ outsOf σ.mem 0 args = some (os, hs', ss') ∧
    (nodup (hs' ++ hs) && !(hs' ++ hs).any ((ss' ++ ss).contains ·)) = true ∧ (match rs with | [r] => res = r | _ => res = .tup rs) ∧ outs = os

/-- what there is to show of a function -/
def Comes (Pg : Program) (fn : IFn) (args : List A) (res : R) (outs : List (List O)) : Prop :=
  awp Pg fn.body (fun e σ => match e with | .exit _ => False | _ => finish fn args σ res outs) (start fn args)

end Go.AW
namespace Go.AW

variable {M0 : Nat → Prop} {D : List Nat} {w0 : Base} {w w' : World} {ρ ρ' : Nat → Nat} {σ : AS} {a : Act}

def upd (ρ : Nat → Nat) (d b : Nat) : Nat → Nat := fun s => if s = d then b else ρ s

theorem setEnv_length (env : List L) (d : Option Nat) (l : L) : (setEnv env d l).length = env.length := by cases d <;> simp [setEnv]

theorem SR.setv (h : SR M0 D w0 ρ σ a w) (d : Option Nat) {l : L} {v : Value} (hl : LRel w (mutOf M0 ρ σ.mem) ρ σ.mem l v) :
    SR M0 D w0 ρ { σ with env := setEnv σ.env d l } (a.put d v) w := by
  cases d with
  | none => exact h
  | some d =>
    refine ⟨h.defers, by simp [setEnv, Act.put, h.len], h.keeps, h.base, h.own, h.lo, h.hi, h.inj, h.blk, fun i l' hi => ?_, h.pin⟩
    simp only [setEnv] at hi
    rw [List.getElem?_set] at hi
    by_cases e : d = i
    · subst e
      by_cases hlt : d < σ.env.length
      · simp only [hlt, if_true] at hi
        injection hi with hi; subst hi
        have : (a.put (some d) v).tmps.getD d undef = v := by
          simp [Act.put, Array.getD, ← h.len, hlt]
        rw [this]; exact hl
      · simp [hlt] at hi
    · simp only [e, if_false] at hi
      have : (a.put (some d) v).tmps.getD i undef = a.tmps.getD i undef := by
        simp [Act.put, Array.getD_eq_getD_getElem?, e]
      rw [this]; exact h.env i l' hi

theorem SR.turn (h : SR M0 D w0 ρ σ a w) {mem' : Mem} (tr : Tr w (mutOf M0 ρ σ.mem) ρ σ.mem w' (mutOf M0 ρ' mem') ρ' mem')
    (hk : Keeps D w0 w')
    (lo : ∀ s ver blk, look mem' s = some (ver, blk) → blk.live = true → w0.heap.size ≤ ρ' s ∨ ρ' s ∈ D)
    (hi : ∀ s ver blk, look mem' s = some (ver, blk) → blk.live = true → ρ' s < w'.heap.size)
    (inj : ∀ s ver blk s' ver' blk', look mem' s = some (ver, blk) → blk.live = true → look mem' s' = some (ver', blk') → blk'.live = true → ρ' s = ρ' s' → s = s')
    (hb : ∀ s ver b, look mem' s = some (ver, b) → BRel w' (mutOf M0 ρ' mem') ρ' mem' (ρ' s) b) :
    SR M0 D w0 ρ' { σ with mem := mem' } a w' :=
  ⟨h.defers, h.len, hk, h.base, h.own, lo, hi, inj, hb, fun i l hl => (h.env i l hl).move tr, fun s b hm => by
    obtain ⟨h1, h2, ver, blk, h3, h4⟩ := h.pin s b hm
    obtain ⟨ver', blk', h5, h6, h7⟩ := tr.site s ver blk h3
    refine ⟨h1, h2, ver', blk', h5, fun hv hl => ?_⟩
    have e : ver = ver' := by omega
    obtain ⟨h8, h9⟩ := h7 e
    rw [h8]
    refine h4 (e.trans hv) ?_
    cases blk <;> cases blk' <;> simp_all [Blk.live, Fits]⟩

theorem BRel.move {M M' : Nat → Prop} {mem mem' : Mem} (tr : Tr w M ρ mem w' M' ρ' mem') {b : Nat} {blk : Blk} (hs : blk.live = true → w'.heap[b]? = w.heap[b]?)
    (h : BRel w M ρ mem b blk) : BRel w' M' ρ' mem' b blk := by
  cases blk with
  | dead => trivial
  | box cs fz => obtain ⟨c, t, h1, h2⟩ := h; exact ⟨c, t, by rw [hs rfl]; exact h1, h2.move tr⟩
  | arr n es fz => obtain ⟨c, t, vs, rest, h1, h2, h3⟩ := h; exact ⟨c, t, vs, rest, by rw [hs rfl]; exact h1, h2.move tr.agree tr.less, h3⟩

theorem heap_alloc_old (w : World) (o : Obj) (k : Nat) (h : k < w.heap.size) : (w.alloc o).heap[k]? = w.heap[k]? := by
  show (w.heap.push o)[k]? = _
  rw [Array.getElem?_push, if_neg (by omega)]
theorem heap_alloc_new (w : World) (o : Obj) : (w.alloc o).heap[w.heap.size]? = some o := by
  show (w.heap.push o)[w.heap.size]? = _
  simp

theorem Keeps.alloc (h : Keeps D w0 w) (o : Obj) : Keeps D w0 (w.alloc o) :=
  ⟨h.os, h.tape, h.output, by have := h.size; simp; omega, fun k hk hd => by rw [heap_alloc_old _ _ _ (Nat.lt_of_lt_of_le hk h.size)]; exact h.block k hk hd⟩
theorem Keeps.drew (h : Keeps D w0 w) : Keeps D w0 w.drew := ⟨h.os, h.tape, h.output, h.size, h.block⟩
theorem Keeps.setRow (h : Keeps D w0 w) {g : Nat} (hg : w0.heap.size ≤ g ∨ g ∈ D) (cs : Array Value) : Keeps D w0 (w.setRow g cs) :=
  ⟨h.os, h.tape, h.output, by simpa using h.size, fun k hk hd => by
    rw [setRow_other _ _ _ _ (by rcases hg with hg | hg
                                 · omega
                                 · intro e; exact hd (e ▸ hg))]; exact h.block k hk hd⟩

/-- a draw turns nothing -/
theorem SR.drew (h : SR M0 D w0 ρ σ a w) : SR M0 D w0 ρ σ a w.drew := by
  have tr : Tr w (mutOf M0 ρ σ.mem) ρ σ.mem w.drew (mutOf M0 ρ σ.mem) ρ σ.mem :=
    ⟨⟨Nat.le_refl _, fun _ _ _ => rfl⟩, fun _ _ h => h, fun s ver blk hl => ⟨ver, blk, hl, Nat.le_refl _, fun _ => ⟨rfl, Fits.refl _ _ _ _ fun _ => rfl⟩⟩⟩
  exact h.turn tr h.keeps.drew h.lo h.hi h.inj fun s ver b hl => (h.blk s ver b hl).move tr fun _ => rfl

def NewRel (w : World) (M : Nat → Prop) (ρ : Nat → Nat) (mem : Mem) (c : Array Value) : Blk → Prop
  | .box cs _ => LRels w M ρ mem cs c.toList
  | .arr n es _ => ∃ vs rest, PElems w M n es vs ∧ c.toList = vs ++ rest
  | .dead => True

theorem tr_new (h : SR M0 D w0 ρ σ a w) (d : Nat) (blk : Blk) (o : Obj) :
    Tr w (mutOf M0 ρ σ.mem) ρ σ.mem (w.alloc o) (mutOf M0 (upd ρ d w.heap.size) (put σ.mem d (nextVer σ.mem d) blk)) (upd ρ d w.heap.size) (put σ.mem d (nextVer σ.mem d) blk) := by
  refine ⟨⟨by simp, fun b hb _ => heap_alloc_old _ _ _ hb⟩, fun b hb hm => ?_, fun s ver bk hl => ?_⟩
  · rcases hm with hm | ⟨s, ver, bk, hl, hmut, hr⟩
    · exact .inl hm
    · rw [look_put] at hl
      by_cases e : d = s
      · subst e; simp [upd] at hr; omega
      · simp only [e, if_false] at hl
        simp only [upd, Ne.symm e, if_false] at hr
        exact .inr ⟨s, ver, bk, hl, hmut, hr⟩
  · rw [look_put]
    by_cases e : d = s
    · subst e
      simp only [if_true]
      exact ⟨_, blk, rfl, by simp [nextVer, hl], fun hv => by simp [nextVer, hl] at hv⟩
    · simp only [e, if_false]
      exact ⟨ver, bk, hl, Nat.le_refl _, fun _ => ⟨by simp [upd, Ne.symm e], Fits.refl _ _ _ _ fun hlive => heap_alloc_old _ _ _ (h.hi s ver bk hl hlive)⟩⟩

/-- a new block -/
theorem SR.new (h : SR M0 D w0 ρ σ a w) (d : Nat) (blk : Blk) (c : Array Value) (t : TypeId) (hr : NewRel w (mutOf M0 ρ σ.mem) ρ σ.mem c blk) :
    SR M0 D w0 (upd ρ d w.heap.size) { σ with mem := put σ.mem d (nextVer σ.mem d) blk } a (w.alloc (.cells c t)) := by
  have tr := tr_new h d blk (.cells c t)
  have hlow := h.keeps.size
  refine h.turn tr (h.keeps.alloc _) (fun s ver bk hl hlv => ?_) (fun s ver bk hl hlv => ?_) (fun s ver bk s' ver' bk' hl hlv hl' hlv' he => ?_) (fun s ver bk hl => ?_)
  · rw [look_put] at hl
    by_cases e : d = s
    · subst e; left; simp [upd]; omega
    · simp only [e, if_false] at hl; simp only [upd, Ne.symm e, if_false]; exact h.lo s ver bk hl hlv
  · rw [look_put] at hl
    by_cases e : d = s
    · subst e; simp [upd]
    · simp only [e, if_false] at hl; simp only [upd, Ne.symm e, if_false]; have := h.hi s ver bk hl hlv; simp; omega
  · rw [look_put] at hl hl'
    by_cases e : d = s
    · by_cases e' : d = s'
      · exact e.symm.trans e'
      · simp only [e', if_false] at hl'
        simp only [upd, e, if_true] at he
        have := h.hi s' ver' bk' hl' hlv'
        subst e
        simp [Ne.symm e'] at he
        omega
    · by_cases e' : d = s'
      · simp only [e, if_false] at hl
        have := h.hi s ver bk hl hlv
        subst e'
        simp [upd, Ne.symm e] at he
        omega
      · simp only [e, e', if_false] at hl hl'
        simp only [upd, Ne.symm e, Ne.symm e', if_false] at he
        exact h.inj s ver bk s' ver' bk' hl hlv hl' hlv' he
  · rw [look_put] at hl
    by_cases e : d = s
    · subst e
      simp only [if_true] at hl
      injection hl with hl; injection hl with h1 h2; subst h1; subst h2
      have hu : upd ρ d w.heap.size d = w.heap.size := by simp [upd]
      rw [hu]
      cases blk with
      | dead => trivial
      | box cs fz => exact ⟨c, t, heap_alloc_new _ _, LRels.move tr _ _ hr⟩
      | arr n es fz => obtain ⟨vs, rest, h1, h2⟩ := hr; exact ⟨c, t, vs, rest, heap_alloc_new _ _, PElems.move tr.agree tr.less _ _ _ h1, h2⟩
    · simp only [e, if_false] at hl
      have hu : upd ρ d w.heap.size s = ρ s := by simp [upd, Ne.symm e]
      rw [hu]
      exact (h.blk s ver bk hl).move tr fun hlv => heap_alloc_old _ _ _ (h.hi s ver bk hl hlv)

/-- a block of the call's own is written -/
theorem SR.write (h : SR M0 D w0 ρ σ a w) {s ver ver' : Nat} {blk blk' : Blk} (hl : look σ.mem s = some (ver, blk)) (hm : blk.mut = true) (hm' : blk'.mut = true)
    (hv : ver ≤ ver') {c : Array Value} {t : TypeId} (hc : w.heap[ρ s]? = some (.cells c t (0, 0))) (c' : Array Value) (hsz : c'.size = c.size)
    (hf : ver = ver' → Fits w w (ρ s) blk blk') (hr : NewRel w (mutOf M0 ρ σ.mem) ρ σ.mem c' blk') :
    SR M0 D w0 ρ { σ with mem := put σ.mem s ver' blk' } a (w.setRow (ρ s) c') := by
  have live : ∀ b : Blk, b.mut = true → b.live = true := fun b => by cases b <;> simp [Blk.mut, Blk.live]
  have hnew := setRow_heap w (ρ s) c c' t (0, 0) hc
  have hlt : ρ s < w.heap.size := h.hi s ver blk hl (live _ hm)
  have other : ∀ s' ver1 bk, s ≠ s' → look σ.mem s' = some (ver1, bk) → bk.live = true → ρ s' ≠ ρ s := fun s' v1 bk hne hl' hlv he =>
    hne (h.inj s ver blk s' v1 bk hl (live _ hm) hl' hlv he.symm)
  have tr : Tr w (mutOf M0 ρ σ.mem) ρ σ.mem (w.setRow (ρ s) c') (mutOf M0 ρ (put σ.mem s ver' blk')) ρ (put σ.mem s ver' blk') := by
    refine ⟨⟨by simp, fun b _ hb => setRow_other _ _ _ _ fun e => hb (.inr ⟨s, ver, blk, hl, hm, e.symm⟩)⟩, fun b _ hmm => ?_, fun s1 ver1 bk hl1 => ?_⟩
    · rcases hmm with hmm | ⟨s1, ver1, bk, hl1, hmut, hr1⟩
      · exact .inl hmm
      · rw [look_put] at hl1
        by_cases e : s = s1
        · subst e; exact .inr ⟨s, ver, blk, hl, hm, hr1⟩
        · simp only [e, if_false] at hl1; exact .inr ⟨s1, ver1, bk, hl1, hmut, hr1⟩
    · rw [look_put]
      by_cases e : s = s1
      · subst e
        rw [hl] at hl1
        injection hl1 with hl1; injection hl1 with h1 h2; subst h1; subst h2
        simp only [if_true]
        refine ⟨ver', blk', rfl, hv, fun he => ⟨trivial, ?_⟩⟩
        have hfit := hf he
        cases blk' with
        | dead => trivial
        | box => cases blk <;> simp_all [Fits]
        | arr n es fz =>
          cases blk with
          | arr n0 es0 fz0 =>
            obtain ⟨e1, e2, _⟩ := hfit
            refine ⟨e1, e2, fun c1 t1 fr1 hc1 => ⟨c', t, (0, 0), hnew, ?_⟩⟩
            rw [hc] at hc1
            injection hc1 with hc1; injection hc1 with hc1; subst hc1; omega
          | box => exact hfit.elim
          | dead => exact hfit.elim
      · simp only [e, if_false]
        exact ⟨ver1, bk, hl1, Nat.le_refl _, fun _ => ⟨trivial, Fits.refl _ _ _ _ fun hlv => setRow_other _ _ _ _ (other s1 ver1 bk e hl1 hlv)⟩⟩
  refine h.turn tr (h.keeps.setRow (h.lo s ver blk hl (live _ hm)) _) (fun s1 v1 bk hl1 hlv => ?_) (fun s1 v1 bk hl1 hlv => ?_) (fun s1 v1 bk s2 v2 bk2 hl1 hlv1 hl2 hlv2 he => ?_) (fun s1 v1 bk hl1 => ?_)
  · rw [look_put] at hl1
    by_cases e : s = s1
    · subst e; exact h.lo s ver blk hl (live _ hm)
    · simp only [e, if_false] at hl1; exact h.lo s1 v1 bk hl1 hlv
  · rw [look_put] at hl1
    simp only [setRow_size]
    by_cases e : s = s1
    · subst e; exact hlt
    · simp only [e, if_false] at hl1; exact h.hi s1 v1 bk hl1 hlv
  · have get : ∀ s1 v1 bk, look (put σ.mem s ver' blk') s1 = some (v1, bk) → bk.live = true → ∃ v0 b0, look σ.mem s1 = some (v0, b0) ∧ b0.live = true := by
      intro s1 v1 bk hl1 hlv
      rw [look_put] at hl1
      by_cases e : s = s1
      · subst e; exact ⟨ver, blk, hl, live _ hm⟩
      · simp only [e, if_false] at hl1; exact ⟨v1, bk, hl1, hlv⟩
    obtain ⟨_, _, g1, g2⟩ := get s1 v1 bk hl1 hlv1
    obtain ⟨_, _, g3, g4⟩ := get s2 v2 bk2 hl2 hlv2
    exact h.inj _ _ _ _ _ _ g1 g2 g3 g4 he
  · rw [look_put] at hl1
    by_cases e : s = s1
    · subst e
      simp only [if_true] at hl1
      injection hl1 with hl1; injection hl1 with h1 h2; subst h1; subst h2
      cases blk' with
      | dead => trivial
      | box cs fz => exact ⟨c', t, hnew, LRels.move tr _ _ hr⟩
      | arr n es fz => obtain ⟨vs, rest, h1, h2⟩ := hr; exact ⟨c', t, vs, rest, hnew, PElems.move tr.agree tr.less _ _ _ h1, h2⟩
    · simp only [e, if_false] at hl1
      exact (h.blk s1 v1 bk hl1).move tr fun hlv => setRow_other _ _ _ _ (other s1 v1 bk e hl1 hlv)

end Go.AW
namespace Go.AW

variable {M0 M M' : Nat → Prop} {D : List Nat} {w0 : Base} {w w' : World} {ρ ρ' : Nat → Nat} {σ : AS} {a : Act}

theorem PElems_len {n : Nat} : ∀ {es : List P} {vs : List Value}, PElems w M n es vs → vs.length = es.length * n
  | [], _, h => by simp [PElems] at h; simp [h]
  | e :: es, vs, h => by
    simp only [PElems] at h
    obtain ⟨c, rest, rfl, hl, _, _, h2⟩ := h
    have := PElems_len h2
    simp [hl, this, Nat.succ_mul]; omega

theorem PElems_drop {n : Nat} : ∀ (k : Nat) {es : List P} {vs : List Value}, PElems w M n es vs → PElems w M n (es.drop k) (vs.drop (k * n))
  | 0, _, _, h => by simpa using h
  | k + 1, [], _, h => by simp [PElems] at h ⊢; simp [h]
  | k + 1, e :: es, vs, h => by
    simp only [PElems] at h
    obtain ⟨c, rest, rfl, hl, _, _, h2⟩ := h
    have := PElems_drop k h2
    have e1 : (c ++ rest).drop ((k + 1) * n) = rest.drop (k * n) := by
      rw [List.drop_append, List.drop_of_length_le (by rw [hl, Nat.succ_mul]; omega), List.nil_append]
      congr 1; rw [hl, Nat.succ_mul]; omega
    rw [e1]; exact this

theorem PElems_take {n : Nat} : ∀ (k : Nat) {es : List P} {vs : List Value}, PElems w M n es vs → PElems w M n (es.take k) (vs.take (k * n))
  | 0, _, _, _ => by simp [PElems]
  | k + 1, [], _, h => by simp [PElems] at h ⊢; simp [h]
  | k + 1, e :: es, vs, h => by
    simp only [PElems] at h
    obtain ⟨c, rest, rfl, hl, ho, he, h2⟩ := h
    have := PElems_take k h2
    have e1 : (c ++ rest).take ((k + 1) * n) = c ++ rest.take (k * n) := by
      rw [List.take_append, List.take_of_length_le (by rw [hl, Nat.succ_mul]; omega)]
      congr 2; rw [hl, Nat.succ_mul]; omega
    rw [e1]
    simp only [List.take_succ_cons, PElems]
    exact ⟨c, _, rfl, hl, ho, he, this⟩

theorem PElems_app {n : Nat} : ∀ {es : List P} {vs : List Value} {es' : List P} {vs' : List Value}, PElems w M n es vs → PElems w M n es' vs' → PElems w M n (es ++ es') (vs ++ vs')
  | [], vs, _, _, h, h' => by simp [PElems] at h; subst h; simpa using h'
  | e :: es, vs, _, _, h, h' => by
    simp only [PElems] at h
    obtain ⟨c, rest, rfl, hl, ho, he, h2⟩ := h
    have := PElems_app h2 h'
    simp only [List.cons_append, PElems]
    exact ⟨c, _, by simp, hl, ho, he, this⟩

theorem PElems_one {n : Nat} {e : P} {c : List Value} (hl : c.length = n) (ho : ∀ v ∈ c, v.oneCell' = true) (he : PElem w M e c) : PElems w M n [e] c := by
  simp only [PElems]
  exact ⟨c, [], by simp, hl, ho, he, rfl⟩

theorem PElems_split {n : Nat} {es : List P} {vs : List Value} (h : PElems w M n es vs) {i : Nat} (hi : i < es.length) :
    ∃ c, c = (vs.drop (i * n)).take n ∧ c.length = n ∧ (∀ v ∈ c, v.oneCell' = true) ∧ PElem w M (es.getD i default) c ∧ vs = vs.take (i * n) ++ c ++ vs.drop ((i + 1) * n) := by
  have h1 := PElems_drop i h
  rw [List.drop_eq_getElem_cons hi] at h1
  simp only [PElems] at h1
  obtain ⟨c, rest, he, hl, ho, hp, h2⟩ := h1
  have ec : (vs.drop (i * n)).take n = c := by rw [he, List.take_append_of_le_length (by omega), List.take_of_length_le (by omega)]
  refine ⟨c, ec.symm, hl, ho, by simpa [List.getD, hi] using hp, ?_⟩
  have er : vs.drop ((i + 1) * n) = rest := by
    have : vs.drop ((i + 1) * n) = (vs.drop (i * n)).drop n := by rw [List.drop_drop]; congr 1; rw [Nat.succ_mul]
    rw [this, he, List.drop_append_of_le_length (by omega), List.drop_of_length_le (by omega)]; simp
  rw [er, List.append_assoc, ← he, List.take_append_drop]

theorem PElems_set {n : Nat} {es : List P} {vs : List Value} (h : PElems w M n es vs) {i : Nat} (hi : i < es.length) {e : P} {c : List Value}
    (hl : c.length = n) (ho : ∀ v ∈ c, v.oneCell' = true) (he : PElem w M e c) : PElems w M n (es.set i e) (vs.take (i * n) ++ c ++ vs.drop ((i + 1) * n)) := by
  have e1 : es.set i e = es.take i ++ [e] ++ es.drop (i + 1) := by simp [List.set_eq_take_append_cons_drop, hi]
  rw [e1]
  exact PElems_app (PElems_app (PElems_take i h) (PElems_one hl ho he)) (PElems_drop (i + 1) h)

theorem PElems_replicate {n : Nat} {e : P} {c : List Value} (hl : c.length = n) (ho : ∀ v ∈ c, v.oneCell' = true) (he : PElem w M e c) :
    ∀ k, PElems w M n (List.replicate k e) (List.replicate k c).flatten
  | 0 => by simp [PElems]
  | k + 1 => by
    simp only [List.replicate_succ, List.flatten_cons, PElems]
    exact ⟨c, _, rfl, hl, ho, he, PElems_replicate hl ho he k⟩

theorem PElems_splice {n : Nat} {es xs : List P} {vs us : List Value} (h : PElems w M n es vs) (hx : PElems w M n xs us) {off : Nat} :
    PElems w M n (splice es off xs) (vs.take (off * n) ++ us ++ vs.drop ((off + xs.length) * n)) :=
  PElems_app (PElems_app (PElems_take off h) hx) (PElems_drop _ h)

theorem PRels_len : ∀ {cs : List P} {vs : List Value}, PRels w M cs vs → vs.length = cs.length
  | [], _, h => by simp [PRels] at h; simp [h]
  | c :: cs, vs, h => by
    simp only [PRels] at h; obtain ⟨v, rest, rfl, _, h2⟩ := h; simp [PRels_len h2]
theorem PRels_drop : ∀ (k : Nat) {cs : List P} {vs : List Value}, PRels w M cs vs → PRels w M (cs.drop k) (vs.drop k)
  | 0, _, _, h => by simpa using h
  | k + 1, [], _, h => by simp [PRels] at h ⊢; simp [h]
  | k + 1, c :: cs, vs, h => by
    simp only [PRels] at h; obtain ⟨v, rest, rfl, _, h2⟩ := h; simpa using PRels_drop k h2
theorem PRels_take : ∀ (k : Nat) {cs : List P} {vs : List Value}, PRels w M cs vs → PRels w M (cs.take k) (vs.take k)
  | 0, _, _, _ => by simp [PRels]
  | k + 1, [], _, h => by simp [PRels] at h ⊢; simp [h]
  | k + 1, c :: cs, vs, h => by
    simp only [PRels] at h; obtain ⟨v, rest, rfl, h1, h2⟩ := h
    simp only [List.take_succ_cons, PRels]; exact ⟨v, _, rfl, h1, PRels_take k h2⟩
theorem PRels_app : ∀ {cs : List P} {vs : List Value} {cs' : List P} {vs' : List Value}, PRels w M cs vs → PRels w M cs' vs' → PRels w M (cs ++ cs') (vs ++ vs')
  | [], vs, _, _, h, h' => by simp [PRels] at h; subst h; simpa using h'
  | c :: cs, vs, _, _, h, h' => by
    simp only [PRels] at h; obtain ⟨v, rest, rfl, h1, h2⟩ := h
    simp only [List.cons_append, PRels]; exact ⟨v, _, rfl, h1, PRels_app h2 h'⟩

section
variable {mem : Mem}
theorem LRels_len : ∀ {cs : List L} {vs : List Value}, LRels w M ρ mem cs vs → vs.length = cs.length
  | [], _, h => by simp [LRels] at h; simp [h]
  | c :: cs, vs, h => by
    simp only [LRels] at h; obtain ⟨v, rest, rfl, _, h2⟩ := h; simp [LRels_len h2]
theorem LRels_drop : ∀ (k : Nat) {cs : List L} {vs : List Value}, LRels w M ρ mem cs vs → LRels w M ρ mem (cs.drop k) (vs.drop k)
  | 0, _, _, h => by simpa using h
  | k + 1, [], _, h => by simp [LRels] at h ⊢; simp [h]
  | k + 1, c :: cs, vs, h => by
    simp only [LRels] at h; obtain ⟨v, rest, rfl, _, h2⟩ := h; simpa using LRels_drop k h2
theorem LRels_take : ∀ (k : Nat) {cs : List L} {vs : List Value}, LRels w M ρ mem cs vs → LRels w M ρ mem (cs.take k) (vs.take k)
  | 0, _, _, _ => by simp [LRels]
  | k + 1, [], _, h => by simp [LRels] at h ⊢; simp [h]
  | k + 1, c :: cs, vs, h => by
    simp only [LRels] at h; obtain ⟨v, rest, rfl, h1, h2⟩ := h
    simp only [List.take_succ_cons, LRels]; exact ⟨v, _, rfl, h1, LRels_take k h2⟩
theorem LRels_app : ∀ {cs : List L} {vs : List Value} {cs' : List L} {vs' : List Value}, LRels w M ρ mem cs vs → LRels w M ρ mem cs' vs' → LRels w M ρ mem (cs ++ cs') (vs ++ vs')
  | [], vs, _, _, h, h' => by simp [LRels] at h; subst h; simpa using h'
  | c :: cs, vs, _, _, h, h' => by
    simp only [LRels] at h; obtain ⟨v, rest, rfl, h1, h2⟩ := h
    simp only [List.cons_append, LRels]; exact ⟨v, _, rfl, h1, LRels_app h2 h'⟩
theorem LRels_P : ∀ (ps : List P) (vs : List Value), LRels w M ρ mem (ps.map .p) vs ↔ PRels w M ps vs
  | [], vs => by simp [LRels, PRels]
  | p :: ps, vs => by simp only [List.map_cons, LRels, PRels, LRel, LRels_P ps]
theorem LRels_get : ∀ {cs : List L} {vs : List Value}, LRels w M ρ mem cs vs → ∀ (i : Nat) (l : L), cs[i]? = some l → ∃ v, vs[i]? = some v ∧ LRel w M ρ mem l v
  | [], _, _, i, l, hi => by simp at hi
  | c :: cs, vs, h, 0, l, hi => by
    simp only [LRels] at h; obtain ⟨v, rest, rfl, h1, h2⟩ := h
    simp at hi; subst hi; exact ⟨v, by simp, h1⟩
  | c :: cs, vs, h, i + 1, l, hi => by
    simp only [LRels] at h; obtain ⟨v, rest, rfl, h1, h2⟩ := h
    simpa using LRels_get h2 i l (by simpa using hi)

/-- a value of one cell -/
theorem isCell_one {l : L} {v : Value} (h : LRel w M ρ mem l v) (hc : isCell l = true) : v.oneCell' = true := by
  cases l with
  | p p =>
    cases p <;> simp only [LRel, PRel] at h
    case int => subst h; rfl
    case bool => subst h; rfl
    case str => subst h; rfl
    case lit => subst h; simpa [isCell] using hc
    case err => obtain ⟨t, u, rfl⟩ := h; rfl
    case z => obtain ⟨a, rfl⟩ := h; rfl
    case sl => obtain ⟨a, cap, vs, rfl, _⟩ := h; rfl
    case agg => simp [isCell] at hc
    case ptr => obtain ⟨ad, vs, rfl, _⟩ := h; rfl
    case clo => obtain ⟨vs, rfl, _⟩ := h; rfl
  | sl s ver off len => simp only [LRel] at h; exact h.1
  | ptr s ver off => simp only [LRel] at h; exact h.1
  | eptr s ver i off => simp only [LRel] at h; exact h.1
  | agg xs => simp [isCell] at hc
  | tup xs => simp [isCell] at hc
  | clo f xs => simp only [LRel] at h; obtain ⟨vs, rfl, _⟩ := h; rfl
  | undef => simp [isCell] at hc

theorem cells_of_one {v : Value} (h : v.oneCell' = true) : v.cells.toList = [v] := by
  cases v <;> simp_all [Value.cells, Value.oneCell']

theorem isCells_one : ∀ {ls : List L} {vs : List Value}, LRels w M ρ mem ls vs → ls.all isCell = true → ∀ u ∈ vs, u.oneCell' = true
  | [], _, h, _ => by simp [LRels] at h; simp [h]
  | l :: ls, vs, h, hc => by
    simp only [LRels] at h; obtain ⟨v, rest, rfl, h1, h2⟩ := h
    simp only [List.all_cons, Bool.and_eq_true] at hc
    intro u hu
    rcases List.mem_cons.1 hu with rfl | hu
    · exact isCell_one h1 hc.1
    · exact isCells_one h2 hc.2 u hu

theorem cells_rel {l : L} {v : Value} (h : LRel w M ρ mem l v) (hc : (cellsOf l).all isCell = true) :
    LRels w M ρ mem (cellsOf l) v.cells.toList ∧ ∀ u ∈ v.cells.toList, u.oneCell' = true := by
  have one : isCell l = true → cellsOf l = [l] → LRels w M ρ mem (cellsOf l) v.cells.toList ∧ ∀ u ∈ v.cells.toList, u.oneCell' = true := by
    intro h1 h2
    have h3 := isCell_one h h1
    rw [h2, cells_of_one h3]
    exact ⟨by simpa [LRels] using h, by simpa using h3⟩
  cases l with
  | agg xs =>
    simp only [LRel] at h; obtain ⟨vs, rfl, h⟩ := h
    have h' : LRels w M ρ mem (cellsOf (.agg xs)) (Value.agg vs).cells.toList := by simpa [cellsOf, Value.cells] using h
    exact ⟨h', isCells_one h' hc⟩
  | p p =>
    cases p with
    | agg cs =>
      simp only [LRel, PRel] at h; obtain ⟨vs, rfl, h⟩ := h
      have h' : LRels w M ρ mem (cellsOf (.p (.agg cs))) (Value.agg vs).cells.toList := by simpa [cellsOf, Value.cells, LRels_P] using h
      exact ⟨h', isCells_one h' hc⟩
    | _ => exact one (by simpa [cellsOf] using hc) rfl
  | _ => exact one (by simpa [cellsOf] using hc) rfl
end
end Go.AW
namespace Go.AW

variable {M0 M M' : Nat → Prop} {D : List Nat} {w0 : Base} {w w' : World} {ρ ρ' : Nat → Nat} {σ : AS} {a : Act}

mutual
theorem wk_rel : ∀ (p : P) (v : Value), PRel w M p v → PRel w M (wk p) v
  | .z n, v, h => by
    simp only [PRel] at h; obtain ⟨a, rfl⟩ := h
    simp only [wk, PRel]
    exact ⟨a, 0, [], rfl, Nat.le_refl _, rfl, fun h => absurd rfl h⟩
  | .agg cs, v, h => by
    simp only [PRel] at h; obtain ⟨vs, rfl, h⟩ := h
    simp only [wk, PRel]; exact ⟨vs, rfl, wks_rel cs _ h⟩
  | .int _ _, _, h => by simpa only [wk] using h
  | .bool _, _, h => by simpa only [wk] using h
  | .str _, _, h => by simpa only [wk] using h
  | .lit _, _, h => by simpa only [wk] using h
  | .err, _, h => by simpa only [wk] using h
  | .sl _ _, _, h => by simpa only [wk] using h
  | .ptr _, _, h => by simpa only [wk] using h
  | .clo _ _, _, h => by simpa only [wk] using h
theorem wks_rel : ∀ (ps : List P) (vs : List Value), PRels w M ps vs → PRels w M (wks ps) vs
  | [], _, h => by simpa only [wks] using h
  | p :: ps, vs, h => by
    simp only [PRels] at h; obtain ⟨v, rest, rfl, h1, h2⟩ := h
    simp only [wks, PRels]; exact ⟨v, rest, rfl, wk_rel p v h1, wks_rel ps _ h2⟩
end

/-- what may still be written when the blocks 'ss' may not -/
def Less (M0 : Nat → Prop) (ρ : Nat → Nat) (mem : Mem) (ss : List Nat) (b : Nat) : Prop :=
  mutOf M0 ρ mem b ∧ ∀ s, s ∈ ss → ∀ ver blk, look mem s = some (ver, blk) → blk.live = true → ρ s ≠ b

theorem Less.app {mem : Mem} {ss ss' : List Nat} {b : Nat} (h : Less M0 ρ mem (ss ++ ss') b) : Less M0 ρ mem ss b ∧ Less M0 ρ mem ss' b :=
  ⟨⟨h.1, fun s hs => h.2 s (List.mem_append_left _ hs)⟩, ⟨h.1, fun s hs => h.2 s (List.mem_append_right _ hs)⟩⟩

theorem PRel.sub {p : P} {v : Value} (h : PRel w M p v) (hm : ∀ b, M' b → M b) : PRel w M' p v := h.move (Agree.refl _ _) (fun b _ => hm b)
theorem PRels.sub {p : List P} {v : List Value} (h : PRels w M p v) (hm : ∀ b, M' b → M b) : PRels w M' p v := h.move (Agree.refl _ _) (fun b _ => hm b)
theorem PElems.sub {n : Nat} {p : List P} {v : List Value} (h : PElems w M n p v) (hm : ∀ b, M' b → M b) : PElems w M' n p v := h.move (Agree.refl _ _) (fun b _ => hm b)

theorem arrAt_look {mem : Mem} {s ver n : Nat} {es : List P} {fz : Bool} (h : arrAt mem s ver = some (n, es, fz)) : look mem s = some (ver, .arr n es fz) := by
  unfold arrAt at h
  split at h
  · rename_i v n1 es1 fz1 hl
    split at h
    · rename_i e; subst e; injection h with h; injection h with h1 h2; injection h2 with h2 h3; subst h1; subst h2; subst h3; exact hl
    · cases h
  · cases h
theorem boxAt_look {mem : Mem} {s ver : Nat} {cs : List L} {fz : Bool} (h : boxAt mem s ver = some (cs, fz)) : look mem s = some (ver, .box cs fz) := by
  unfold boxAt at h
  split at h
  · rename_i v cs1 fz1 hl
    split at h
    · rename_i e; subst e; injection h with h; injection h with h1 h2; subst h1; subst h2; exact hl
    · cases h
  · cases h

theorem Here.now {mem : Mem} {s ver : Nat} {blk : Blk} {K : Blk → Nat → Prop} (h : Here ρ mem s ver K) (hl : look mem s = some (ver, blk)) : K blk (ρ s) := by
  obtain ⟨v1, b1, h1, _, h3⟩ := h
  rw [hl] at h1
  injection h1 with h1; injection h1 with e1 e2; subst e1; subst e2
  exact h3 rfl

/-- a slice of a block of one's own: the elements' cells -/
theorem sl_now (h : SR M0 D w0 ρ σ a w) {s ver off len n : Nat} {es : List P} {fz : Bool} {v : Value}
    (hl : LRel w (mutOf M0 ρ σ.mem) ρ σ.mem (.sl s ver off len) v) (ha : arrAt σ.mem s ver = some (n, es, fz)) :
    ∃ cap c t vs rest, v = .slice (some ⟨ρ s, off * n, none⟩) len cap ∧ off + len ≤ es.length ∧ len ≤ cap ∧ (off + cap) * n ≤ c.size ∧
      w.heap[ρ s]? = some (.cells c t (0, 0)) ∧ PElems w (mutOf M0 ρ σ.mem) n es vs ∧ c.toList = vs ++ rest := by
  have hk := arrAt_look ha
  simp only [LRel] at hl
  obtain ⟨cap, c, t, fr, hv, h1, h2, h3, h4⟩ := hl.2.now hk
  obtain ⟨c', t', vs, rest, h5, h6, h7⟩ := h.blk s ver _ hk
  rw [h3] at h5
  injection h5 with h5; injection h5 with e1 e2 e3; subst e1; subst e2; subst e3
  exact ⟨cap, c, t, vs, rest, hv, h1, h2, h4, h3, h6, h7⟩

theorem reads_row {b : Nat} {c : Array Value} {t : TypeId} {fr : Nat × Nat} (hc : w.heap[b]? = some (.cells c t fr)) (off k : Nat) :
    Reads w ⟨b, off, none⟩ ((c.toList.drop off).take k) := by
  intro i v hv
  have hadd : (⟨b, off, none⟩ : Addr).add i = ⟨b, off + i, none⟩ := by unfold Addr.add; split <;> simp_all
  rw [hadd]
  simp only [World.cell?, hc]
  rw [List.getElem?_take] at hv
  split at hv
  · simpa [List.getElem?_drop] using hv
  · cases hv

theorem list_cut {α : Type} (vs rest : List α) (i k : Nat) (h : i + k ≤ vs.length) : ((vs ++ rest).drop i).take k = (vs.drop i).take k := by
  rw [List.drop_append_of_le_length (by omega), List.take_append_of_le_length (by simp; omega)]

/-- the slice's elements, read -/
theorem sl_reads (h : SR M0 D w0 ρ σ a w) {s ver off len n : Nat} {es : List P} {fz : Bool} {v : Value}
    (hl : LRel w (mutOf M0 ρ σ.mem) ρ σ.mem (.sl s ver off len) v) (ha : arrAt σ.mem s ver = some (n, es, fz)) :
    ∃ cap us, v = .slice (some ⟨ρ s, off * n, none⟩) len cap ∧ len ≤ cap ∧ off + len ≤ es.length ∧
      PElems w (mutOf M0 ρ σ.mem) n ((es.drop off).take len) us ∧ Reads w ⟨ρ s, off * n, none⟩ us := by
  obtain ⟨cap, c, t, vs, rest, hv, h1, h2, h4, h3, h6, h7⟩ := sl_now h hl ha
  refine ⟨cap, (vs.drop (off * n)).take (len * n), hv, h2, h1, PElems_take len (PElems_drop off h6), ?_⟩
  have hlen := PElems_len h6
  have hle : off * n + len * n ≤ vs.length := by rw [hlen, ← Nat.add_mul]; exact Nat.mul_le_mul_right _ h1
  have := reads_row h3 (off * n) (len * n)
  rw [h7, list_cut _ _ _ _ hle] at this
  exact this

theorem flat_rel (h : SR M0 D w0 ρ σ a w) {l : L} {v : Value} {p : P} {ss : List Nat} (hf : flat σ.mem l = some (p, ss))
    (hl : LRel w (mutOf M0 ρ σ.mem) ρ σ.mem l v) : PRel w (Less M0 ρ σ.mem ss) p v := by
  cases l with
  | p q =>
    simp only [flat, Option.some.injEq, Prod.mk.injEq] at hf
    obtain ⟨rfl, rfl⟩ := hf
    simp only [LRel] at hl
    exact wk_rel _ _ (hl.sub fun b hb => hb.1)
  | sl s ver off len =>
    simp only [flat] at hf
    split at hf
    · rename_i n es fz ha
      split at hf
      · rename_i hle
        simp only [Option.some.injEq, Prod.mk.injEq] at hf
        obtain ⟨rfl, rfl⟩ := hf
        obtain ⟨cap, us, rfl, h2, h1, h3, h4⟩ := sl_reads h hl ha
        have hlen : ((es.drop off).take len).length = len := by simp; omega
        simp only [PRel]
        refine ⟨_, cap, us, by rw [hlen], by rw [hlen]; exact h2, h3.sub fun b hb => hb.1, fun _ => ⟨_, rfl, rfl, fun hb => ?_, h.hi s ver _ (arrAt_look ha) rfl, h4⟩⟩
        exact hb.2 s (by simp) ver _ (arrAt_look ha) rfl rfl
      · cases hf
    · cases hf
  | _ => simp [flat] at hf

theorem flats_rel (h : SR M0 D w0 ρ σ a w) : ∀ {ls : List L} {vs : List Value} {ps : List P} {ss : List Nat}, flats σ.mem ls = some (ps, ss) →
    LRels w (mutOf M0 ρ σ.mem) ρ σ.mem ls vs → PRels w (Less M0 ρ σ.mem ss) ps vs
  | [], vs, ps, ss, hf, hl => by
    simp only [flats, Option.some.injEq, Prod.mk.injEq] at hf; obtain ⟨rfl, rfl⟩ := hf
    simpa [PRels, LRels] using hl
  | l :: ls, vs, ps, ss, hf, hl => by
    simp only [flats] at hf
    split at hf
    · rename_i p s ps' ss' h1 h2
      simp only [Option.some.injEq, Prod.mk.injEq] at hf; obtain ⟨rfl, rfl⟩ := hf
      simp only [LRels] at hl; obtain ⟨v, rest, rfl, h3, h4⟩ := hl
      simp only [PRels]
      exact ⟨v, rest, rfl, (flat_rel h h1 h3).sub fun b hb => hb.app.1, (flats_rel h h2 h4).sub fun b hb => hb.app.2⟩
    · cases hf

theorem capt_rel (h : SR M0 D w0 ρ σ a w) {l : L} {v : Value} {p : P} {ss : List Nat} (hf : capt σ.mem l = some (p, ss))
    (hl : LRel w (mutOf M0 ρ σ.mem) ρ σ.mem l v) : PRel w (Less M0 ρ σ.mem ss) p v := by
  cases l with
  | ptr s ver off =>
    simp only [capt] at hf
    split at hf
    · rename_i cs fz hb
      split at hf
      · rename_i ps ss' hfl
        simp only [Option.some.injEq, Prod.mk.injEq] at hf; obtain ⟨rfl, rfl⟩ := hf
        have hk := boxAt_look hb
        simp only [LRel] at hl
        have hv := hl.2.now hk
        obtain ⟨c, t, hc, hr⟩ := h.blk s ver _ hk
        have h1 := flats_rel h hfl hr
        simp only [ptrK] at hv
        subst hv
        simp only [PRel]
        refine ⟨_, c.toList.drop off, rfl, rfl, fun hb' => hb'.2 s (by simp) ver _ hk rfl rfl, h.hi s ver _ hk rfl, (PRels_drop off h1).sub fun b hb' => ?_, ?_⟩
        · exact (Less.app (ss := [s]) (ss' := ss') (by simpa using hb')).2
        · have := reads_row hc off c.size
          rwa [List.take_of_length_le (by simp)] at this
      · cases hf
    · cases hf
  | p q => exact flat_rel h (by simpa [capt] using hf) hl
  | sl s ver off len => exact flat_rel h (by simpa [capt] using hf) hl
  | _ => simp [capt, flat] at hf

theorem capts_rel (h : SR M0 D w0 ρ σ a w) : ∀ {ls : List L} {vs : List Value} {ps : List P} {ss : List Nat}, capts σ.mem ls = some (ps, ss) →
    LRels w (mutOf M0 ρ σ.mem) ρ σ.mem ls vs → PRels w (Less M0 ρ σ.mem ss) ps vs
  | [], vs, ps, ss, hf, hl => by
    simp only [capts, Option.some.injEq, Prod.mk.injEq] at hf; obtain ⟨rfl, rfl⟩ := hf
    simpa [PRels, LRels] using hl
  | l :: ls, vs, ps, ss, hf, hl => by
    simp only [capts] at hf
    split at hf
    · rename_i p s ps' ss' h1 h2
      simp only [Option.some.injEq, Prod.mk.injEq] at hf; obtain ⟨rfl, rfl⟩ := hf
      simp only [LRels] at hl; obtain ⟨v, rest, rfl, h3, h4⟩ := hl
      simp only [PRels]
      exact ⟨v, rest, rfl, (capt_rel h h1 h3).sub fun b hb => hb.app.1, (capts_rel h h2 h4).sub fun b hb => hb.app.2⟩
    · cases hf

theorem snap_rel (h : SR M0 D w0 ρ σ a w) {l : L} {v : Value} {p : P} {ss : List Nat} (hf : snap σ.mem l = some (p, ss))
    (hl : LRel w (mutOf M0 ρ σ.mem) ρ σ.mem l v) : PRel w (Less M0 ρ σ.mem ss) p v := by
  cases l with
  | agg xs =>
    simp only [snap] at hf
    split at hf
    · rename_i ps ss' h1
      simp only [Option.some.injEq, Prod.mk.injEq] at hf; obtain ⟨rfl, rfl⟩ := hf
      simp only [LRel] at hl; obtain ⟨vs, rfl, h3⟩ := hl
      simp only [PRel]; exact ⟨vs, rfl, flats_rel h h1 h3⟩
    · cases hf
  | clo f xs =>
    simp only [snap] at hf
    split at hf
    · rename_i ps ss' h1
      simp only [Option.some.injEq, Prod.mk.injEq] at hf; obtain ⟨rfl, rfl⟩ := hf
      simp only [LRel] at hl; obtain ⟨vs, rfl, h3⟩ := hl
      simp only [PRel]; exact ⟨vs, rfl, capts_rel h h1 h3⟩
    · cases hf
  | ptr s ver off => exact capt_rel h (by simpa [snap] using hf) hl
  | p q => exact capt_rel h (by simpa [snap] using hf) hl
  | sl s ver off len => exact capt_rel h (by simpa [snap] using hf) hl
  | _ => simp [snap, capt, flat] at hf

/-! ### freezing -/

theorem putAll_append (m : Mem) (x y : List (Nat × Nat × Blk)) : putAll m (x ++ y) = putAll (putAll m x) y := by
  induction x generalizing m with
  | nil => rfl
  | cons z x ih => obtain ⟨s, v, b⟩ := z; simp only [List.cons_append, putAll, ih]

theorem look_freeze (mem : Mem) : ∀ (ss : List Nat) (m : Mem) (t : Nat), look (putAll m (freeze mem ss)) t =
    if t ∈ ss ∧ (look mem t).isSome then (look mem t).map (fun x => (x.1, fzBlk x.2)) else look m t
  | [], m, t => by simp [freeze, putAll]
  | s :: ss, m, t => by
    cases hl : look mem s with
    | none =>
      have e : freeze mem (s :: ss) = freeze mem ss := by simp [freeze, hl]
      rw [e, look_freeze mem ss m t]
      by_cases hts : t = s
      · subst hts; simp [hl]
      · simp [hts]
    | some x =>
      have e : freeze mem (s :: ss) = (s, x.1, fzBlk x.2) :: freeze mem ss := by simp [freeze, hl]
      rw [e]
      simp only [putAll]
      rw [look_freeze mem ss, look_put]
      by_cases hts : s = t
      · subst hts; simp [hl]
      · simp [hts, Ne.symm hts]

theorem look_freeze_self (mem : Mem) (ss : List Nat) (t : Nat) : look (putAll mem (freeze mem ss)) t =
    if t ∈ ss then (look mem t).map (fun x => (x.1, fzBlk x.2)) else look mem t := by
  rw [look_freeze]
  by_cases h : t ∈ ss
  · simp only [h, true_and, if_true]
    cases look mem t <;> simp
  · simp [h]

theorem nextVer_freeze (mem : Mem) (ss : List Nat) (t : Nat) : nextVer (putAll mem (freeze mem ss)) t = nextVer mem t := by
  unfold nextVer
  rw [look_freeze_self]
  by_cases h : t ∈ ss
  · simp only [h, if_true]
    cases look mem t <;> rfl
  · simp only [h, if_false]

theorem fz_live (b : Blk) : (fzBlk b).live = b.live := by cases b <;> rfl
theorem fz_mut (b : Blk) : (fzBlk b).mut = false := by cases b <;> rfl

theorem freeze_less (h : SR M0 D w0 ρ σ a w) (ss : List Nat) (b : Nat) (hb : mutOf M0 ρ (putAll σ.mem (freeze σ.mem ss)) b) : Less M0 ρ σ.mem ss b := by
  rcases hb with hb | ⟨s, ver, blk, hl, hm, hr⟩
  · refine ⟨.inl hb, fun s _ ver blk hl hlv he => ?_⟩
    obtain ⟨h1, h2⟩ := h.base b hb
    rcases h.lo s ver blk hl hlv with h3 | h3
    · omega
    · exact h2 (he ▸ h3)
  · rw [look_freeze_self] at hl
    split at hl
    · rename_i hs
      cases hx : look σ.mem s with
      | none => simp [hx] at hl
      | some x =>
        simp only [hx, Option.map_some, Option.some.injEq, Prod.mk.injEq] at hl
        obtain ⟨_, rfl⟩ := hl
        simp [fz_mut] at hm
    · rename_i hs
      have hlv : blk.live = true := by cases blk <;> simp_all [Blk.mut, Blk.live]
      refine ⟨.inr ⟨s, ver, blk, hl, hm, hr⟩, fun s' hs' ver' blk' hl' hlv' he => ?_⟩
      have := h.inj _ _ _ _ _ _ hl hlv hl' hlv' (hr.trans he.symm)
      exact hs (this ▸ hs')

theorem tr_freeze (h : SR M0 D w0 ρ σ a w) (ss : List Nat) :
    Tr w (mutOf M0 ρ σ.mem) ρ σ.mem w (mutOf M0 ρ (putAll σ.mem (freeze σ.mem ss))) ρ (putAll σ.mem (freeze σ.mem ss)) := by
  refine ⟨Agree.refl _ _, fun b _ hb => (freeze_less h ss b hb).1, fun s ver blk hl => ?_⟩
  rw [look_freeze_self]
  split
  · refine ⟨ver, fzBlk blk, by simp [hl], Nat.le_refl _, fun _ => ⟨rfl, ?_⟩⟩
    cases blk with
    | box => trivial
    | dead => trivial
    | arr n es fz => exact ⟨rfl, Nat.le_refl _, fun c t fr hc => ⟨c, t, fr, hc, Nat.le_refl _⟩⟩
  · exact ⟨ver, blk, hl, Nat.le_refl _, fun _ => ⟨rfl, Fits.refl _ _ _ _ fun _ => rfl⟩⟩

theorem SR.freeze (h : SR M0 D w0 ρ σ a w) (ss : List Nat) : SR M0 D w0 ρ { σ with mem := putAll σ.mem (freeze σ.mem ss) } a w := by
  have old : ∀ s ver blk, look (putAll σ.mem (AW.freeze σ.mem ss)) s = some (ver, blk) → ∃ b0, look σ.mem s = some (ver, b0) ∧ b0.live = blk.live ∧ (blk = b0 ∨ blk = fzBlk b0) := by
    intro s ver blk hl
    rw [look_freeze_self] at hl
    split at hl
    · cases hx : look σ.mem s with
      | none => simp [hx] at hl
      | some x =>
        simp only [hx, Option.map_some, Option.some.injEq, Prod.mk.injEq] at hl
        obtain ⟨rfl, rfl⟩ := hl
        exact ⟨x.2, rfl, (fz_live _).symm, .inr rfl⟩
    · exact ⟨blk, hl, rfl, .inl rfl⟩
  have tr := tr_freeze h ss
  refine h.turn tr h.keeps (fun s ver blk hl hlv => ?_) (fun s ver blk hl hlv => ?_) (fun s ver blk s' ver' blk' hl hlv hl' hlv' he => ?_) (fun s ver blk hl => ?_)
  · obtain ⟨b0, h1, h2, _⟩ := old s ver blk hl; exact h.lo s ver b0 h1 (h2.trans hlv)
  · obtain ⟨b0, h1, h2, _⟩ := old s ver blk hl; exact h.hi s ver b0 h1 (h2.trans hlv)
  · obtain ⟨b0, h1, h2, _⟩ := old s ver blk hl
    obtain ⟨b1, h3, h4, _⟩ := old s' ver' blk' hl'
    exact h.inj _ _ _ _ _ _ h1 (h2.trans hlv) h3 (h4.trans hlv') he
  · obtain ⟨b0, h1, _, h3⟩ := old s ver blk hl
    have := (h.blk s ver b0 h1).move tr fun _ => rfl
    rcases h3 with rfl | rfl
    · exact this
    · cases b0 <;> exact this

end Go.AW
namespace Go.AW

variable {M0 M M' : Nat → Prop} {D : List Nat} {w0 : Base} {w w' : World} {ρ ρ' : Nat → Nat} {σ : AS} {a : Act} {Pg : Program}

def szOf (Pg : Program) (t : TypeId) : Option Nat := (Pg.info? t).map (·.size)
def agOf (Pg : Program) (t : TypeId) : Option Bool := (Pg.underlying t).map fun d => match d with
  | .struct _ | .array _ _ => true
  | _ => false
def slOf (Pg : Program) (t : TypeId) : Option TypeId := match Pg.underlying t with
  | some (.slice e) => some e
  | _ => none
def stOf (Pg : Program) (t : TypeId) : Option (Array Field) := match Pg.underlying t with
  | some (.struct fs) => some fs
  | _ => none
def isStr (Pg : Program) (t : TypeId) : Bool := match Pg.underlying t with
  | some .string => true
  | _ => false
def isBool (Pg : Program) (t : TypeId) : Bool := match Pg.underlying t with
  | some .bool => true
  | _ => false
def intOf (Pg : Program) (t : TypeId) : Option IntKind := match Pg.underlying t with
  | some (.int k) => some k
  | _ => none

theorem slOf_eq {t e : TypeId} (h : slOf Pg t = some e) : Pg.underlying t = some (.slice e) := by
  unfold slOf at h; split at h <;> simp_all
theorem stOf_eq {t : TypeId} {fs : Array Field} (h : stOf Pg t = some fs) : Pg.underlying t = some (.struct fs) := by
  unfold stOf at h; split at h <;> simp_all
theorem isStr_eq {t : TypeId} (h : isStr Pg t = true) : Pg.underlying t = some .string := by
  unfold isStr at h; split at h <;> simp_all
theorem isBool_eq {t : TypeId} (h : isBool Pg t = true) : Pg.underlying t = some .bool := by
  unfold isBool at h; split at h <;> simp_all
theorem intOf_eq {t : TypeId} {k : IntKind} (h : intOf Pg t = some k) : Pg.underlying t = some (.int k) := by
  unfold intOf at h; split at h <;> simp_all

theorem szOf_run {t : TypeId} {n : Nat} (h : szOf Pg t = some n) (w : World) : (sizeOf t).run Pg w = .ok n w := by
  unfold szOf at h
  cases hi : Pg.info? t with
  | none => simp [hi] at h
  | some i => simp [hi] at h; simp [sizeOf, typeInfo, hi, h]
theorem agOf_run {t : TypeId} {b : Bool} (h : agOf Pg t = some b) (w : World) : (isAgg t).run Pg w = .ok b w := by
  unfold agOf at h
  cases hi : Pg.underlying t with
  | none => simp [hi] at h
  | some d => simp [hi] at h; simp only [isAgg, Sem.run_bind, run_underlying hi, Result.andThen_ok]; subst h; cases d <;> rfl

/-- a closed value -/
def vP : Value → P → Bool
  | .int k n, .int k' n' => decide (k = k') && decide (n = n')
  | .bool b, .bool b' => b == b'
  | .string s, .str l => s.data.toList == l
  | .slice none 0 0, .z _ => true
  | .slice none 0 0, .sl _ [] => true
  | .nilIface, .lit .nilIface => true
  | .nilFunc, .lit .nilFunc => true
  | .pointer none, .lit (.pointer none) => true
  | _, _ => false
def vPs : List Value → List P → Bool
  | [], [] => true
  | v :: vs, p :: ps => vP v p && vPs vs ps
  | _, _ => false

theorem vP_rel {v : Value} {p : P} (h : vP v p = true) : PRel w M p v ∧ v.oneCell' = true := by
  unfold vP at h
  split at h
  · simp at h; obtain ⟨rfl, rfl⟩ := h; exact ⟨by simp [PRel], rfl⟩
  · simp at h; subst h; exact ⟨by simp [PRel], rfl⟩
  · simp at h; subst h; exact ⟨by simp [PRel], rfl⟩
  · exact ⟨by simp [PRel], rfl⟩
  · exact ⟨by simp only [PRel]; exact ⟨none, 0, [], rfl, Nat.le_refl _, rfl, fun h => absurd rfl h⟩, rfl⟩
  · exact ⟨by simp [PRel], rfl⟩
  · exact ⟨by simp [PRel], rfl⟩
  · exact ⟨by simp [PRel], rfl⟩
  · cases h

theorem vPs_rel : ∀ {vs : List Value} {ps : List P}, vPs vs ps = true → PRels w M ps vs ∧ ∀ v ∈ vs, v.oneCell' = true
  | [], [], _ => by simp [PRels]
  | v :: vs, p :: ps, h => by
    simp only [vPs, Bool.and_eq_true] at h
    have h1 := vP_rel (w := w) (M := M) h.1
    have h2 := vPs_rel h.2
    exact ⟨by simp only [PRels]; exact ⟨v, vs, rfl, h1.1, h2.1⟩, by simpa using ⟨h1.2, h2.2⟩⟩
  | [], _ :: _, h => by simp [vPs] at h
  | _ :: _, [], h => by simp [vPs] at h

def chkX : X → Operand → Bool
  | .t i, .tmp j => i == j
  | .c p, .const v => vP v p
  | .f f, .func g => f == g
  | _, _ => false
def chkXs : List X → List Operand → Bool
  | [], [] => true
  | x :: xs, o :: os => chkX x o && chkXs xs os
  | _, _ => false
def chkXo : Option X → Option Operand → Bool
  | none, none => true
  | some x, some o => chkX x o
  | _, _ => false

theorem ev_rel (h : SR M0 D w0 ρ σ a w) {x : X} {o : Operand} (hc : chkX x o = true) : LRel w (mutOf M0 ρ σ.mem) ρ σ.mem (ev σ.env x) (a.eval o) := by
  unfold chkX at hc
  split at hc
  · simp at hc; subst hc
    rename_i i
    simp only [ev, Act.eval, List.getD]
    cases hi : σ.env[i]? with
    | none => simp [LRel]
    | some l => simpa using h.env i l hi
  · simp only [ev, Act.eval, LRel]; exact (vP_rel hc).1
  · simp at hc; subst hc; simp only [ev, Act.eval, LRel, LRels]; exact ⟨#[], rfl, rfl⟩
  · cases hc

theorem evs_rel (h : SR M0 D w0 ρ σ a w) : ∀ {xs : List X} {os : List Operand}, chkXs xs os = true →
    LRels w (mutOf M0 ρ σ.mem) ρ σ.mem (xs.map (ev σ.env)) (os.map a.eval)
  | [], [], _ => by simp [LRels]
  | x :: xs, o :: os, hc => by
    simp only [chkXs, Bool.and_eq_true] at hc
    simp only [List.map_cons, LRels]
    exact ⟨_, _, rfl, ev_rel h hc.1, evs_rel h hc.2⟩
  | [], _ :: _, hc => by simp [chkXs] at hc
  | _ :: _, [], hc => by simp [chkXs] at hc

/-- what is to be shown of an operation -/
def Good (Pg : Program) (M0 : Nat → Prop) (D : List Nat) (w0 : Base) (σ : AS) (a : Act) (w : World) (s : Sem Next) (e : Eff) : Prop :=
  ∃ nx v w' ρ', s.run Pg w = .ok nx w' ∧ (nx = .value v ∨ nx = .skip ∧ v = undef) ∧ SR M0 D w0 ρ' { σ with mem := putAll σ.mem e.wr } a w' ∧
    LRel w' (mutOf M0 ρ' (putAll σ.mem e.wr)) ρ' (putAll σ.mem e.wr) e.val v

theorem good_pure (h : SR M0 D w0 ρ σ a w) {s : Sem Value} {l : L} {v : Value} {rd : List Nat} (hs : s.run Pg w = .ok v w) (hl : LRel w (mutOf M0 ρ σ.mem) ρ σ.mem l v) :
    Good Pg M0 D w0 σ a w (do pure (.value (← s))) ⟨l, [], rd⟩ :=
  ⟨.value v, v, w, ρ, by simp [hs], .inl rfl, h, hl⟩

theorem mkv_rel {ls : List L} {vs : List Value} {mem : Mem} (h : LRels w M ρ mem ls vs) {ag : Bool} {n : Nat} {l : L} (hm : mkv ag n ls = some l) :
    vs.length = n ∧ ((ag = true ∧ LRel w M ρ mem l (.agg vs.toArray)) ∨ (ag = false ∧ ∃ v, vs.head? = some v ∧ LRel w M ρ mem l v)) := by
  have hlen := LRels_len h
  unfold mkv at hm
  split at hm
  · rename_i hn
    refine ⟨hlen.trans hn, ?_⟩
    split at hm
    · rename_i ha
      injection hm with hm; subst hm
      exact .inl ⟨ha, by simp only [LRel]; exact ⟨_, rfl, h⟩⟩
    · rename_i ha
      refine .inr ⟨by simpa using ha, ?_⟩
      cases ls with
      | nil => simp at hm
      | cons x xs =>
        simp at hm; subst hm
        simp only [LRels] at h
        obtain ⟨v, rest, rfl, h1, _⟩ := h
        exact ⟨v, rfl, h1⟩
  · cases hm

theorem run_loadVar {t : TypeId} {ag : Bool} {n : Nat} (hs : szOf Pg t = some n) (ha : agOf Pg t = some ag) {ad : Addr} {vs : List Value} (hr : Reads w ad vs) (hn : vs.length = n)
    {v : Value} (hv : (ag = true ∧ v = .agg vs.toArray) ∨ (ag = false ∧ vs.head? = some v)) : (loadVar t ad).run Pg w = .ok v w := by
  subst hn
  rcases hv with ⟨rfl, rfl⟩ | ⟨rfl, hv⟩
  · simp [loadVar, agOf_run ha, szOf_run hs, run_loadCells_list w ad vs hr]
  · cases vs with
    | nil => simp at hv
    | cons x xs =>
      simp at hv; subst hv
      have := hr 0 x rfl
      simp [Addr.add] at this
      simp [loadVar, agOf_run ha, this]

theorem load_good (h : SR M0 D w0 ρ σ a w) {ag : Bool} {n : Nat} {x : X} {t : TypeId} {o : Operand} {e : Eff} {dst : Nat}
    (hc : chkX x o = true) (hs : szOf Pg t = some n) (ha : agOf Pg t = some ag) (he : aop σ dst (.load ag n x) = some e) :
    Good Pg M0 D w0 σ a w (do pure (.value (← Instr.loadAt t (a.eval o)))) e := by
  have hx := ev_rel h hc
  simp only [aop] at he
  have fin : ∀ (ad : Addr) (vs : List Value) (l : L), a.eval o = .pointer (some ad) → Reads w ad vs → vs.length = n →
      ((ag = true ∧ LRel w (mutOf M0 ρ σ.mem) ρ σ.mem l (.agg vs.toArray)) ∨ (ag = false ∧ ∃ v, vs.head? = some v ∧ LRel w (mutOf M0 ρ σ.mem) ρ σ.mem l v)) →
      ∀ rd, Good Pg M0 D w0 σ a w (do pure (.value (← Instr.loadAt t (a.eval o)))) ⟨l, [], rd⟩ := by
    intro ad vs l ho hr hn hl rd
    rcases hl with ⟨h1, h2⟩ | ⟨h1, v, h2, h3⟩
    · refine good_pure h ?_ h2
      simp [Instr.loadAt, ho, Instr.sureAddr, run_loadVar hs ha hr hn (.inl ⟨h1, rfl⟩)]
    · refine good_pure h ?_ h3
      simp [Instr.loadAt, ho, Instr.sureAddr, run_loadVar hs ha hr hn (.inr ⟨h1, h2⟩)]
  split at he
  · rename_i s ver off hev
    rw [hev] at hx
    split at he
    · rename_i cs fz hb
      have hk := boxAt_look hb
      simp only [LRel] at hx
      have hv := hx.2.now hk
      simp only [ptrK] at hv
      obtain ⟨c, tt, hcell, hr⟩ := h.blk s ver _ hk
      cases hm : mkv ag n ((cs.drop off).take n) with
      | none => rw [hm] at he; cases he
      | some l =>
        simp only [hm, Option.map_some, Option.some.injEq] at he
        subst he
        obtain ⟨h1, h2⟩ := mkv_rel (LRels_take n (LRels_drop off hr)) hm
        exact fin _ _ l hv (reads_row hcell off n) h1 h2 _
    · cases he
  · rename_i s ver i off hev
    rw [hev] at hx
    split at he
    · rename_i m es fz hb
      split at he
      · rename_i hi
        have hk := arrAt_look hb
        simp only [LRel] at hx
        have hv := hx.2.now hk
        simp only [eptrK] at hv
        obtain ⟨c, tt, vs, rest, hcell, hp, hvs⟩ := h.blk s ver _ hk
        cases hm : mkv ag n ((((es.getD i default).cells.drop off).take n).map .p) with
        | none => rw [hm] at he; cases he
        | some l =>
          simp only [hm, Option.map_some, Option.some.injEq] at he
          subst he
          obtain ⟨c1, e1, hl1, _, hp1, _⟩ := PElems_split hp hi
          have hpr := (PElem_iff _ _).1 hp1
          have hpr2 := (LRels_P (ρ := ρ) (mem := σ.mem) _ _).2 (PRels_take n (PRels_drop off hpr))
          obtain ⟨h1, h2⟩ := mkv_rel hpr2 hm
          have hle : i * m + m ≤ vs.length := by
            have := PElems_len hp
            have : (i + 1) * m ≤ es.length * m := Nat.mul_le_mul_right _ hi
            rw [Nat.succ_mul] at this; omega
          have hcut : (c1.drop off).take n = (c.toList.drop (i * m + off)).take n := by
            have hn : ((c1.drop off).take n).length = n := h1
            by_cases hn0 : n = 0
            · subst hn0; simp
            have : off + n ≤ m := by
              simp only [List.length_take, List.length_drop, hl1] at hn
              omega
            rw [e1, hvs, list_cut _ _ _ _ (by omega), ← List.drop_drop]
            rw [List.drop_take, List.take_take]
            congr 1
            omega
          have hrd := reads_row hcell (i * m + off) n
          rw [← hcut] at hrd
          exact fin _ _ l hv hrd h1 h2 _
      · cases he
    · cases he
  · rename_i cs hev
    rw [hev] at hx
    simp only [LRel, PRel] at hx
    obtain ⟨ad, vs, hv, hs0, _, _, hp, hrd⟩ := hx
    cases hm : mkv ag n ((cs.take n).map .p) with
    | none => rw [hm] at he; cases he
    | some l =>
      simp only [hm, pureE, Option.map_some, Option.some.injEq] at he
      subst he
      have hpr2 := (LRels_P (ρ := ρ) (mem := σ.mem) _ _).2 (PRels_take n hp)
      obtain ⟨h1, h2⟩ := mkv_rel hpr2 hm
      refine fin ad (vs.take n) l hv (fun i v hi => hrd i v ?_) h1 h2 _
      rw [List.getElem?_take] at hi; split at hi
      · exact hi
      · cases hi
  · cases he

end Go.AW
namespace Go.AW

variable {M0 M M' : Nat → Prop} {D : List Nat} {w0 : Base} {w w' : World} {ρ ρ' : Nat → Nat} {σ : AS} {a : Act} {Pg : Program}

def zeroOk (Pg : Program) (t : TypeId) (zero : List P) : Bool := match (Pg.info? t).bind (·.zero) with
  | some z => vPs z.cells.toList zero
  | none => false

theorem zeroOk_run {t : TypeId} {zero : List P} (h : zeroOk Pg t zero = true) : ∃ z, (∀ w, (zeroValue t).run Pg w = .ok z w) ∧ vPs z.cells.toList zero = true := by
  unfold zeroOk at h
  split at h
  · rename_i z hz
    cases hi : Pg.info? t with
    | none => simp [hi] at hz
    | some i =>
      simp [hi] at hz
      exact ⟨z, fun w => by simp [zeroValue, typeInfo, hi, hz], h⟩
  · cases h

theorem ptr_new {mem : Mem} (d : Nat) (cs : List L) (b : Nat) : LRel w' M' (upd ρ d b) (put mem d (nextVer mem d) (.box cs false)) (.ptr d (nextVer mem d) 0) (.pointer (some ⟨b, 0, none⟩)) := by
  simp only [LRel]
  exact ⟨rfl, _, _, by rw [look_put, if_pos rfl], Nat.le_refl _, fun _ => by simp [ptrK, upd]⟩

theorem alloc_good (h : SR M0 D w0 ρ σ a w) {zero : List P} {t : TypeId} {dst : Nat} {e : Eff} (hz : zeroOk Pg t zero = true)
    (he : aop σ dst (.alloc zero) = some e) : Good Pg M0 D w0 σ a w (do pure (.value (← Instr.alloc t true (.tuple #[])))) e := by
  simp only [aop, Option.some.injEq] at he
  subst he
  obtain ⟨z, hz1, hz2⟩ := zeroOk_run hz
  have hr : NewRel w (mutOf M0 ρ σ.mem) ρ σ.mem z.cells (.box (zero.map .p) false) := (LRels_P _ _).2 (vPs_rel hz2).1
  exact ⟨_, _, _, _, by simp [Instr.alloc, hz1, newVar, newRow], .inl rfl, h.new dst _ z.cells t hr, ptr_new dst _ _⟩

theorem box_good (h : SR M0 D w0 ρ σ a w) {n : Nat} {x : X} {o : Operand} {t : TypeId} {dst : Nat} {e : Eff} (hc : chkX x o = true)
    (he : aop σ dst (.box n x) = some e) : Good Pg M0 D w0 σ a w (do pure (.value (← Instr.box t (a.eval o)))) e := by
  have hx := ev_rel h hc
  simp only [aop] at he
  split at he
  · rename_i hn
    simp only [Option.some.injEq] at he
    subst he
    have hr : NewRel w (mutOf M0 ρ σ.mem) ρ σ.mem (a.eval o).cells (.box (cellsOf (ev σ.env x)) false) := (cells_rel hx hn.2).1
    exact ⟨_, _, _, _, by simp [Instr.box, newVar, newRow], .inl rfl, h.new dst _ _ t hr, ptr_new dst _ _⟩
  · cases he

/-! ### stores -/

theorem splice_len {α : Type} (cs : List α) (off : Nat) (xs : List α) (h : off + xs.length ≤ cs.length) : (splice cs off xs).length = cs.length := by
  simp [splice]; omega

theorem LRels_splice {mem : Mem} {cs xs : List L} {vs us : List Value} (h : LRels w M ρ mem cs vs) (hx : LRels w M ρ mem xs us) (off : Nat) :
    LRels w M ρ mem (splice cs off xs) (splice vs off us) := by
  unfold splice
  rw [LRels_len hx]
  exact LRels_app (LRels_app (LRels_take off h) hx) (LRels_drop _ h)
theorem PRels_splice {cs xs : List P} {vs us : List Value} (h : PRels w M cs vs) (hx : PRels w M xs us) (off : Nat) :
    PRels w M (splice cs off xs) (splice vs off us) := by
  unfold splice
  rw [PRels_len hx]
  exact PRels_app (PRels_app (PRels_take off h) hx) (PRels_drop _ h)

theorem run_storeVar {t : TypeId} {n : Nat} (hs : szOf Pg t = some n) {b off : Nat} {c : Array Value} {tt : TypeId} (hc : w.heap[b]? = some (.cells c tt (0, 0))) {v : Value}
    (hn : v.cells.toList.length = n) (hle : off + n ≤ c.size) (h1 : ∀ u ∈ v.cells.toList, u.oneCell' = true) :
    (storeVar t ⟨b, off, none⟩ v).run Pg w = .ok () (w.setRow b (splice c.toList off v.cells.toList).toArray) := by
  have hst := run_storeCells_at (P := Pg) b off tt v.cells.toList 0 c w hc (by rw [hn]; simpa using hle) h1
  have hn' : v.cells.size = n := by simpa using hn
  simp only [Nat.add_zero] at hst
  simp only [storeVar, Sem.run_bind, szOf_run hs, Result.andThen_ok, hn', ne_eq, not_true, if_false, Sem.run_ite, hst, splice]

theorem store_box_good (h : SR M0 D w0 ρ σ a w) {n : Nat} {x y : X} {ox oy : Operand} {t : TypeId} (hcx : chkX x ox = true) (hcy : chkX y oy = true) (hs : szOf Pg t = some n)
    {s ver off : Nat} {cs : List L} (hev : ev σ.env x = .ptr s ver off) (hb : boxAt σ.mem s ver = some (cs, false)) (hn : (cellsOf (ev σ.env y)).length = n) (hle : off + n ≤ cs.length)
    (hic : (cellsOf (ev σ.env y)).all isCell = true) :
    Good Pg M0 D w0 σ a w (do Instr.storeAt t (a.eval ox) (a.eval oy); pure .skip) ⟨.undef, [(s, ver, .box (splice cs off (cellsOf (ev σ.env y))) false)], [s]⟩ := by
  have hx := ev_rel h hcx
  have hy := ev_rel h hcy
  rw [hev] at hx
  have hk := boxAt_look hb
  simp only [LRel] at hx
  have hv := hx.2.now hk
  simp only [ptrK] at hv
  obtain ⟨c, tt, hcell, hr⟩ := h.blk s ver _ hk
  obtain ⟨hy1, hy2⟩ := cells_rel hy hic
  have hlen := LRels_len hr
  have hlen2 := LRels_len hy1
  have hle' : off + n ≤ c.size := by simp at hlen; omega
  have hst := run_storeVar hs hcell (hlen2.trans hn) hle' hy2
  have hnew : NewRel w (mutOf M0 ρ σ.mem) ρ σ.mem (splice c.toList off (a.eval oy).cells.toList).toArray (.box (splice cs off (cellsOf (ev σ.env y))) false) := by
    simpa [NewRel] using LRels_splice hr hy1 off
  refine ⟨.skip, undef, _, ρ, ?_, .inr ⟨rfl, rfl⟩, h.write hk rfl rfl (Nat.le_refl _) hcell _ ?_ (fun _ => trivial) hnew, by simp [LRel]⟩
  · simp only [Instr.storeAt, hv, Instr.sureAddr, Sem.run_bind, Sem.run_pure, Result.andThen_ok, hst]
  · simp; rw [splice_len]
    · simp
    · simp [hlen2, hn]; omega

theorem setIn_cells {e e' : P} {off : Nat} {ps : List P} (h : setIn e off ps = some e') {w : World} {M : Nat → Prop} {c us : List Value} (he : PElem w M e c) (hp : PRels w M ps us)
    (ho : ∀ v ∈ c, v.oneCell' = true) (hu : ∀ v ∈ us, v.oneCell' = true) :
    PElem w M e' (splice c off us) ∧ ∀ v ∈ splice c off us, v.oneCell' = true := by
  have hall : ∀ v ∈ splice c off us, v.oneCell' = true := by
    intro v hv
    simp only [splice, List.mem_append] at hv
    rcases hv with (hv | hv) | hv
    · exact ho v (List.mem_of_mem_take hv)
    · exact hu v hv
    · exact ho v (List.mem_of_mem_drop hv)
  refine ⟨?_, hall⟩
  unfold setIn at h
  split at h
  · split at h
    · injection h with h; subst h
      simp only [PElem] at he ⊢
      exact PRels_splice he hp off
    · cases h
  · rename_i hna
    split at h
    · rename_i p
      injection h with h; subst h
      have hc := (PElem_iff _ _).1 he
      have hce : e.cells = [e] := by cases e <;> simp_all [P.cells]
      rw [hce] at hc
      simp only [PRels] at hc hp
      obtain ⟨v, rest, rfl, _, rfl⟩ := hc
      obtain ⟨u, rest, rfl, hu1, rfl⟩ := hp
      simp only [splice, List.take_zero, List.nil_append, List.length_singleton, Nat.zero_add, List.drop_one, List.tail_cons, List.append_nil]
      rw [PElem_iff]
      -- a cell's value is no row
      have hone : u.oneCell' = true := hu u (by simp)
      cases p with
      | agg cs => simp only [PRel] at hu1; obtain ⟨vs, rfl, _⟩ := hu1; simp [Value.oneCell'] at hone
      | _ => simp only [P.cells, PRels]; exact ⟨u, [], rfl, hu1, rfl⟩
    · cases h

/-- a splice inside the i-th element -/
theorem splice_elem {α : Type} (vs rest us : List α) (i m off : Nat) (hi : (i + 1) * m ≤ vs.length) (ho : off + us.length ≤ m) :
    splice (vs ++ rest) (i * m + off) us = (vs.take (i * m) ++ splice ((vs.drop (i * m)).take m) off us ++ vs.drop ((i + 1) * m)) ++ rest := by
  have e0 : (i + 1) * m = i * m + m := Nat.succ_mul i m
  rw [e0] at hi ⊢
  unfold splice
  rw [List.take_append_of_le_length (by omega), List.drop_append_of_le_length (by omega)]
  have e1 : vs.take (i * m + off) = vs.take (i * m) ++ ((vs.drop (i * m)).take m).take off := by
    rw [List.take_add, List.take_take, Nat.min_eq_left (by omega)]
  have e2 : vs.drop (i * m + off + us.length) = ((vs.drop (i * m)).take m).drop (off + us.length) ++ vs.drop (i * m + m) := by
    have : vs.drop (i * m + off + us.length) = (vs.drop (i * m)).drop (off + us.length) := by rw [List.drop_drop]; congr 1; omega
    rw [this]
    have e3 : vs.drop (i * m) = (vs.drop (i * m)).take m ++ vs.drop (i * m + m) := by
      rw [← List.drop_drop, List.take_append_drop]
    conv => lhs; rw [e3]
    rw [List.drop_append_of_le_length (by simp; omega)]
  rw [e1, e2]
  simp [List.append_assoc]

theorem store_arr_good (h : SR M0 D w0 ρ σ a w) {n : Nat} {x y : X} {ox oy : Operand} {t : TypeId} (hcx : chkX x ox = true) (hcy : chkX y oy = true) (hs : szOf Pg t = some n)
    (hn0 : 0 < n) {s ver i off m : Nat} {es : List P} (hev : ev σ.env x = .eptr s ver i off) (hb : arrAt σ.mem s ver = some (m, es, false)) (hi : i < es.length) (hn : (cellsOf (ev σ.env y)).length = n)
    (hic : (cellsOf (ev σ.env y)).all isCell = true) {ps : List P} {ss : List Nat} (hfl : flats σ.mem (cellsOf (ev σ.env y)) = some (ps, ss)) (hns : s ∉ ss) {e : P} (hset : setIn (es.getD i default) off ps = some e)
    (hel : e.cells.length = m) :
    Good Pg M0 D w0 σ a w (do Instr.storeAt t (a.eval ox) (a.eval oy); pure .skip) ⟨.undef, freeze σ.mem ss ++ [(s, ver, .arr m (es.set i e) false)], s :: ss⟩ := by
  have hx := ev_rel h hcx
  have hy := ev_rel h hcy
  rw [hev] at hx
  have hk := arrAt_look hb
  simp only [LRel] at hx
  have hv := hx.2.now hk
  simp only [eptrK] at hv
  obtain ⟨hy1, hy2⟩ := cells_rel hy hic
  have hlen2 := LRels_len hy1
  have hps := flats_rel h hfl hy1
  -- the state with the sources frozen
  have h2 := h.freeze ss
  have hk2 : look (putAll σ.mem (freeze σ.mem ss)) s = some (ver, .arr m es false) := by rw [look_freeze_self, if_neg hns]; exact hk
  obtain ⟨c, tt, vs, rest, hcell, hp, hvs⟩ := h2.blk s ver _ hk2
  have hps2 : PRels w (mutOf M0 ρ (putAll σ.mem (freeze σ.mem ss))) ps (a.eval oy).cells.toList := hps.sub fun b hb => freeze_less h ss b hb
  obtain ⟨c1, e1, hl1, ho1, hp1, hsplit⟩ := PElems_split hp hi
  obtain ⟨g1, g2⟩ := setIn_cells hset hp1 hps2 ho1 hy2
  have hpl := PRels_len hps2
  have gl : (splice c1 off (a.eval oy).cells.toList).length = m := by
    have := PRels_len ((PElem_iff _ _).1 g1)
    rw [hel] at this; exact this
  have hvl := PElems_len hp
  have hi1 : (i + 1) * m ≤ es.length * m := Nat.mul_le_mul_right _ hi
  have hnl : (a.eval oy).cells.toList.length = n := hlen2.trans hn
  have hoff : n = 0 ∨ off + n ≤ m := by
    simp only [splice, List.length_append, List.length_take, List.length_drop, hl1, hnl] at gl
    omega
  have hoff2 : off + n ≤ m := by omega
  have hle : i * m + off + n ≤ c.size := by
    have : c.toList.length = c.size := by simp
    rw [hvs] at this; simp at this
    rw [Nat.succ_mul] at hi1
    omega
  have hst := run_storeVar hs hcell hnl hle hy2
  have hsp : splice c.toList (i * m + off) (a.eval oy).cells.toList = (vs.take (i * m) ++ splice c1 off (a.eval oy).cells.toList ++ vs.drop ((i + 1) * m)) ++ rest := by
    rw [hvs, e1]; exact splice_elem _ _ _ _ _ _ (by omega) (by rw [hnl]; exact hoff2)
  have hnew : NewRel w (mutOf M0 ρ (putAll σ.mem (freeze σ.mem ss))) ρ (putAll σ.mem (freeze σ.mem ss)) (splice c.toList (i * m + off) (a.eval oy).cells.toList).toArray (.arr m (es.set i e) false) :=
    ⟨_, rest, PElems_set hp hi gl g2 g1, by simp [hsp]⟩
  have hfit : Fits w w (ρ s) (.arr m es false) (.arr m (es.set i e) false) := ⟨rfl, by simp, fun c t fr hc => ⟨c, t, fr, hc, Nat.le_refl _⟩⟩
  have hw := h2.write (σ := { σ with mem := putAll σ.mem (freeze σ.mem ss) }) hk2 rfl rfl (Nat.le_refl _) hcell _ (by
    simp; rw [splice_len]
    · simp
    · simp [hnl]; have : n = (a.eval oy).cells.size := by simpa using hnl.symm
      omega) (fun _ => hfit) hnew
  have hw' : SR M0 D w0 ρ { σ with mem := putAll σ.mem (freeze σ.mem ss ++ [(s, ver, .arr m (es.set i e) false)]) } a (w.setRow (ρ s) (splice c.toList (i * m + off) (a.eval oy).cells.toList).toArray) := by
    rw [putAll_append]; exact hw
  refine ⟨.skip, undef, _, ρ, ?_, .inr ⟨rfl, rfl⟩, hw', by simp [LRel]⟩
  simp only [Instr.storeAt, hv, Instr.sureAddr, Sem.run_bind, Sem.run_pure, Result.andThen_ok, hst]

end Go.AW
namespace Go.AW

variable {M0 M M' : Nat → Prop} {D : List Nat} {w0 : Base} {w w' : World} {ρ ρ' : Nat → Nat} {σ : AS} {a : Act} {Pg : Program}

theorem splice_cons {α : Type} (cs : List α) (off : Nat) (x : α) (xs : List α) (h : off < cs.length) :
    splice (cs.set off x) (off + 1) xs = splice cs off (x :: xs) := by
  unfold splice
  have e1 : (cs.set off x).take (off + 1) = cs.take off ++ [x] := by
    rw [List.set_eq_take_append_cons_drop, if_pos h]
    rw [List.take_append, List.take_of_length_le (by simp; omega)]
    simp [Nat.min_eq_left (Nat.le_of_lt h)]
  have e2 : (cs.set off x).drop (off + 1 + xs.length) = cs.drop (off + (x :: xs).length) := by
    rw [List.drop_set_of_lt (by omega)]
    simp; congr 1; omega
  rw [e1, e2]
  simp

theorem fold_set (off : Nat) : ∀ (vs : List Value) (k : Nat) (cells : Array Value), off + k + vs.length ≤ cells.size →
    ((vs.zipIdx k).foldl (fun cs (x : Value × Nat) => cs.setIfInBounds (off + x.2) x.1) cells).toList = splice cells.toList (off + k) vs
  | [], k, cells, _ => by simp [splice]
  | v :: vs, k, cells, h => by
    simp only [List.length_cons] at h
    simp only [List.zipIdx_cons, List.foldl_cons]
    rw [fold_set off vs (k + 1) _ (by simp; omega)]
    simp only [Array.toList_setIfInBounds]
    exact splice_cons _ _ _ _ (by simp; omega)

theorem fill_step {place : Nat → Option (Nat × Nat)} {cells : Array Value} {i off n : Nat} {v : Value} {rest : List (Nat × Value)} (hp : place i = some (off, n))
    (hn : v.cells.toList.length = n) (hle : off + n ≤ cells.size) :
    Instr.fill place cells ((i, v) :: rest) = Instr.fill place (splice cells.toList off v.cells.toList).toArray rest := by
  have hn' : v.cells.size = n := by simpa using hn
  have h1 : ¬ (cells.size < off + n) := by omega
  have e : (v.cells.zipIdx.foldl (fun cs (x : Value × Nat) => cs.setIfInBounds (off + x.2) x.1) cells) = (splice cells.toList off v.cells.toList).toArray := by
    apply Array.ext'
    have := fold_set off v.cells.toList 0 cells (by simp [hn']; omega)
    simp only [Nat.add_zero] at this
    rw [← this, ← Array.foldl_toList]
    simp
  simp only [Instr.fill, hp, hn', ne_eq, not_true, decide_false, Bool.false_or, h1]
  rw [← e]
  simp

def placesOf (Pg : Program) (t : TypeId) : Option (List (Nat × Nat)) := match Pg.underlying t with
  | some (.struct fields) => fields.toList.mapM fun f => (Pg.info? f.type).map fun i => (f.offset, i.size)
  | _ => none

def chkParts (place : Nat → Option (Nat × Nat)) : List (Nat × Nat × X) → List (Nat × Operand) → Bool
  | [], [] => true
  | (off, n, x) :: ps, (i, o) :: qs => decide (place i = some (off, n)) && chkX x o && chkParts place ps qs
  | _, _ => false

theorem fill_parts (h : SR M0 D w0 ρ σ a w) {place : Nat → Option (Nat × Nat)} : ∀ {ps : List (Nat × Nat × X)} {qs : List (Nat × Operand)} {ls ls' : List L} {cells : Array Value},
    chkParts place ps qs = true → LRels w (mutOf M0 ρ σ.mem) ρ σ.mem ls cells.toList → partsIn σ.env ps ls = some ls' →
    ∃ cells', Instr.fill place cells (qs.map fun x => (x.1, a.eval x.2)) = some cells' ∧ LRels w (mutOf M0 ρ σ.mem) ρ σ.mem ls' cells'.toList
  | [], [], ls, ls', cells, _, hl, hp => by
    simp only [partsIn, Option.some.injEq] at hp; subst hp
    exact ⟨cells, rfl, hl⟩
  | (off, n, x) :: ps, (i, o) :: qs, ls, ls', cells, hc, hl, hp => by
    simp only [chkParts, Bool.and_eq_true, decide_eq_true_eq] at hc
    simp only [partsIn] at hp
    split at hp
    · rename_i hcond
      obtain ⟨h1, h2, h3⟩ := hcond
      have hx := ev_rel h hc.1.2
      obtain ⟨hx1, _⟩ := cells_rel hx h3
      have hlen := LRels_len hl
      have hlen1 := LRels_len hx1
      have hsp := LRels_splice hl hx1 off
      obtain ⟨c', h4, h5⟩ := fill_parts h (cells := (splice cells.toList off (a.eval o).cells.toList).toArray) hc.2 (by simpa using hsp) hp
      refine ⟨c', ?_, h5⟩
      simp only [List.map_cons]
      rw [fill_step hc.1.1 (hlen1.trans h1) (by simp at hlen; omega)]
      exact h4
    · cases hp
  | [], _ :: _, _, _, _, hc, _, _ => by simp [chkParts] at hc
  | _ :: _, [], _, _, _, hc, _, _ => by simp [chkParts] at hc

theorem build_good (h : SR M0 D w0 ρ σ a w) {zero : List P} {ps : List (Nat × Nat × X)} {qs : Array (Nat × Operand)} {t : TypeId} {dst : Nat} {e : Eff} {pl : List (Nat × Nat)}
    (hz : zeroOk Pg t zero = true) (hpl : placesOf Pg t = some pl) (hc : chkParts (fun i => pl[i]?) ps qs.toList = true) (he : aop σ dst (.build zero ps) = some e) :
    Good Pg M0 D w0 σ a w (do pure (.value (← Instr.build t (qs.map fun (i, x) => (i, a.eval x))))) e := by
  simp only [aop, pureE] at he
  cases hp : partsIn σ.env ps (zero.map .p) with
  | none => rw [hp] at he; cases he
  | some ls =>
    rw [hp] at he
    simp only [Option.map_some, Option.some.injEq] at he
    subst he
    unfold zeroOk at hz
    cases hi : Pg.info? t with
    | none => simp [hi] at hz
    | some it =>
      cases hiz : it.zero with
      | none => simp [hi, hiz] at hz
      | some z =>
        simp only [hi, Option.bind_some, hiz] at hz
        unfold placesOf at hpl
        split at hpl
        · rename_i fields hu
          have hr := (LRels_P (ρ := ρ) (mem := σ.mem) zero z.cells.toList).2 (vPs_rel (w := w) (M := mutOf M0 ρ σ.mem) hz).1
          obtain ⟨c', h4, h5⟩ := fill_parts h hc hr hp
          have hb : Pg.built t (qs.map fun (i, x) => (i, a.eval x)).toList = some c' := by
            unfold Program.built
            simp only [hi, hu, hiz, hpl]
            simpa using h4
          refine good_pure h (run_build w t _ _ hb) ?_
          simp only [LRel]; exact ⟨c', rfl, h5⟩
        · cases hpl

/-! ### slices that are written out -/

def chkParts2 : List (Nat × X) → List (Nat × Operand) → Bool
  | [], [] => true
  | (i, x) :: ps, (j, o) :: qs => decide (i = j) && chkX x o && chkParts2 ps qs
  | _, _ => false

theorem splice_all {α : Type} (vs c : List α) (i n : Nat) (hc : c.length = n) : splice vs (i * n) c = vs.take (i * n) ++ c ++ vs.drop ((i + 1) * n) := by
  unfold splice; rw [hc, Nat.succ_mul]

theorem elemOf {p : P} {v : Value} (hp : PRel w M p v) (h1 : v.oneCell' = true ∨ ∃ cs, p = .agg cs) : PElem w M p v.cells.toList := by
  rw [PElem_iff]
  rcases h1 with h1 | ⟨cs, rfl⟩
  · rw [cells_of_one h1]
    cases p with
    | agg cs => simp only [PRel] at hp; obtain ⟨vs, rfl, _⟩ := hp; simp [Value.oneCell'] at h1
    | _ => simp only [P.cells, PRels]; exact ⟨v, [], rfl, hp, rfl⟩
  · simp only [PRel] at hp; obtain ⟨vs, rfl, h⟩ := hp; simpa [P.cells, Value.cells] using h

theorem flat_one {mem : Mem} {l : L} {p : P} {ss : List Nat} {v : Value} (hf : flat mem l = some (p, ss)) (hl : LRel w M ρ mem l v) (hc : (cellsOf l).all isCell = true) :
    v.oneCell' = true ∨ ∃ cs, p = .agg cs := by
  cases l with
  | p q =>
    simp only [flat, Option.some.injEq, Prod.mk.injEq] at hf
    obtain ⟨rfl, _⟩ := hf
    cases q with
    | agg cs => exact .inr ⟨_, by rw [wk]⟩
    | _ => exact .inl (isCell_one hl (by simpa [cellsOf] using hc))
  | sl s ver off len => exact .inl (isCell_one hl rfl)
  | _ => simp [flat] at hf

theorem snap_one {mem : Mem} {l : L} {p : P} {ss : List Nat} {v : Value} (hf : snap mem l = some (p, ss)) (hl : LRel w M ρ mem l v) (hc : (cellsOf l).all isCell = true) :
    v.oneCell' = true ∨ ∃ cs, p = .agg cs := by
  cases l with
  | agg xs =>
    simp only [snap] at hf
    split at hf
    · simp only [Option.some.injEq, Prod.mk.injEq] at hf; exact .inr ⟨_, hf.1.symm⟩
    · cases hf
  | clo f xs => exact .inl (isCell_one hl rfl)
  | ptr s ver off => exact .inl (isCell_one hl rfl)
  | p q => exact flat_one (by simpa [snap, capt] using hf) hl hc
  | sl s ver off len => exact .inl (isCell_one hl rfl)
  | _ => simp [snap, capt, flat] at hf

theorem fill_elems (h : SR M0 D w0 ρ σ a w) {n : Nat} : ∀ {ps : List (Nat × X)} {qs : List (Nat × Operand)} {es es' : List P} {ss : List Nat} {cells : Array Value} {S : List Nat},
    chkParts2 ps qs = true → PElems w (Less M0 ρ σ.mem S) n es cells.toList → partsOf σ.env σ.mem n ps es = some (es', ss) →
    ∃ cells', Instr.fill (fun i => some (i * n, n)) cells (qs.map fun x => (x.1, a.eval x.2)) = some cells' ∧ PElems w (Less M0 ρ σ.mem (S ++ ss)) n es' cells'.toList ∧ es'.length = es.length
  | [], [], es, es', ss, cells, S, _, hl, hp => by
    simp only [partsOf, Option.some.injEq, Prod.mk.injEq] at hp; obtain ⟨rfl, rfl⟩ := hp
    exact ⟨cells, rfl, by simpa using hl, rfl⟩
  | (i, x) :: ps, (j, o) :: qs, es, es', ss, cells, S, hc, hl, hp => by
    simp only [chkParts2, Bool.and_eq_true, decide_eq_true_eq] at hc
    obtain ⟨⟨rfl, hcx⟩, hc2⟩ := hc
    simp only [partsOf] at hp
    split at hp
    · rename_i p s1 hsn
      split at hp
      · rename_i hcond
        obtain ⟨h1, h2, h3⟩ := hcond
        split at hp
        · rename_i es1 ss1 hrec
          simp only [Option.some.injEq, Prod.mk.injEq] at hp; obtain ⟨rfl, rfl⟩ := hp
          have hx := ev_rel h hcx
          obtain ⟨_, hone⟩ := cells_rel hx h3
          have hpr := snap_rel h hsn hx
          have hpe := elemOf hpr (snap_one hsn hx h3)
          have hcl : (a.eval o).cells.toList.length = n := by
            have := PRels_len ((PElem_iff _ _).1 hpe); omega
          have hlen := PElems_len hl
          have hle : i * n + n ≤ cells.size := by
            have : (i + 1) * n ≤ es.length * n := Nat.mul_le_mul_right _ h2
            rw [Nat.succ_mul] at this; simp at hlen; omega
          have hset := PElems_set (hl.sub (M' := Less M0 ρ σ.mem (S ++ s1)) fun b hb => hb.app.1) h2 hcl hone (hpe.move (Agree.refl _ _) fun b _ hb => (Less.app hb).2)
          rw [← splice_all _ _ _ _ hcl] at hset
          obtain ⟨c', h4, h5, h6⟩ := fill_elems h (cells := (splice cells.toList (i * n) (a.eval o).cells.toList).toArray) hc2 (by simpa using hset) hrec
          refine ⟨c', ?_, by simpa [List.append_assoc] using h5, by simpa using h6⟩
          simp only [List.map_cons]
          rw [fill_step rfl hcl hle]
          exact h4
        · cases hp
      · cases hp
    · cases hp
  | [], _ :: _, _, _, _, _, _, hc, _, _ => by simp [chkParts2] at hc
  | _ :: _, [], _, _, _, _, _, hc, _, _ => by simp [chkParts2] at hc

/-- the cells of n zero elements -/
theorem zero_rows (z : Array Value) (n len : Nat) (hz : z.size = n) : ((Array.range (len * n)).map (z[· % z.size]!)).toList = (List.replicate len z.toList).flatten := by
  apply List.ext_getElem?
  intro i
  induction len generalizing i with
  | zero => simp
  | succ k ih =>
    simp only [Array.toList_map, Array.toList_range, List.getElem?_map, List.replicate_succ, List.flatten_cons] at ih ⊢
    rw [List.getElem?_append]
    simp only [Array.length_toList, hz]
    by_cases hi : i < n
    · simp only [hi, if_true]
      have h1 : i < (k + 1) * n := by rw [Nat.succ_mul]; omega
      rw [List.getElem?_range h1]
      simp only [Option.map_some]
      rw [Nat.mod_eq_of_lt hi]
      have : i < z.size := by omega
      simp [this]
    · simp only [hi, if_false]
      rw [← ih (i - n)]
      by_cases h1 : i < (k + 1) * n
      · have h2 : i - n < k * n := by rw [Nat.succ_mul] at h1; omega
        rw [List.getElem?_range h1, List.getElem?_range h2]
        simp only [Option.map_some, hz]
        rw [Nat.mod_eq_sub_mod (by omega)]
      · have h2 : ¬ i - n < k * n := by rw [Nat.succ_mul] at h1; omega
        rw [List.getElem?_eq_none (by simp; omega), List.getElem?_eq_none (by simp; omega)]
        rfl

def zeroOk1 (Pg : Program) (t : TypeId) (n : Nat) (zero : P) : Bool := zeroOk Pg t zero.cells && decide (zero.cells.length = n)

theorem sl_new {mem : Mem} (d n : Nat) (es : List P) (b len cap : Nat) {c : Array Value} {t : TypeId} (hl : len ≤ es.length) (hc : len ≤ cap) (hsz : cap * n ≤ c.size)
    (hb : w'.heap[b]? = some (.cells c t (0, 0))) :
    LRel w' M' (upd ρ d b) (put mem d (nextVer mem d) (.arr n es false)) (.sl d (nextVer mem d) 0 len) (.slice (some ⟨b, 0, none⟩) len cap) := by
  simp only [LRel]
  refine ⟨rfl, _, _, by rw [look_put, if_pos rfl], Nat.le_refl _, fun _ => ?_⟩
  simp only [slK, upd, if_true]
  exact ⟨cap, c, t, (0, 0), by simp, by omega, hc, hb, by simpa using hsz⟩

theorem bslice_good (h : SR M0 D w0 ρ σ a w) {n len : Nat} {zero : P} {ps : List (Nat × X)} {qs : Array (Nat × Operand)} {t el : TypeId} {dst : Nat} {e : Eff}
    (hu : slOf Pg t = some el) (hs : szOf Pg el = some n) (hn : 0 < n) (hsm : len * n ≤ 2 ^ 24) (hz : zeroOk1 Pg el n zero = true) (hc : chkParts2 ps qs.toList = true)
    (he : aop σ dst (.bslice n len zero ps) = some e) :
    Good Pg M0 D w0 σ a w (do pure (.value (← Instr.buildSlice t len (qs.map fun (i, x) => (i, a.eval x))))) e := by
  simp only [aop] at he
  split at he
  · rename_i es ss hp
    simp only [Option.some.injEq] at he
    subst he
    simp only [zeroOk1, Bool.and_eq_true, decide_eq_true_eq] at hz
    obtain ⟨z, hz1, hz2⟩ := zeroOk_run hz.1
    obtain ⟨hzr, hzo⟩ := vPs_rel (w := w) (M := Less M0 ρ σ.mem []) hz2
    have hzl : z.cells.size = n := by have := PRels_len hzr; simpa [hz.2] using this
    have hrows := PElems_replicate (n := n) (w := w) (M := Less M0 ρ σ.mem []) (e := zero) (c := z.cells.toList) (by simpa using hzl) hzo ((PElem_iff _ _).2 hzr) len
    rw [← zero_rows _ _ _ hzl] at hrows
    obtain ⟨cells, h4, h5, h6⟩ := fill_elems h (S := []) hc hrows hp
    simp only [List.nil_append] at h5
    simp only [List.length_replicate] at h6
    have h2 := h.freeze ss
    have hnew : NewRel w (mutOf M0 ρ (putAll σ.mem (freeze σ.mem ss))) ρ (putAll σ.mem (freeze σ.mem ss)) cells (.arr n es false) :=
      ⟨_, [], h5.sub fun b hb => freeze_less h ss b hb, by simp⟩
    have hcs : cells.size = len * n := by have := PElems_len h5; simpa [h6] using this
    have h3 := h2.new dst (.arr n es false) cells el hnew
    simp only [nextVer_freeze] at h3
    have h3' : SR M0 D w0 (upd ρ dst w.heap.size) { σ with mem := putAll σ.mem (freeze σ.mem ss ++ [(dst, nextVer σ.mem dst, .arr n es false)]) } a (w.alloc (.cells cells el)) := by
      rw [putAll_append]; exact h3
    have hsl : LRel (w.alloc (.cells cells el)) (mutOf M0 (upd ρ dst w.heap.size) (putAll σ.mem (freeze σ.mem ss ++ [(dst, nextVer σ.mem dst, .arr n es false)]))) (upd ρ dst w.heap.size)
        (putAll σ.mem (freeze σ.mem ss ++ [(dst, nextVer σ.mem dst, .arr n es false)])) (.sl dst (nextVer σ.mem dst) 0 len) (.slice (some ⟨w.heap.size, 0, none⟩) len len) := by
      rw [putAll_append, ← nextVer_freeze σ.mem ss dst]
      exact sl_new dst n es _ len len (by omega) (Nat.le_refl _) (by omega) (heap_alloc_new _ _)
    refine ⟨.value _, _, _, _, ?_, .inl rfl, h3', hsl⟩
    have hsm' : ¬ (2 ^ 24 < len * n) := by omega
    have h4' : Instr.fill (fun i => some (i * n, n)) ((Array.range (len * n)).map (z.cells[· % z.cells.size]!)) (qs.map fun (i, x) => (i, a.eval x)).toList = some cells := by
      simpa using h4
    by_cases h0 : len * n = 0
    · obtain rfl : len = 0 := by rcases Nat.mul_eq_zero.1 h0 with h | h <;> omega
      have hr0 : Array.range 0 = #[] := rfl
      simp [hr0] at h4'
      simp [Instr.buildSlice, run_underlying (slOf_eq hu), szOf_run hs, hr0, h4', newRow]
    · simp only [Instr.buildSlice, run_underlying (slOf_eq hu), szOf_run hs, Sem.run_bind, Result.andThen_ok, Sem.run_ite, gt_iff_lt, hsm', h0, if_false, hz1, Sem.run_pure, h4', newRow, run_newObj]
      rfl
  · cases he

end Go.AW
namespace Go.AW

variable {M0 M M' : Nat → Prop} {D : List Nat} {w0 : Base} {w w' : World} {ρ ρ' : Nat → Nat} {σ : AS} {a : Act} {Pg : Program}

def bs (l : List UInt8) : ByteArray := ⟨l.toArray⟩
theorem bs_toList (l : List UInt8) : (bs l).toList = l := ByteArray.toList_mk l
theorem bs_size (l : List UInt8) : (bs l).size = l.length := by simp [bs, ByteArray.size]
theorem bs_app (x y : List UInt8) : bs x ++ bs y = bs (x ++ y) := by
  apply ByteArray.ext; simp [bs, ByteArray.data_append]
theorem bs_of (s : ByteArray) : bs s.data.toList = s := by simp [bs]

theorem beq_dec {α : Type} [BEq α] [LawfulBEq α] [DecidableEq α] (x y : α) : (x == y) = decide (x = y) := by
  rw [Bool.eq_iff_iff]; simp

theorem guard_int (op : BinOp) (t : TypeId) (x y : Operand) (k k' : IntKind) (i j : Int) : (eqGuard op t x y (.int k i) (.int k' j)).run Pg w = .ok () w := by
  cases op <;> simp [eqGuard]
theorem guard_str (op : BinOp) (t : TypeId) (x y : Operand) (i j : ByteArray) : (eqGuard op t x y (.string i) (.string j)).run Pg w = .ok () w := by
  cases op <;> simp [eqGuard]
theorem guard_bool (op : BinOp) (t : TypeId) (x y : Operand) (i j : Bool) : (eqGuard op t x y (.bool i) (.bool j)).run Pg w = .ok () w := by
  cases op <;> simp [eqGuard]

theorem binP_run {op : BinOp} {x y r : P} {vx vy : Value} (hx : PRel w M x vx) (hy : PRel w M y vy) (h : binP op x y = some r) (t : TypeId) (ox oy : Operand) :
    ∃ v, (do eqGuard op t ox oy vx vy; binOp op t vx vy : Sem Value).run Pg w = .ok v w ∧ PRel w M r v := by
  unfold binP at h
  split at h
  · rename_i k x k' y
    simp only [PRel] at hx hy
    subst hx; subst hy
    simp only [Sem.run_bind, guard_int, Result.andThen_ok]
    split at h
    · split at h
      · cases h
      · rename_i hneg
        injection h with h; subst h
        exact ⟨_, by simp [binOp, Op.shift, hneg]; rfl, by simp [PRel]⟩
    · split at h
      · cases h
      · rename_i hneg
        injection h with h; subst h
        exact ⟨_, by simp [binOp, Op.shift, hneg]; rfl, by simp [PRel]⟩
    · rename_i hne1 hne2
      split at h
      · rename_i hk; subst hk
        split at h
        all_goals first
          | (injection h with h; subst h; exact ⟨_, by simp [binOp, Op.intArith, Op.intBits, Op.intCmp, beq_dec, bne]; rfl, by simp [PRel]⟩)
          | skip
        all_goals first
          | (split at h
             · cases h
             · rename_i hy0; injection h with h; subst h; exact ⟨_, by simp [binOp, Op.intDiv, hy0]; rfl, by simp [PRel]⟩)
          | cases h
      · cases h
  · rename_i x y
    simp only [PRel] at hx hy
    subst hx; subst hy
    simp only [Sem.run_bind, guard_str, Result.andThen_ok]
    change ∃ v, (binOp op t (.string (bs x)) (.string (bs y))).run Pg w = _ ∧ _
    split at h
    all_goals first
      | (split at h
         · rename_i hl
           injection h with h; subst h
           exact ⟨.string (bs (x ++ y)), by simp [binOp, Op.stringOp, bs_size, bs_app]; omega, by simp [PRel, bs]⟩
         · cases h)
      | (injection h with h; subst h; exact ⟨_, by simp [binOp, Op.stringOp, bs_toList, beq_dec]; rfl, by simp [PRel]⟩)
      | cases h
  · cases h

theorem pureE_some {o : Option L} {e : Eff} (h : pureE o = some e) : ∃ l, o = some l ∧ e = ⟨l, [], []⟩ := by
  cases o with
  | none => cases h
  | some l => simp only [pureE, Option.map_some, Option.some.injEq] at h; exact ⟨l, rfl, h.symm⟩

theorem good_val (h : SR M0 D w0 ρ σ a w) {l : L} {v : Value} {rd : List Nat} (hl : LRel w (mutOf M0 ρ σ.mem) ρ σ.mem l v) :
    Good Pg M0 D w0 σ a w (pure (.value v)) ⟨l, [], rd⟩ :=
  ⟨.value v, v, w, ρ, by simp, .inl rfl, h, hl⟩

theorem mov_good (h : SR M0 D w0 ρ σ a w) {x : X} {o : Operand} {dst : Nat} {e : Eff} (hc : chkX x o = true) (he : aop σ dst (.mov x) = some e) :
    Good Pg M0 D w0 σ a w (pure (.value (a.eval o))) e := by
  simp only [aop] at he
  obtain ⟨l, hl, rfl⟩ := pureE_some he
  injection hl with hl; subst hl
  exact good_val h (ev_rel h hc)

theorem pick_good (h : SR M0 D w0 ρ σ a w) {c x y : X} {oc ox oy : Operand} {dst : Nat} {e : Eff} (hc : chkX c oc = true) (hx : chkX x ox = true) (hy : chkX y oy = true)
    (he : aop σ dst (.pick c x y) = some e) : Good Pg M0 D w0 σ a w (do pure (.value (if ← asBool (a.eval oc) then a.eval ox else a.eval oy))) e := by
  have hc' := ev_rel h hc
  simp only [aop] at he
  split at he
  · rename_i t hev
    rw [hev] at hc'
    simp only [LRel, PRel] at hc'
    obtain ⟨l, hl, rfl⟩ := pureE_some he
    injection hl with hl; subst hl
    refine ⟨_, _, w, ρ, by simp [hc', asBool]; rfl, .inl rfl, h, ?_⟩
    cases t
    · exact ev_rel h hy
    · exact ev_rel h hx
  · cases he

theorem bin_good (h : SR M0 D w0 ρ σ a w) {op : BinOp} {x y : X} {ox oy : Operand} {t : TypeId} {dst : Nat} {e : Eff} (hx : chkX x ox = true) (hy : chkX y oy = true)
    (he : aop σ dst (.bin op x y) = some e) : Good Pg M0 D w0 σ a w (do pure (.value (← (do eqGuard op t ox oy (a.eval ox) (a.eval oy); binOp op t (a.eval ox) (a.eval oy))))) e := by
  have h1 := ev_rel h hx
  have h2 := ev_rel h hy
  simp only [aop] at he
  split at he
  · rename_i p q hp hq
    rw [hp] at h1; rw [hq] at h2
    simp only [LRel] at h1 h2
    obtain ⟨l, hl, rfl⟩ := pureE_some he
    cases hr : binP op p q with
    | none => rw [hr] at hl; cases hl
    | some r =>
      rw [hr] at hl
      simp only [Option.map_some, Option.some.injEq] at hl; subst hl
      obtain ⟨v, hv, hrel⟩ := binP_run (Pg := Pg) h1 h2 hr t ox oy
      exact good_pure h hv (by simpa [LRel] using hrel)
  · cases he

theorem beq_good (h : SR M0 D w0 ρ σ a w) {neg : Bool} {op : BinOp} {x y : X} {ox oy : Operand} {t : TypeId} {dst : Nat} {e : Eff} (hx : chkX x ox = true) (hy : chkX y oy = true)
    (ht : isBool Pg t = true) (hop : op = if neg then .neq else .eql)
    (he : aop σ dst (.beq neg x y) = some e) : Good Pg M0 D w0 σ a w (do pure (.value (← (do eqGuard op t ox oy (a.eval ox) (a.eval oy); binOp op t (a.eval ox) (a.eval oy))))) e := by
  have h1 := ev_rel h hx
  have h2 := ev_rel h hy
  simp only [aop] at he
  split at he
  · rename_i p q hp hq
    rw [hp] at h1; rw [hq] at h2
    simp only [LRel, PRel] at h1 h2
    obtain ⟨l, hl, rfl⟩ := pureE_some he
    injection hl with hl; subst hl
    have heq : ∀ b c : Bool, (Op.equal t (.bool b) (.bool c)).run Pg w = .ok (b == c) w := by
      intro b c
      exact run_equal_bool w t b c (isBool_eq ht)
    refine good_pure h (v := .bool (if neg then p != q else p == q)) ?_ (by simp [LRel, PRel])
    subst hop
    cases neg
    · simp [h1, h2, guard_bool, binOp, heq]
    · simp [h1, h2, guard_bool, binOp, heq, bne]
  · cases he

theorem un_good (h : SR M0 D w0 ρ σ a w) {op : UnOp} {x : X} {ox : Operand} {dst : Nat} {e : Eff} (hx : chkX x ox = true)
    (he : aop σ dst (.un op x) = some e) : Good Pg M0 D w0 σ a w (do pure (.value (← Op.unary op (a.eval ox)))) e := by
  have h1 := ev_rel h hx
  simp only [aop] at he
  split at he
  · rename_i b hb
    rw [hb] at h1; simp only [LRel, PRel] at h1
    obtain ⟨l, hl, rfl⟩ := pureE_some he
    injection hl with hl; subst hl
    exact good_pure h (v := .bool !b) (by simp [h1, Op.unary]) (by simp [LRel, PRel])
  · rename_i k n hb
    rw [hb] at h1; simp only [LRel, PRel] at h1
    obtain ⟨l, hl, rfl⟩ := pureE_some he
    injection hl with hl; subst hl
    exact good_pure h (v := .int k (k.wrap (0 - n))) (by simp [h1, Op.unary, Op.intArith]) (by simp [LRel, PRel])
  · cases he

theorem nilc_good (h : SR M0 D w0 ρ σ a w) {x : X} {o : Operand} {dst : Nat} {e : Eff} (hc : chkX x o = true) (he : aop σ dst (.nilc x) = some e)
    (oper : Oper) (ho : oper.op = .nilCheck o) : Good Pg M0 D w0 σ a w (execOp a.eval oper) e := by
  have h1 := ev_rel h hc
  have fin : ∀ (ad : Addr) (l : L) (rd : List Nat), a.eval o = .pointer (some ad) → LRel w (mutOf M0 ρ σ.mem) ρ σ.mem l (a.eval o) → Good Pg M0 D w0 σ a w (execOp a.eval oper) ⟨l, [], rd⟩ := by
    intro ad l rd hv hl
    refine ⟨.value (a.eval o), a.eval o, w, ρ, ?_, .inl rfl, h, hl⟩
    simp [execOp, ho, hv]
  simp only [aop] at he
  split at he
  · rename_i s ver off hev
    rw [hev] at h1
    cases hb : boxAt σ.mem s ver with
    | none => rw [hb] at he; cases he
    | some b =>
      rw [hb] at he
      simp only [Option.map_some, Option.some.injEq] at he; subst he
      have h2 := h1
      simp only [LRel] at h2
      exact fin _ _ _ (h2.2.now (boxAt_look (cs := b.1) (fz := b.2) hb)) h1
  · rename_i s ver i off hev
    rw [hev] at h1
    cases hb : arrAt σ.mem s ver with
    | none => rw [hb] at he; cases he
    | some b =>
      rw [hb] at he
      simp only [Option.map_some, Option.some.injEq] at he; subst he
      have h2 := h1
      simp only [LRel] at h2
      exact fin _ _ _ (h2.2.now (arrAt_look (n := b.1) (es := b.2.1) (fz := b.2.2) hb)) h1
  · rename_i cs hev
    rw [hev] at h1
    obtain ⟨l, hl, rfl⟩ := pureE_some he
    injection hl with hl; subst hl
    have h2 := h1
    simp only [LRel, PRel] at h2
    obtain ⟨ad, vs, hv, _⟩ := h2
    exact fin ad _ _ hv h1
  · cases he

end Go.AW
namespace Go.AW

variable {M0 M M' : Nat → Prop} {D : List Nat} {w0 : Base} {w w' : World} {ρ ρ' : Nat → Nat} {σ : AS} {a : Act} {Pg : Program}

def ckOk (Pg : Program) (k : CK) (src dst : TypeId) : Bool :=
  match k with
  | .int k => decide (intOf Pg dst = some k) && (Pg.underlying src).isSome
  | .runeStr => isStr Pg dst && (intOf Pg src).isSome
  | .same => isStr Pg dst && isStr Pg src
  | .bytesStr => isStr Pg dst && (match slOf Pg src with | some e => decide (intOf Pg e = some .u8) && decide (szOf Pg e = some 1) | none => false)
  | .strBytes => isStr Pg src && (match slOf Pg dst with | some e => decide (intOf Pg e = some .u8) | none => false)

theorem u8s_rel {es : List P} {s : List UInt8} {vs : List Value} (h : u8s es = some s) (hp : PElems w M 1 es vs) :
    ∃ ns : List Int, vs = ns.map (Value.int .u8) ∧ s = ns.map fun n => UInt8.ofNat n.toNat := by
  induction es generalizing s vs with
  | nil => simp [u8s] at h; simp [PElems] at hp; subst h; subst hp; exact ⟨[], rfl, rfl⟩
  | cons e es ih =>
    simp only [PElems] at hp
    obtain ⟨c, rest, rfl, _, _, hc, hr⟩ := hp
    unfold u8s at h
    split at h
    · rename_i heq; cases heq
    · rename_i n es' heq
      injection heq with h1 h2; subst h1; subst h2
      cases hs : u8s es with
      | none => rw [hs] at h; cases h
      | some s' =>
        rw [hs] at h
        simp only [Option.map_some, Option.some.injEq] at h
        obtain ⟨ns, h3, h4⟩ := ih hs hr
        simp only [PElem] at hc
        subst hc; subst h3; subst h4; subst h
        exact ⟨n :: ns, rfl, rfl⟩
    · cases h

theorem fold_push : ∀ (ns : List Int) (acc : ByteArray), ns.foldl (fun r n => r.push (UInt8.ofNat n.toNat)) acc = bs (acc.data.toList ++ ns.map fun n => UInt8.ofNat n.toNat)
  | [], acc => by simp [bs_of]
  | n :: ns, acc => by
    simp only [List.foldl_cons]
    rw [fold_push ns]
    simp [ByteArray.data_push]

theorem run_bts {v : Value} {ns : List Int} (hv : (∃ cap ad, v = .slice (some ad) ns.length cap ∧ Reads w ad (ns.map (Value.int .u8))) ∨ (ns = [] ∧ ∃ o cap, v = .slice o 0 cap)) :
    (Conv.bytesToString v).run Pg w = .ok (.string (bs (ns.map fun n => UInt8.ofNat n.toNat))) w := by
  have main : ∀ ad cap, Reads w ad (ns.map (Value.int .u8)) → (Conv.bytesToString (.slice (some ad) ns.length cap)).run Pg w = .ok (.string (bs (ns.map fun n => UInt8.ofNat n.toNat))) w := by
    intro ad cap hr
    have hl := run_loadCells_list (P := Pg) w ad _ hr
    simp only [List.length_map] at hl
    rw [run_bytesToString w ad _ cap ns hl, fold_push]
    simp
  rcases hv with ⟨cap, ad, rfl, hr⟩ | ⟨rfl, o, cap, rfl⟩
  · exact main ad cap hr
  · cases o with
    | none => simp [Conv.bytesToString, bs]; rfl
    | some ad => exact main ad cap (by intro i v h; simp at h)

/-- what an operand of elements reads -/
theorem elems_rel (h : SR M0 D w0 ρ σ a w) {n : Nat} {l : L} {v : Value} {es : List P} {ss : List Nat} (he : elems σ.mem n l = some (es, ss))
    (hl : LRel w (mutOf M0 ρ σ.mem) ρ σ.mem l v) :
    ∃ vs, PElems w (mutOf M0 ρ σ.mem) n es vs ∧
      ((∃ o cap, v = .slice o es.length cap ∧ es.length ≤ cap ∧ (es ≠ [] → ∃ ad, o = some ad ∧ ad.spot = none ∧ Reads w ad vs)) ∨
       (n = 1 ∧ ∃ s, l = .p (.str s) ∧ v = .string (bs s) ∧ vs = s.map (fun b => .int .u8 b.toNat) ∧ es.length = s.length)) := by
  unfold elems at he
  split at he
  · rename_i m es'
    split at he
    · rename_i hm
      simp only [Option.some.injEq, Prod.mk.injEq] at he; obtain ⟨rfl, rfl⟩ := he; subst hm
      simp only [LRel, PRel] at hl
      obtain ⟨o, cap, vs, rfl, hc, hp, hn⟩ := hl
      exact ⟨vs, hp, .inl ⟨o, cap, rfl, hc, fun hne => by obtain ⟨ad, h1, h2, _, _, h3⟩ := hn hne; exact ⟨ad, h1, h2, h3⟩⟩⟩
    · cases he
  · simp only [Option.some.injEq, Prod.mk.injEq] at he; obtain ⟨rfl, rfl⟩ := he
    simp only [LRel, PRel] at hl
    obtain ⟨o, rfl⟩ := hl
    exact ⟨[], by simp [PElems], .inl ⟨o, 0, rfl, Nat.le_refl _, fun h => absurd rfl h⟩⟩
  · rename_i s
    split at he
    · rename_i hm
      simp only [Option.some.injEq, Prod.mk.injEq] at he; obtain ⟨rfl, rfl⟩ := he; subst hm
      simp only [LRel, PRel] at hl
      refine ⟨s.map fun b => .int .u8 b.toNat, ?_, .inr ⟨rfl, s, rfl, hl, rfl, by simp⟩⟩
      clear hl
      induction s with
      | nil => simp [PElems]
      | cons b s ih => simp only [List.map_cons, PElems]; exact ⟨[_], _, rfl, rfl, by simp [Value.oneCell'], by simp [PElem], ih⟩
    · cases he
  · rename_i o cap
    simp only [Option.some.injEq, Prod.mk.injEq] at he; obtain ⟨rfl, rfl⟩ := he
    simp only [LRel, PRel] at hl
    exact ⟨[], by simp [PElems], .inl ⟨o, cap, hl, Nat.zero_le _, fun h => absurd rfl h⟩⟩
  · rename_i s ver off len
    split at he
    · rename_i m es' fz ha
      split at he
      · rename_i hm
        simp only [Option.some.injEq, Prod.mk.injEq] at he; obtain ⟨rfl, rfl⟩ := he
        obtain ⟨rfl, hle⟩ := hm
        obtain ⟨cap, us, rfl, h1, h2, h3, h4⟩ := sl_reads h hl ha
        have hlen : ((es'.drop off).take len).length = len := by simp; omega
        exact ⟨us, h3, .inl ⟨_, cap, by rw [hlen], by rw [hlen]; exact h1, fun _ => ⟨_, rfl, rfl, h4⟩⟩⟩
      · cases he
    · cases he
  · cases he

/-- other memory has come; what there was is as it was -/
theorem SR.grow (h : SR M0 D w0 ρ σ a w) (hs : w.heap.size ≤ w'.heap.size) (hk : ∀ k, k < w.heap.size → w'.heap[k]? = w.heap[k]?) (h1 : w'.os = w.os) (h2 : w'.tape = w.tape)
    (h3 : w'.output = w.output) : SR M0 D w0 ρ σ a w' := by
  have tr : Tr w (mutOf M0 ρ σ.mem) ρ σ.mem w' (mutOf M0 ρ σ.mem) ρ σ.mem :=
    ⟨⟨hs, fun b hb _ => hk b hb⟩, fun _ _ h => h, fun s ver blk hl => ⟨ver, blk, hl, Nat.le_refl _, fun _ => ⟨rfl, Fits.refl _ _ _ _ fun hlv => hk _ (h.hi s ver blk hl hlv)⟩⟩⟩
  have kp : Keeps D w0 w' := ⟨h1.trans h.keeps.os, h2.trans h.keeps.tape, h3.trans h.keeps.output, Nat.le_trans h.keeps.size hs,
    fun k hk0 hd => (hk k (Nat.lt_of_lt_of_le hk0 h.keeps.size)).trans (h.keeps.block k hk0 hd)⟩
  exact h.turn tr kp h.lo (fun s ver blk hl hlv => Nat.lt_of_lt_of_le (h.hi s ver blk hl hlv) hs) h.inj fun s ver b hl => (h.blk s ver b hl).move tr fun hlv => hk _ (h.hi s ver b hl hlv)

theorem mut_lt (h : SR M0 D w0 ρ σ a w) {b : Nat} (hb : mutOf M0 ρ σ.mem b) : b < w.heap.size := by
  rcases hb with hb | ⟨s, ver, blk, hl, hm, hr⟩
  · exact Nat.lt_of_lt_of_le (h.base b hb).1 h.keeps.size
  · have hlv : blk.live = true := by cases blk <;> simp_all [Blk.mut, Blk.live]
    exact hr ▸ h.hi s ver blk hl hlv

theorem bytes_elems (w : World) (M : Nat → Prop) : ∀ s : List UInt8, PElems w M 1 (s.map fun b => P.int .u8 b.toNat) (s.map fun b => Value.int .u8 b.toNat)
  | [] => by simp [PElems]
  | b :: s => by
    simp only [List.map_cons, PElems]
    exact ⟨[_], _, rfl, rfl, by simp [Value.oneCell'], by simp [PElem], bytes_elems w M s⟩

theorem conv_good (h : SR M0 D w0 ρ σ a w) {k : CK} {x : X} {o : Operand} {src dstT : TypeId} {dst : Nat} {e : Eff} (hx : chkX x o = true) (hk : ckOk Pg k src dstT = true)
    (he : aop σ dst (.conv k x) = some e) : Good Pg M0 D w0 σ a w (do pure (.value (← convert src dstT (a.eval o)))) e := by
  have h1 := ev_rel h hx
  simp only [aop] at he
  split at he
  · rename_i k k' n hev
    rw [hev] at h1; simp only [LRel, PRel] at h1
    obtain ⟨l, hl, rfl⟩ := pureE_some he
    injection hl with hl; subst hl
    simp only [ckOk, Bool.and_eq_true, decide_eq_true_eq] at hk
    obtain ⟨d, hd⟩ := Option.isSome_iff_exists.1 hk.2
    refine good_pure h (v := .int k (k.wrap n)) ?_ (by simp [LRel, PRel])
    simp [convert, run_underlying hd, run_underlying (intOf_eq hk.1), h1, Conv.intToInt]
  · rename_i k' n hev
    rw [hev] at h1; simp only [LRel, PRel] at h1
    obtain ⟨l, hl, rfl⟩ := pureE_some he
    injection hl with hl; subst hl
    simp only [ckOk, Bool.and_eq_true] at hk
    obtain ⟨d, hd⟩ := Option.isSome_iff_exists.1 hk.2
    refine good_pure h (v := .string (Utf8.encode n)) ?_ (by simp [LRel, PRel])
    simp [convert, run_underlying (intOf_eq hd), run_underlying (isStr_eq hk.1), h1, Conv.intToString]
  · rename_i s hev
    rw [hev] at h1; simp only [LRel, PRel] at h1
    obtain ⟨l, hl, rfl⟩ := pureE_some he
    injection hl with hl; subst hl
    simp only [ckOk, Bool.and_eq_true] at hk
    refine good_pure h (v := .string (bs s)) ?_ (by simp [LRel, PRel, bs])
    simp [convert, run_underlying (isStr_eq hk.1), run_underlying (isStr_eq hk.2), h1, bs]
  · rename_i l hl0
    split at he
    · rename_i es ss hel
      have hnstr : (∀ s, ev σ.env x ≠ .p (.str s)) ∧ ∃ s, u8s es = some s ∧ e = ⟨.p (.str s), [], ss⟩ := by
        split at he
        · cases he
        · rename_i l' hne
          cases hu : u8s es with
          | none => rw [hu] at he; cases he
          | some s => rw [hu] at he; simp only [Option.map_some, Option.some.injEq] at he; exact ⟨fun s hs => hne s hs, s, rfl, he.symm⟩
      obtain ⟨hns, s, hu, rfl⟩ := hnstr
      obtain ⟨vs, hp, hv⟩ := elems_rel h hel h1
      obtain ⟨ns, rfl, rfl⟩ := u8s_rel hu hp
      have hlen := PElems_len hp
      simp only [List.length_map, Nat.mul_one] at hlen
      simp only [ckOk, Bool.and_eq_true] at hk
      obtain ⟨hk1, hk2⟩ := hk
      split at hk2
      · rename_i el hsl
        simp only [Bool.and_eq_true, decide_eq_true_eq] at hk2
        rcases hv with ⟨o', cap, hv, hcap, hr⟩ | ⟨_, s', hs', _⟩
        · have hb : (Conv.bytesToString (a.eval o)).run Pg w = .ok (.string (bs (ns.map fun n => UInt8.ofNat n.toNat))) w := by
            apply run_bts
            by_cases hne : es = []
            · subst hne
              simp only [List.length_nil] at hlen
              have hns0 : ns = [] := List.length_eq_zero_iff.1 hlen
              exact .inr ⟨hns0, o', cap, by simpa using hv⟩
            · obtain ⟨ad, rfl, _, hrd⟩ := hr hne
              exact .inl ⟨cap, ad, by rw [hv, hlen], hrd⟩
          refine good_pure h (v := .string (bs (ns.map fun n => UInt8.ofNat n.toNat))) ?_ (by simp [LRel, PRel, bs])
          have hq : (convert src dstT (a.eval o)).run Pg w = (Conv.bytesToString (a.eval o)).run Pg w := by
            rw [hv]
            simp [convert, run_underlying (slOf_eq hsl), run_underlying (isStr_eq hk1), run_underlying (intOf_eq hk2.1)]
          rw [hq, hb]
        · exact absurd hs' (hns s')
      · cases hk2
    · cases he
  · rename_i s hev
    rw [hev] at h1; simp only [LRel, PRel] at h1
    obtain ⟨l, hl, rfl⟩ := pureE_some he
    injection hl with hl; subst hl
    simp only [ckOk, Bool.and_eq_true] at hk
    obtain ⟨hk1, hk2⟩ := hk
    split at hk2
    · rename_i el hsl
      simp only [decide_eq_true_eq] at hk2
      have hrun := Lib.run_convert_string_bytes (P := Pg) w src dstT el (bs s) (isStr_eq hk1) (slOf_eq hsl) (intOf_eq hk2)
      have h2 : SR M0 D w0 ρ σ a (Lib.bytesWorld w el (bs s)) := h.grow (by rw [Lib.bytesWorld_size]; omega) (fun k hk => Lib.bytesWorld_at_old w el _ k hk) rfl rfl rfl
      have h1' : a.eval o = .string (bs s) := h1
      refine ⟨.value _, _, _, ρ, by simp [h1', hrun]; rfl, .inl rfl, h2, ?_⟩
      simp only [LRel, PRel, List.length_map, bs_size]
      refine ⟨_, _, _, rfl, ?_, bytes_elems _ _ s, fun hne => ⟨_, rfl, rfl, fun hm => ?_, by rw [Lib.bytesWorld_size]; exact Nat.lt_succ_self _, ?_⟩⟩
      · unfold grownCap; simp [Question.cut]
      · exact absurd (mut_lt h hm) (by simp)
      · intro i v hv
        have hi : i < s.length := by
          rcases Nat.lt_or_ge i s.length with h | h
          · exact h
          · simp [List.getElem?_eq_none h] at hv
        have := Lib.bytesWorld_cell w el (bs s) i (by rw [bs_size]; exact hi)
        have hadd : (⟨w.heap.size, 0, none⟩ : Addr).add i = ⟨w.heap.size, i, none⟩ := by unfold Addr.add; split <;> simp_all
        rw [hadd, this]
        simp [bs, hi] at hv ⊢
        exact hv
    · cases hk2
  · cases he

end Go.AW
namespace Go.AW

variable {M0 M M' : Nat → Prop} {D : List Nat} {w0 : Base} {w w' : World} {ρ ρ' : Nat → Nat} {σ : AS} {a : Act} {Pg : Program}

theorem fn_good (h : SR M0 D w0 ρ σ a w) {f : FuncId} {xs : List X} {os : Array Operand} {dst : Nat} {e : Eff} (hx : chkXs xs os.toList = true)
    (he : aop σ dst (.fn f xs) = some e) : Good Pg M0 D w0 σ a w (do pure (.value (← Instr.makeFunc (.func f) ((#[] : Array Operand).map a.eval) (os.map a.eval)))) e := by
  simp only [aop] at he
  obtain ⟨l, hl, rfl⟩ := pureE_some he
  injection hl with hl; subst hl
  refine good_pure h (v := .func (.func f) #[] (os.map a.eval)) (by simp [Instr.makeFunc]) ?_
  simp only [LRel]
  exact ⟨_, rfl, by simpa using evs_rel h hx⟩

theorem bound_run (h : SR M0 D w0 ρ σ a w) {x : Option X} {o : Option Operand} {d : Nat} {j : Int} (hx : chkXo x o = true) (hb : bound (x.map (ev σ.env)) d = some j) :
    (o = none ∧ j = d) ∨ ∃ o' k, o = some o' ∧ a.eval o' = .int k j := by
  cases x with
  | none =>
    cases o with
    | none => simp only [Option.map_none, bound, Option.some.injEq] at hb; exact .inl ⟨rfl, hb.symm⟩
    | some _ => simp [chkXo] at hx
  | some x =>
    cases o with
    | none => simp [chkXo] at hx
    | some o =>
      have h1 := ev_rel h (by simpa [chkXo] using hx)
      simp only [Option.map_some] at hb
      unfold bound at hb
      split at hb
      · rename_i heq; cases heq
      · rename_i k j' heq
        injection heq with heq
        rw [heq] at h1
        simp only [LRel, PRel] at h1
        simp only [Option.some.injEq] at hb; subst hb
        exact .inr ⟨o, k, rfl, h1⟩
      · cases hb

theorem run_bounds (h : SR M0 D w0 ρ σ a w) {isSlice : Bool} {len cap : Nat} {lo hi : Option X} {olo ohi : Option Operand} {l u : Int} (hlo : chkXo lo olo = true) (hhi : chkXo hi ohi = true)
    (h1 : bound (lo.map (ev σ.env)) 0 = some l) (h2 : bound (hi.map (ev σ.env)) len = some u) (h0 : 0 ≤ l) (hlu : l ≤ u) (hul : u ≤ len) (hc : len ≤ cap) :
    (Instr.sliceBounds isSlice len cap (olo.map a.eval) (ohi.map a.eval) none).run Pg w = .ok (l.toNat, u.toNat, cap) w := by
  rcases bound_run h hhi h2 with ⟨rfl, hu⟩ | ⟨o2, k2, rfl, hv2⟩
  · rcases bound_run h hlo h1 with ⟨rfl, hl⟩ | ⟨o1, k1, rfl, hv1⟩
    · subst hl; subst hu; simp [Instr.sliceBounds]
    · have h3 : 0 ≤ l ∧ l ≤ (len : Int) := ⟨h0, by omega⟩
      subst hu
      simp [Instr.sliceBounds, Instr.sliceBound, asIntOf, hv1, h3]
  · have h4 : 0 ≤ u ∧ u ≤ (cap : Int) := ⟨by omega, by omega⟩
    rcases bound_run h hlo h1 with ⟨rfl, hl⟩ | ⟨o1, k1, rfl, hv1⟩
    · subst hl; simp [Instr.sliceBounds, Instr.sliceBound, asIntOf, hv2, h4]
    · have h3 : 0 ≤ l ∧ l ≤ (u.toNat : Int) := ⟨h0, by omega⟩
      simp [Instr.sliceBounds, Instr.sliceBound, asIntOf, hv1, hv2, h4, h3]
      intro hh; exfalso; omega

theorem sstr_good (h : SR M0 D w0 ρ σ a w) {x : X} {lo hi : Option X} {o : Operand} {olo ohi : Option Operand} {t : TypeId} {dst : Nat} {e : Eff} (hx : chkX x o = true)
    (hlo : chkXo lo olo = true) (hhi : chkXo hi ohi = true) (ht : isStr Pg t = true)
    (he : aop σ dst (.sstr x lo hi) = some e) : Good Pg M0 D w0 σ a w (do pure (.value (← Instr.sliceAt t (a.eval o) (olo.map a.eval) (ohi.map a.eval) none))) e := by
  have h1 := ev_rel h hx
  simp only [aop] at he
  split at he
  · rename_i s hev
    rw [hev] at h1; simp only [LRel, PRel] at h1
    split at he
    · rename_i l u hl hu
      split at he
      · rename_i hb
        obtain ⟨hb1, hb2, hb3⟩ := hb
        obtain ⟨l', hl', rfl⟩ := pureE_some he
        injection hl' with hl'; subst hl'
        have hrun := run_bounds (Pg := Pg) h (isSlice := false) (cap := s.length) hlo hhi hl hu hb1 hb2 hb3 (Nat.le_refl _)
        have h1' : a.eval o = .string (bs s) := h1
        refine good_pure h (v := .string ((bs s).extract l.toNat u.toNat)) ?_ ?_
        · simp [Instr.sliceAt, Instr.slice, run_underlying (isStr_eq ht), h1', bs_size, hrun]
        · simp only [LRel, PRel]
          have := Lib.extract_data (bs s) l.toNat u.toNat
          rw [← bs_of ((bs s).extract l.toNat u.toNat), this]
          simp only [bs]
          congr 1
          simp [List.drop_take]
      · cases he
    · cases he
  · cases he

theorem slice_good (h : SR M0 D w0 ρ σ a w) {n : Nat} {x : X} {lo hi : Option X} {o : Operand} {olo ohi : Option Operand} {t el : TypeId} {dst : Nat} {e : Eff} (hx : chkX x o = true)
    (hlo : chkXo lo olo = true) (hhi : chkXo hi ohi = true) (ht : slOf Pg t = some el) (hs : szOf Pg el = some n)
    (he : aop σ dst (.slice n x lo hi) = some e) : Good Pg M0 D w0 σ a w (do pure (.value (← Instr.sliceAt t (a.eval o) (olo.map a.eval) (ohi.map a.eval) none))) e := by
  have h1 := ev_rel h hx
  have run : ∀ (ad : Option Addr) (len cap : Nat) (l u : Int), a.eval o = .slice ad len cap → bound (lo.map (ev σ.env)) 0 = some l → bound (hi.map (ev σ.env)) len = some u →
      0 ≤ l → l ≤ u → u ≤ len → len ≤ cap →
      (Instr.sliceAt t (a.eval o) (olo.map a.eval) (ohi.map a.eval) none).run Pg w = .ok (.slice (if cap = l.toNat then ad else ad.map (·.add (l.toNat * n))) (u.toNat - l.toNat) (cap - l.toNat)) w := by
    intro ad len cap l u hv hl hu h2 h3 h4 h5
    have hrun := run_bounds (Pg := Pg) h (isSlice := true) (cap := cap) hlo hhi hl hu h2 h3 h4 h5
    simp [Instr.sliceAt, Instr.slice, run_underlying (slOf_eq ht), hv, hrun, szOf_run hs]
  simp only [aop] at he
  split at he
  · rename_i s ver off len hev
    rw [hev] at h1
    split at he
    · rename_i m es fz ha
      split at he
      · rename_i l u hl hu
        split at he
        · rename_i hb
          obtain ⟨hm, hb1, hb2, hb3⟩ := hb
          subst hm
          obtain ⟨cap, c, tt, vs, rest, hv, h2, h3, h4, h5, h6, h7⟩ := sl_now h h1 ha
          have hr := run _ _ _ _ _ hv hl hu hb1 hb2 hb3 h3
          split at he
          · rename_i hlz
            simp only [Option.some.injEq] at he; subst he
            refine good_pure h hr ?_
            simp only [LRel, PRel]
            have : u.toNat - l.toNat = 0 := by rw [hlz.1]; omega
            rw [this]
            exact ⟨_, _, [], rfl, Nat.zero_le _, by simp [PElems], fun hh => absurd rfl hh⟩
          · rename_i hlz
            simp only [Option.some.injEq] at he; subst he
            refine good_pure h hr ?_
            simp only [LRel]
            refine ⟨rfl, ver, _, arrAt_look ha, Nat.le_refl _, fun _ => ?_⟩
            simp only [slK]
            have had : (if cap = l.toNat then some (⟨ρ s, off * m, none⟩ : Addr) else some ((⟨ρ s, off * m, none⟩ : Addr).add (l.toNat * m))) = some ⟨ρ s, (off + l.toNat) * m, none⟩ := by
              by_cases hl0 : l.toNat = 0
              · simp [hl0, Addr.add]
              · have hne : cap ≠ l.toNat := by
                  intro he'
                  apply hlz
                  omega
                rw [if_neg hne]
                simp only [Addr.add]
                split
                · rename_i hz; rw [Nat.add_mul, hz, Nat.add_zero]
                · rw [Nat.add_mul]
            refine ⟨cap - l.toNat, c, tt, (0, 0), by simpa using had, by omega, by omega, h5, ?_⟩
            have : off + l.toNat + (cap - l.toNat) = off + cap := by omega
            rw [this]; exact h4
        · cases he
      · cases he
    · cases he
  · rename_i m es hev
    rw [hev] at h1
    split at he
    · rename_i l u hl hu
      split at he
      · rename_i hb
        obtain ⟨hm, hb1, hb2, hb3⟩ := hb
        subst hm
        obtain ⟨l', hl', rfl⟩ := pureE_some he
        injection hl' with hl'; subst hl'
        simp only [LRel, PRel] at h1
        obtain ⟨ad, cap, vs, hv, hc, hp, hn⟩ := h1
        have hr := run _ _ _ _ _ hv hl hu hb1 hb2 hb3 hc
        refine good_pure h hr ?_
        simp only [LRel, PRel]
        have hp2 := PElems_drop l.toNat (PElems_take u.toNat hp)
        have hlen : ((es.take u.toNat).drop l.toNat).length = u.toNat - l.toNat := by simp; omega
        refine ⟨_, _, _, by rw [hlen], by rw [hlen]; omega, hp2, fun hne => ?_⟩
        have hes : es ≠ [] := by intro h0; subst h0; simp at hne
        obtain ⟨ad', rfl, hs0, hM, hbl, hrd⟩ := hn hes
        have hlt : l.toNat < u.toNat := by
          rcases Nat.lt_or_ge l.toNat u.toNat with h | h
          · exact h
          · exact absurd (List.length_eq_zero_iff.1 (by rw [hlen]; omega)) hne
        have hne2 : cap ≠ l.toNat := by omega
        refine ⟨ad'.add (l.toNat * m), by simp [hne2], ?_, ?_, ?_, ?_⟩
        · unfold Addr.add; split
          · exact hs0
          · rfl
        · have : (ad'.add (l.toNat * m)).block = ad'.block := by unfold Addr.add; split <;> rfl
          rw [this]; exact hM
        · have : (ad'.add (l.toNat * m)).block = ad'.block := by unfold Addr.add; split <;> rfl
          rw [this]; exact hbl
        · intro i v hv
          rw [List.getElem?_drop] at hv
          rw [List.getElem?_take] at hv
          split at hv
          · have h3 := hrd _ v hv
            have : (ad'.add (l.toNat * m)).add i = ad'.add (l.toNat * m + i) := by
              unfold Addr.add
              by_cases h5 : l.toNat * m = 0 <;> by_cases h6 : i = 0 <;> simp [h5, h6]
              omega
            rw [this]; exact h3
          · cases hv
      · cases he
    · cases he
  · rename_i m hev
    rw [hev] at h1
    split at he
    · rename_i l u hl hu
      split at he
      · rename_i hb
        obtain ⟨rfl, rfl⟩ := hb
        obtain ⟨l', hl', rfl⟩ := pureE_some he
        injection hl' with hl'; subst hl'
        simp only [LRel, PRel] at h1
        obtain ⟨ad, hv⟩ := h1
        have hr := run _ _ _ _ _ hv hl hu (Int.le_refl _) (Int.le_refl _) (Int.le_refl _) (Nat.le_refl _)
        refine good_pure h hr ?_
        simp only [LRel, PRel]
        exact ⟨ad, by simp⟩
      · cases he
    · cases he
  · cases he

theorem slice0_good (h : SR M0 D w0 ρ σ a w) {n : Nat} {x : X} {o l u m : Operand} {t el : TypeId} {dst : Nat} {e : Eff} (hx : chkX x o = true)
    (ht : slOf Pg t = some el) (hs : szOf Pg el = some n) (h1 : a.eval l = .int .i64 0) (h2 : a.eval u = .int .i64 0) (h3 : a.eval m = .int .i64 0)
    (he : aop σ dst (.slice0 n x) = some e) : Good Pg M0 D w0 σ a w (do pure (.value (← Instr.sliceAt t (a.eval o) (some (a.eval l)) (some (a.eval u)) (some (a.eval m))))) e := by
  have hv := ev_rel h hx
  have run : ∀ (ad : Option Addr) (len cap : Nat), a.eval o = .slice ad len cap →
      ∃ ad', (Instr.sliceAt t (a.eval o) (some (a.eval l)) (some (a.eval u)) (some (a.eval m))).run Pg w = .ok (.slice ad' 0 0) w := by
    intro ad len cap hv
    exact ⟨_, by simp [Instr.sliceAt, Instr.slice, run_underlying (slOf_eq ht), hv, szOf_run hs, Instr.sliceBounds, Instr.sliceBound, asIntOf, h1, h2, h3]; rfl⟩
  have fin : ∀ (ad : Option Addr) (len cap : Nat) (rd : List Nat), a.eval o = .slice ad len cap → Good Pg M0 D w0 σ a w (do pure (.value (← Instr.sliceAt t (a.eval o) (some (a.eval l)) (some (a.eval u)) (some (a.eval m))))) ⟨.p (.z n), [], rd⟩ := by
    intro ad len cap rd hv
    obtain ⟨ad', hr⟩ := run ad len cap hv
    exact good_pure h hr (by simp only [LRel, PRel]; exact ⟨ad', rfl⟩)
  simp only [aop] at he
  split at he
  · rename_i s ver off len hev
    rw [hev] at hv
    split at he
    · rename_i x' ha
      obtain ⟨cap, c, tt, vs, rest, hv', _⟩ := sl_now h hv ha
      simp only [Option.some.injEq] at he; subst he
      exact fin _ _ _ _ hv'
    · cases he
  · rename_i m' es hev
    rw [hev] at hv; simp only [LRel, PRel] at hv
    obtain ⟨ad, cap, vs, hv', _⟩ := hv
    obtain ⟨l', hl', rfl⟩ := pureE_some he
    injection hl' with hl'; subst hl'
    exact fin _ _ _ _ hv'
  · rename_i m' hev
    rw [hev] at hv; simp only [LRel, PRel] at hv
    obtain ⟨ad, hv'⟩ := hv
    obtain ⟨l', hl', rfl⟩ := pureE_some he
    injection hl' with hl'; subst hl'
    exact fin _ _ _ _ hv'
  · cases he

end Go.AW
namespace Go.AW

variable {M0 M M' : Nat → Prop} {D : List Nat} {w0 : Base} {w w' : World} {ρ ρ' : Nat → Nat} {σ : AS} {a : Act} {Pg : Program}

def fieldOf (Pg : Program) (t : TypeId) (i : Nat) : Option Field := (stOf Pg t).bind (·[i]?)

theorem add_add (ad : Addr) (i j : Nat) : (ad.add i).add j = ad.add (i + j) := by
  unfold Addr.add
  by_cases h5 : i = 0 <;> by_cases h6 : j = 0 <;> simp [h5, h6]
  omega
theorem add_block (ad : Addr) (i : Nat) : (ad.add i).block = ad.block := by unfold Addr.add; split <;> rfl
theorem add_spot (ad : Addr) (i : Nat) (h : ad.spot = none) : (ad.add i).spot = none := by unfold Addr.add; split <;> simp [h]
theorem add_lit (b o i : Nat) : (⟨b, o, none⟩ : Addr).add i = ⟨b, o + i, none⟩ := by unfold Addr.add; split <;> simp_all

theorem reads_drop {ad : Addr} {vs : List Value} (h : Reads w ad vs) (k : Nat) : Reads w (ad.add k) (vs.drop k) := by
  intro i v hv
  rw [List.getElem?_drop] at hv
  rw [add_add]; exact h _ v hv

theorem faddr_good (h : SR M0 D w0 ρ σ a w) {off : Nat} {x : X} {o : Operand} {t : TypeId} {fi : Nat} {f : Field} {n : Nat} {dst : Nat} {e : Eff} (hx : chkX x o = true)
    (hf : fieldOf Pg t fi = some f) (ho : f.offset = off) (hs : szOf Pg f.type = some n) (hn : n ≠ 0)
    (he : aop σ dst (.faddr off x) = some e) : Good Pg M0 D w0 σ a w (do pure (.value (← Instr.fieldAt t (a.eval o) fi))) e := by
  have h1 := ev_rel h hx
  unfold fieldOf at hf
  cases hst : stOf Pg t with
  | none => simp [hst] at hf
  | some fs =>
    simp only [hst, Option.bind_some] at hf
    have run : ∀ ad : Addr, a.eval o = .pointer (some ad) → (Instr.fieldAt t (a.eval o) fi).run Pg w = .ok (.pointer (some (ad.add off))) w := by
      intro ad hv
      simp [Instr.fieldAt, run_underlying (stOf_eq hst), hf, hv, Instr.sureAddr, fieldPlace, szOf_run hs, hn, ho]
    simp only [aop] at he
    split at he
    · rename_i s ver o' hev
      rw [hev] at h1
      cases hb : boxAt σ.mem s ver with
      | none => rw [hb] at he; cases he
      | some b =>
        rw [hb] at he
        simp only [Option.map_some, Option.some.injEq] at he; subst he
        simp only [LRel] at h1
        have hk := boxAt_look (cs := b.1) (fz := b.2) hb
        have hv := h1.2.now hk
        refine good_pure h (run _ hv) ?_
        simp only [LRel]
        exact ⟨rfl, ver, _, hk, Nat.le_refl _, fun _ => by simp [ptrK, add_lit]⟩
    · rename_i s ver i o' hev
      rw [hev] at h1
      cases hb : arrAt σ.mem s ver with
      | none => rw [hb] at he; cases he
      | some b =>
        rw [hb] at he
        simp only [Option.map_some, Option.some.injEq] at he; subst he
        simp only [LRel] at h1
        have hk := arrAt_look (n := b.1) (es := b.2.1) (fz := b.2.2) hb
        have hv := h1.2.now hk
        refine good_pure h (run _ hv) ?_
        simp only [LRel]
        exact ⟨rfl, ver, _, hk, Nat.le_refl _, fun _ => by simp [eptrK, add_lit, Nat.add_assoc]⟩
    · rename_i cs hev
      rw [hev] at h1
      obtain ⟨l, hl, rfl⟩ := pureE_some he
      injection hl with hl; subst hl
      simp only [LRel, PRel] at h1
      obtain ⟨ad, vs, hv, h2, h3, h4, h5, h6⟩ := h1
      refine good_pure h (run _ hv) ?_
      simp only [LRel, PRel]
      exact ⟨_, _, rfl, add_spot _ _ h2, by rw [add_block]; exact h3, by rw [add_block]; exact h4, PRels_drop off h5, reads_drop h6 off⟩
    · cases he

theorem field_good (h : SR M0 D w0 ρ σ a w) {ag : Bool} {off n : Nat} {x : X} {o : Operand} {t : TypeId} {fi : Nat} {f : Field} {dst : Nat} {e : Eff} (hx : chkX x o = true)
    (hf : fieldOf Pg t fi = some f) (ho : f.offset = off) (hs : szOf Pg f.type = some n) (ha : agOf Pg f.type = some ag)
    (he : aop σ dst (.field ag off n x) = some e) : Good Pg M0 D w0 σ a w (do pure (.value (← Instr.field t (a.eval o) fi))) e := by
  have h1 := ev_rel h hx
  unfold fieldOf at hf
  cases hst : stOf Pg t with
  | none => simp [hst] at hf
  | some fs =>
    simp only [hst, Option.bind_some] at hf
    have fin : ∀ (cs : Array Value) (ls : List L) (l : L), a.eval o = .agg cs → LRels w (mutOf M0 ρ σ.mem) ρ σ.mem ls cs.toList → mkv ag n ((ls.drop off).take n) = some l →
        Good Pg M0 D w0 σ a w (do pure (.value (← Instr.field t (a.eval o) fi))) ⟨l, [], []⟩ := by
      intro cs ls l hv hr hl
      obtain ⟨h2, h3⟩ := mkv_rel (LRels_take n (LRels_drop off hr)) hl
      rcases h3 with ⟨h3, h4⟩ | ⟨h3, v, h4, h5⟩
      · subst h3
        refine good_pure h (v := .agg ((cs.toList.drop off).take n).toArray) ?_ h4
        simp [Instr.field, run_underlying (stOf_eq hst), hf, hv, asAgg, part, agOf_run ha, szOf_run hs, ho]
        apply Array.ext'
        simp
      · subst h3
        refine good_pure h (v := v) ?_ h5
        have : cs[off]? = some v := by
          cases n with
          | zero => simp at h4
          | succ n =>
            rw [List.head?_take, List.head?_drop] at h4
            simpa using h4
        simp [Instr.field, run_underlying (stOf_eq hst), hf, hv, asAgg, part, agOf_run ha, ho, this]
    simp only [aop] at he
    split at he
    · rename_i xs hev
      rw [hev] at h1
      obtain ⟨l, hl, rfl⟩ := pureE_some he
      simp only [LRel] at h1
      obtain ⟨vs, hv, h1⟩ := h1
      exact fin vs xs l hv h1 hl
    · rename_i cs hev
      rw [hev] at h1
      obtain ⟨l, hl, rfl⟩ := pureE_some he
      simp only [LRel, PRel] at h1
      obtain ⟨vs, hv, h1⟩ := h1
      exact fin vs _ l hv ((LRels_P _ _).2 h1) hl
    · cases he

theorem iaddr_good (h : SR M0 D w0 ρ σ a w) {n : Nat} {x i : X} {o oi : Operand} {t el : TypeId} {dst : Nat} {e : Eff} (hx : chkX x o = true) (hi : chkX i oi = true)
    (ht : slOf Pg t = some el) (hs : szOf Pg el = some n)
    (he : aop σ dst (.iaddr n x i) = some e) : Good Pg M0 D w0 σ a w (do pure (.value (← Instr.indexAt t (a.eval o) (a.eval oi)))) e := by
  have h1 := ev_rel h hx
  have h2 := ev_rel h hi
  simp only [aop] at he
  split at he
  · rename_i k j hei
    rw [hei] at h2; simp only [LRel, PRel] at h2
    have run : ∀ (ad : Addr) (len cap : Nat), a.eval o = .slice (some ad) len cap → 0 ≤ j → j < len → (Instr.indexAt t (a.eval o) (a.eval oi)).run Pg w = .ok (.pointer (some (ad.add (j.toNat * n)))) w := by
      intro ad len cap hv h3 h4
      simp [Instr.indexAt, h2, asIntOf, hv, run_underlying (slOf_eq ht), h3, h4, szOf_run hs]
    split at he
    · rename_i s ver off len hev
      rw [hev] at h1
      split at he
      · rename_i m es fz ha
        split at he
        · rename_i hb
          obtain ⟨rfl, hb1, hb2⟩ := hb
          simp only [Option.some.injEq] at he; subst he
          obtain ⟨cap, c, tt, vs, rest, hv, _⟩ := sl_now h h1 ha
          refine good_pure h (run _ _ _ hv hb1 hb2) ?_
          simp only [LRel]
          exact ⟨rfl, ver, _, arrAt_look ha, Nat.le_refl _, fun _ => by simp [eptrK, add_lit, Nat.add_mul]⟩
        · cases he
      · cases he
    · rename_i m es hev
      rw [hev] at h1
      split at he
      · rename_i hb
        obtain ⟨rfl, hb1, hb2⟩ := hb
        obtain ⟨l, hl, rfl⟩ := pureE_some he
        injection hl with hl; subst hl
        simp only [LRel, PRel] at h1
        obtain ⟨ad, cap, vs, hv, hc, hp, hn⟩ := h1
        have hlt : j.toNat < es.length := by omega
        obtain ⟨ad', rfl, hs0, hM, hbl, hrd⟩ := hn (by intro h0; subst h0; simp at hlt)
        refine good_pure h (run _ _ _ hv hb1 hb2) ?_
        simp only [LRel, PRel]
        obtain ⟨c, e1, hl1, _, hp1, _⟩ := PElems_split hp hlt
        refine ⟨_, c, rfl, add_spot _ _ hs0, by rw [add_block]; exact hM, by rw [add_block]; exact hbl, (PElem_iff _ _).1 hp1, ?_⟩
        rw [e1]
        intro i v hi
        rw [List.getElem?_take] at hi
        split at hi
        · exact reads_drop hrd _ i v hi
        · cases hi
      · cases he
    · cases he
  · cases he

theorem index_good (h : SR M0 D w0 ρ σ a w) {x i : X} {o oi : Operand} {t : TypeId} {dst : Nat} {e : Eff} (hx : chkX x o = true) (hi : chkX i oi = true)
    (ht : isStr Pg t = true) (he : aop σ dst (.index x i) = some e) : Good Pg M0 D w0 σ a w (do pure (.value (← Instr.index t (a.eval o) (a.eval oi)))) e := by
  have h1 := ev_rel h hx
  have h2 := ev_rel h hi
  simp only [aop] at he
  split at he
  · rename_i s k j hes hej
    rw [hes] at h1; rw [hej] at h2; simp only [LRel, PRel] at h1 h2
    split at he
    · rename_i hb
      obtain ⟨l, hl, rfl⟩ := pureE_some he
      injection hl with hl; subst hl
      have hlt : j.toNat < s.length := by omega
      refine good_pure h (v := .int .u8 (s.getD j.toNat 0).toNat) ?_ (by simp [LRel, PRel])
      have hg : (bs s)[j.toNat]? = some (s.getD j.toNat 0) := by
        have : j.toNat < (bs s).size := by rw [bs_size]; exact hlt
        rw [getElem?_pos (bs s) j.toNat this]
        simp [bs, hlt]
        rfl
      have h1' : a.eval o = .string (bs s) := h1
      simp [Instr.index, h1', h2, asIntOf, run_underlying (isStr_eq ht), hb.1, hg]
    · cases he
  · cases he

theorem extr_good (h : SR M0 D w0 ρ σ a w) {x : X} {i : Nat} {o : Operand} {dst : Nat} {e : Eff} (hx : chkX x o = true)
    (he : aop σ dst (.extr x i) = some e) : Good Pg M0 D w0 σ a w (do pure (.value (← Instr.extract (a.eval o) i))) e := by
  have h1 := ev_rel h hx
  simp only [aop] at he
  split at he
  · rename_i xs hev
    rw [hev] at h1; simp only [LRel] at h1
    obtain ⟨vs, hv, hr⟩ := h1
    obtain ⟨l, hl, rfl⟩ := pureE_some he
    obtain ⟨v, h2, h3⟩ := LRels_get hr i l hl
    refine good_pure h (v := v) ?_ h3
    have : vs[i]? = some v := by simpa using h2
    simp [Instr.extract, hv, this]
  · cases he

def mm (mx : Bool) (x y : Int) : Int := if mx then (if y > x then y else x) else (if y < x then y else x)

theorem max_good (h : SR M0 D w0 ρ σ a w) {x y : X} {ox oy : Operand} {ats : Array TypeId} {ty : TypeId} {dst : Nat} {e : Eff} (hx : chkX x ox = true) (hy : chkX y oy = true)
    (he : aop σ dst (.max x y) = some e) : Good Pg M0 D w0 σ a w (do pure (.value (← Builtin.max_ ats ty #[a.eval ox, a.eval oy]))) e := by
  have h1 := ev_rel h hx
  have h2 := ev_rel h hy
  simp only [aop] at he
  split at he
  · rename_i k x' k' y' he1 he2
    rw [he1] at h1; rw [he2] at h2; simp only [LRel, PRel] at h1 h2
    obtain ⟨l, hl, rfl⟩ := pureE_some he
    injection hl with hl; subst hl
    exact good_pure h (v := .int k (if y' > x' then y' else x')) (by simp [Builtin.max_, h1, h2, Builtin.max2]) (by simp [LRel, PRel])
  · cases he
theorem min_good (h : SR M0 D w0 ρ σ a w) {x y : X} {ox oy : Operand} {ats : Array TypeId} {ty : TypeId} {dst : Nat} {e : Eff} (hx : chkX x ox = true) (hy : chkX y oy = true)
    (he : aop σ dst (.min x y) = some e) : Good Pg M0 D w0 σ a w (do pure (.value (← Builtin.min_ ats ty #[a.eval ox, a.eval oy]))) e := by
  have h1 := ev_rel h hx
  have h2 := ev_rel h hy
  simp only [aop] at he
  split at he
  · rename_i k x' k' y' he1 he2
    rw [he1] at h1; rw [he2] at h2; simp only [LRel, PRel] at h1 h2
    obtain ⟨l, hl, rfl⟩ := pureE_some he
    injection hl with hl; subst hl
    exact good_pure h (v := .int k (if y' < x' then y' else x')) (by simp [Builtin.min_, h1, h2, Builtin.min2]) (by simp [LRel, PRel])
  · cases he

theorem len_good (h : SR M0 D w0 ρ σ a w) {str : Bool} {x : X} {o : Operand} {t ty : TypeId} {dst : Nat} {e : Eff} (hx : chkX x o = true)
    (ht : if str then isStr Pg t = true else (slOf Pg t).isSome = true)
    (he : aop σ dst (.len str x) = some e) : Good Pg M0 D w0 σ a w (do pure (.value (← Builtin.len_ #[t] ty #[a.eval o]))) e := by
  have h1 := ev_rel h hx
  simp only [aop] at he
  have sl : ∀ ad n c, str = false → a.eval o = .slice ad n c → (Builtin.len_ #[t] ty #[a.eval o]).run Pg w = .ok (.int .i64 n) w := by
    intro ad n c hstr hv
    subst hstr
    simp at ht
    obtain ⟨el, hel⟩ := Option.isSome_iff_exists.1 ht
    simp [Builtin.len_, run_underlying (slOf_eq hel), hv, goInt]
  split at he
  · rename_i s ver off len hev
    rw [hev] at h1
    cases ha : arrAt σ.mem s ver with
    | none => rw [ha] at he; cases he
    | some b =>
      rw [ha] at he
      simp only [Option.map_some, Option.some.injEq] at he; subst he
      obtain ⟨cap, c, tt, vs, rest, hv, _⟩ := sl_now (n := b.1) (es := b.2.1) (fz := b.2.2) h h1 ha
      exact good_pure h (sl _ _ _ rfl hv) (by simp [LRel, PRel])
  · rename_i n es hev
    rw [hev] at h1; simp only [LRel, PRel] at h1
    obtain ⟨ad, cap, vs, hv, _⟩ := h1
    obtain ⟨l, hl, rfl⟩ := pureE_some he
    injection hl with hl; subst hl
    exact good_pure h (sl _ _ _ rfl hv) (by simp [LRel, PRel])
  · rename_i n hev
    rw [hev] at h1; simp only [LRel, PRel] at h1
    obtain ⟨ad, hv⟩ := h1
    obtain ⟨l, hl, rfl⟩ := pureE_some he
    injection hl with hl; subst hl
    exact good_pure h (sl _ _ _ rfl hv) (by simp [LRel, PRel])
  · rename_i s hev
    rw [hev] at h1; simp only [LRel, PRel] at h1
    obtain ⟨l, hl, rfl⟩ := pureE_some he
    injection hl with hl; subst hl
    simp only [if_true] at ht
    have h1' : a.eval o = .string (bs s) := h1
    exact good_pure h (v := .int .i64 s.length) (by simp [Builtin.len_, run_underlying (isStr_eq ht), h1', goInt, bs_size]) (by simp [LRel, PRel])
  · cases he

end Go.AW
namespace Go.AW

variable {M0 M M' : Nat → Prop} {D : List Nat} {w0 : Base} {w w' : World} {ρ ρ' : Nat → Nat} {σ : AS} {a : Act} {Pg : Program}

theorem wrap64 {n : Int} (h0 : 0 ≤ n) (h1 : n < 9223372036854775808) : IntKind.i64.wrap n = n := by
  simp [IntKind.wrap, IntKind.bits, IntKind.signed]
  omega

def zsOk (Pg : Program) (el : TypeId) (n : Nat) : Bool := match (Pg.info? el).bind (·.zero) with
  | some z => decide (z.cells.size = n)
  | none => false

def byOf (Pg : Program) (t : TypeId) : Option Nat := (Pg.info? t).map (·.bytes)

theorem mks_good (h : SR M0 D w0 ρ σ a w) {n bytes : Nat} {zero : P} {l c : X} {ol oc : Operand} {t el : TypeId} {dst : Nat} {e : Eff} (hl : chkX l ol = true) (hc : chkX c oc = true)
    (ht : slOf Pg t = some el) (hs : szOf Pg el = some n) (hb : byOf Pg el = some bytes) (hz : zeroOk1 Pg el n zero = true)
    (he : aop σ dst (.mks n bytes zero l c) = some e) : Good Pg M0 D w0 σ a w (do pure (.value (← Instr.makeSlice t (a.eval ol) (a.eval oc)))) e := by
  have h1 := ev_rel h hl
  have h2 := ev_rel h hc
  simp only [aop] at he
  split at he
  · rename_i k l' k' c' hel hec
    rw [hel] at h1; rw [hec] at h2; simp only [LRel, PRel] at h1 h2
    split at he
    · rename_i hcond
      obtain ⟨c1, c2, c3, c4, c5⟩ := hcond
      simp only [Option.some.injEq] at he; subst he
      simp only [zeroOk1, Bool.and_eq_true, decide_eq_true_eq] at hz
      obtain ⟨z, hz1, hz2⟩ := zeroOk_run hz.1
      obtain ⟨hzr, hzo⟩ := vPs_rel (w := w) (M := mutOf M0 ρ σ.mem) hz2
      have hzl : z.cells.size = n := by have := PRels_len hzr; simpa [hz.2] using this
      have hrows := fun k => PElems_replicate (n := n) (w := w) (M := mutOf M0 ρ σ.mem) (e := zero) (c := z.cells.toList) (by simpa using hzl) hzo ((PElem_iff _ _).2 hzr) k
      have hw1 : IntKind.i64.wrap l' = l' := wrap64 c1 (by omega)
      have hw2 : IntKind.i64.wrap c' = c' := wrap64 (by omega) c3
      cases hi : Pg.info? el with
      | none => simp [byOf, hi] at hb
      | some i =>
        have hib : i.bytes = bytes := by simpa [byOf, hi] using hb
        have hrange : ((Array.range (c'.toNat * n)).map (z.cells[· % z.cells.size]!)).toList = (List.replicate l'.toNat z.cells.toList).flatten ++ (List.replicate (c'.toNat - l'.toNat) z.cells.toList).flatten := by
          rw [zero_rows _ _ _ hzl, ← List.flatten_append, List.replicate_append_replicate]
          congr 2; omega
        have hnew : NewRel w (mutOf M0 ρ σ.mem) ρ σ.mem ((Array.range (c'.toNat * n)).map (z.cells[· % z.cells.size]!)) (.arr n (List.replicate l'.toNat zero) false) :=
          ⟨_, _, hrows _, hrange⟩
        have h3 := h.new dst _ _ el hnew
        refine ⟨.value (.slice (some ⟨w.heap.size, 0, none⟩) l'.toNat c'.toNat), _, _, _, ?_, .inl rfl, h3, sl_new dst n _ _ l'.toNat c'.toNat (by simp) (by omega) (by simp) (heap_alloc_new _ _)⟩
        have n1 : ¬ c' < 0 := by omega
        have n2 : ¬ (281474976710656 < (i.bytes : Int) * c') := by rw [hib]; omega
        have n3 : ¬ l' < 0 := by omega
        have n4 : ¬ c' < l' := by omega
        by_cases h0 : c'.toNat * n = 0
        · have hr0 : Array.range 0 = #[] := rfl
          simp [Instr.makeSlice, run_underlying (slOf_eq ht), h1, h2, asInt, asIntOf, typeInfo, hi, hw1, hw2, n1, n2, n3, n4, szOf_run hs, h0, hr0, newRow]
        · simp [Instr.makeSlice, run_underlying (slOf_eq ht), h1, h2, asInt, asIntOf, typeInfo, hi, hw1, hw2, n1, n2, n3, n4, szOf_run hs, h0, hz1, newRow]
    · cases he
  · cases he

theorem setCells_row {b : Nat} {c : Array Value} {t : TypeId} (hc : w.heap[b]? = some (.cells c t (0, 0))) (o : Nat) (vs : List Value) (hl : o + vs.length ≤ c.size) (h1 : ∀ v ∈ vs, v.oneCell' = true) :
    w.setCells b o vs = w.setRow b (splice c.toList o vs).toArray := by
  have e1 := run_storeCells_at (P := (default : Program)) b o t vs 0 c w hc (by simpa using hl) h1
  have e2 := run_storeCells_cells (P := (default : Program)) b o vs 0 w (fun j hj => by
    have : o + j < c.size := by omega
    simp [World.cell?, hc, this]) (fun j _ => by simp [World.frozen?, hc]) h1
  rw [e1] at e2
  simp only [Nat.add_zero] at e2
  injection e2 with _ e2
  exact e2.symm

theorem growBy_le (newLen : Nat) : ∀ (r c : Nat), c ≤ newLen + (newLen + 768) / 4 → Builtin.growBy newLen r c ≤ newLen + (newLen + 768) / 4
  | 0, c, h => h
  | r + 1, c, h => by
    unfold Builtin.growBy
    split
    · exact h
    · exact growBy_le newLen r _ (by omega)

theorem nextcap_le (need old : Nat) (h : old < need) : Builtin.nextslicecap need old ≤ 2 * need + 512 := by
  unfold Builtin.nextslicecap
  split
  · omega
  · split
    · omega
    · have := growBy_le need 4 old (by omega); omega

theorem PElems_one' {n : Nat} : ∀ {es : List P} {vs : List Value}, PElems w M n es vs → ∀ u ∈ vs, u.oneCell' = true
  | [], _, h => by simp [PElems] at h; simp [h]
  | e :: es, vs, h => by
    simp only [PElems] at h
    obtain ⟨c, rest, rfl, _, ho, _, h2⟩ := h
    intro u hu
    rcases List.mem_append.1 hu with hu | hu
    · exact ho u hu
    · exact PElems_one' h2 u hu

theorem src_of (h : SR M0 D w0 ρ σ a w) {n : Nat} {l : L} {v : Value} {es : List P} {ss : List Nat} {tx : TypeId} (he : elems σ.mem n l = some (es, ss))
    (hl : LRel w (mutOf M0 ρ σ.mem) ρ σ.mem l v) (hk : (slOf Pg tx).isSome = true ∨ isStr Pg tx = true) :
    ∃ vs, PElems w (mutOf M0 ρ σ.mem) n es vs ∧ Src Pg n tx v es.length vs w := by
  obtain ⟨vs, hp, hv⟩ := elems_rel h he hl
  refine ⟨vs, hp, ?_⟩
  have hkind : (∃ e', Pg.underlying tx = some (.slice e')) ∨ Pg.underlying tx = some .string := by
    rcases hk with hk | hk
    · obtain ⟨e', he'⟩ := Option.isSome_iff_exists.1 hk; exact .inl ⟨e', slOf_eq he'⟩
    · exact .inr (isStr_eq hk)
  have hlen := PElems_len hp
  have hone := PElems_one' hp
  rcases hv with ⟨o, cap, rfl, hc, hr⟩ | ⟨hn1, s, _, rfl, rfl, hsl⟩
  · by_cases hne : es = []
    · subst hne
      simp only [List.length_nil, Nat.zero_mul] at hlen
      have hvs : vs = [] := List.length_eq_zero_iff.1 hlen
      subst hvs
      cases o with
      | none => exact ⟨hkind, fun _ => rfl, run_firstCells_none _ _ _ _ _, run_firstCells_none _ _ _ _ _, by simp, by simp⟩
      | some ad => exact ⟨hkind, fun _ => rfl, run_firstCells_some w n 0 ad 0 cap [] (by simp) (by simp), run_firstCells_some w.drew n 0 ad 0 cap [] (by simp) (by simp), by simp, by simp⟩
    · obtain ⟨ad, rfl, _, hrd⟩ := hr hne
      exact ⟨hkind, fun _ => rfl, run_firstCells_some w n _ ad _ cap vs hlen hrd, run_firstCells_some w.drew n _ ad _ cap vs hlen (fun j u hj => by simpa using hrd j u hj), hlen, hone⟩
  · subst hn1
    rw [hsl]
    have e1 : byteCells (bs s) = s.map fun b => Value.int .u8 b.toNat := by simp [byteCells, bs]
    have f1 := firstCells_string (P := Pg) (bs s) w
    have f2 := firstCells_string (P := Pg) (bs s) w.drew
    rw [bs_size, e1] at f1 f2
    exact ⟨hkind, fun _ => by simp [Builtin.lenOf, bs_size], f1, f2, by simp, by simp [Value.oneCell']⟩


theorem agree_drew : Agree M w w.drew := ⟨Nat.le_refl _, fun _ _ _ => rfl⟩

theorem splice_size (c : Array Value) (off : Nat) (xs : List Value) (h : off + xs.length ≤ c.size) : (splice c.toList off xs).toArray.size = c.size := by
  simp only [List.size_toArray]; rw [splice_len _ _ _ (by simpa using h)]; simp

theorem splice_front {α : Type} (vs rest us : List α) : splice (vs ++ rest) vs.length us = (vs ++ us) ++ rest.drop us.length := by
  unfold splice
  rw [List.take_left', List.drop_append]
  · rw [List.drop_of_length_le (by omega)]
    simp
  · rfl

theorem app_good (h : SR M0 D w0 ρ σ a w) {n bytes : Nat} {x y : X} {ox oy : Operand} {t tx ty el : TypeId} {dst : Nat} {e : Eff} (hx : chkX x ox = true) (hy : chkX y oy = true)
    (ht : slOf Pg t = some el) (htx : (slOf Pg tx).isSome = true ∨ isStr Pg tx = true) (hs : szOf Pg el = some n) (hb : byOf Pg el = some bytes) (hb0 : 0 < bytes) (hz : zsOk Pg el n = true)
    (he : aop σ dst (.app n bytes x y) = some e) : Good Pg M0 D w0 σ a w (do pure (.value (← Builtin.append_ #[t, tx] ty #[a.eval ox, a.eval oy]))) e := by
  have h1 := ev_rel h hx
  have h2 := ev_rel h hy
  simp only [aop] at he
  cases hi : Pg.info? el with
  | none => simp [byOf, hi] at hb
  | some i =>
    have hib : i.bytes = bytes := by simpa [byOf, hi] using hb
    have his : i.size = n := by simpa [szOf, hi] using hs
    cases hiz : i.zero with
    | none => simp [zsOk, hi, hiz] at hz
    | some z =>
      have hzl : z.cells.size = n := by simpa [zsOk, hi, hiz] using hz
      split at he
      · rename_i ys ss hys
        obtain ⟨us, hpu, hsrc⟩ := src_of h hys h2 htx
        have hul := PElems_len hpu
        split at he
        · rename_i s ver off len hev
          rw [hev] at h1
          split at he
          · rename_i m es ha
            split at he
            · rename_i hcond
              obtain ⟨rfl, rfl, rfl, hbd⟩ := hcond
              simp only [Option.some.injEq] at he; subst he
              obtain ⟨cap, c, tt, vs, rest, hv, h3, h4, h5, h6, h7, h8⟩ := sl_now h h1 ha
              have hk := arrAt_look ha
              have hvl := PElems_len h7
              have hcs : c.size = vs.length + rest.length := by have : c.toList.length = c.size := by simp
                                                                rw [← this, h8]; simp
              by_cases hroom : es.length + ys.length ≤ cap
              · -- in place
                have hle : (es.length + ys.length) * m ≤ c.size := Nat.le_trans (Nat.mul_le_mul_right m hroom) (by simpa using h5)
                rw [Nat.add_mul] at hle
                have hrun := run_append_room_src (P := Pg) w t tx ty el i (slOf_eq ht) hi (ρ s) 0 es.length cap (a.eval oy) ys.length us (by rw [his]; exact hsrc) hroom
                  (fun j hj => by
                    have : es.length * i.size + j < c.size := by rw [his]; omega
                    simp [World.cell?, h6, this]) (fun j _ => by simp [World.frozen?, h6])
                simp only [Nat.zero_add] at hrun
                rw [his, setCells_row h6 (es.length * m) us (by omega) hsrc.one] at hrun
                have hsp : splice c.toList (es.length * m) us = (vs ++ us) ++ rest.drop us.length := by
                  rw [h8, ← hvl]; exact splice_front _ _ _
                have hnew : NewRel w (mutOf M0 ρ σ.mem) ρ σ.mem (splice c.toList (es.length * m) us).toArray (.arr m (es ++ ys) false) :=
                  ⟨_, rest.drop us.length, PElems_app h7 hpu, by simp [hsp]⟩
                have hw := h.write hk rfl rfl (Nat.le_succ ver) h6 _ (splice_size _ _ _ (by omega)) (fun hh => absurd hh (by omega)) hnew
                refine ⟨.value (.slice (some ⟨ρ s, 0, none⟩) (es.length + ys.length) cap), _, _, ρ, ?_, .inl rfl, hw, ?_⟩
                · simp only [Nat.zero_mul] at hv
                  simp [hv, hrun]
                · simp only [LRel]
                  refine ⟨rfl, ver + 1, .arr m (es ++ ys) false, by simp [putAll, look_put], Nat.le_refl _, fun _ => ?_⟩
                  simp only [slK]
                  refine ⟨cap, (splice c.toList (es.length * m) us).toArray, tt, (0, 0), by simp, by simp, hroom, setRow_heap w _ c _ tt (0, 0) h6, ?_⟩
                  rw [splice_size _ _ _ (by omega)]; simpa using h5
              · -- a new row
                have hg : cap < es.length + ys.length := by omega
                have hnc := nextcap_le (es.length + ys.length) cap hg
                have hold := run_firstCells_some (P := Pg) w.drew m es.length ⟨ρ s, 0, none⟩ es.length cap vs hvl (fun j v hj => by
                  have := reads_row h6 0 c.size
                  rw [List.drop_zero, List.take_of_length_le (by simp), h8] at this
                  have := this j v (by rw [List.getElem?_append_left (by
                    rcases Nat.lt_or_ge j vs.length with h | h
                    · exact h
                    · simp [List.getElem?_eq_none h] at hj)]; exact hj)
                  simpa using this)
                have hby : Builtin.nextslicecap (es.length + ys.length) cap * i.bytes ≤ 281474976710656 := by
                  rw [hib]; exact Nat.le_trans (Nat.mul_le_mul_right bytes hnc) hbd
                have h63 : ((es.length + ys.length : Nat) : Int) ≤ 9223372036854775807 := by
                  have : (2 * (es.length + ys.length) + 512) * 1 ≤ (2 * (es.length + ys.length) + 512) * bytes := Nat.mul_le_mul_left _ hb0
                  omega
                have hrun := run_append_grow_src (P := Pg) w t tx ty el i z (slOf_eq ht) hi hiz (some ⟨ρ s, 0, none⟩) es.length cap vs (by rw [his]; exact hold) (a.eval oy) ys.length us (by rw [his]; exact hsrc) hg h63 hby
                have h' := h.drew
                have hgc : es.length + ys.length ≤ grownCap w (es.length + ys.length) cap el := by unfold grownCap; simp [Question.cut]
                have hnew : NewRel w.drew (mutOf M0 ρ σ.mem) ρ σ.mem ((vs ++ us).toArray ++ Builtin.zeroCells z.cells (grownCap w (es.length + ys.length) cap el - (es.length + ys.length))) (.arr m (es ++ ys) false) :=
                  ⟨vs ++ us, _, (PElems_app h7 hpu).move agree_drew fun _ _ h => h, by simp; rfl⟩
                have h9 := h'.new s (.arr m (es ++ ys) false) _ el hnew
                have hnv : nextVer σ.mem s = ver + 1 := by simp [nextVer, hk]
                have hsz : ((vs ++ us).toArray ++ Builtin.zeroCells z.cells (grownCap w (es.length + ys.length) cap el - (es.length + ys.length))).size = grownCap w (es.length + ys.length) cap el * m := by
                  simp only [Array.size_append, List.size_toArray, List.length_append, size_zeroCells, hzl, hvl, hul, ← Nat.add_mul]
                  congr 1; omega
                have hsl := sl_new (w' := w.drew.alloc (.cells ((vs ++ us).toArray ++ Builtin.zeroCells z.cells (grownCap w (es.length + ys.length) cap el - (es.length + ys.length))) el))
                  (M' := mutOf M0 (upd ρ s w.heap.size) (put σ.mem s (nextVer σ.mem s) (.arr m (es ++ ys) false))) (ρ := ρ) (mem := σ.mem) s m (es ++ ys) w.heap.size (es.length + ys.length) (grownCap w (es.length + ys.length) cap el) (by simp) hgc (by rw [hsz]; exact Nat.le_refl _) (heap_alloc_new w.drew _)
                rw [hnv] at h9 hsl
                refine ⟨.value _, _, _, _, ?_, .inl rfl, h9, hsl⟩
                simp only [Nat.zero_mul] at hv
                simp only [hv, Sem.run_bind, hrun, Result.andThen_ok, Sem.run_pure]
            · cases he
          · cases he
        · rename_i m hev
          rw [hev] at h1; simp only [LRel, PRel] at h1
          obtain ⟨base, hv⟩ := h1
          split at he
          · rename_i h0
            subst h0
            simp only [Option.some.injEq] at he; subst he
            simp only [List.length_nil] at hsrc
            have hus : us = [] := by simpa using hul
            subst hus
            have hrun := run_append_nothing (P := Pg) w t tx ty el i (slOf_eq ht) hi base 0 0 (Nat.le_refl _) (a.eval oy) (by rw [his]; exact hsrc)
            exact good_pure h (v := .slice base 0 0) (by rw [hv]; exact hrun) (by simp only [LRel, PRel]; exact ⟨base, rfl⟩)
          · rename_i hne
            split at he
            · rename_i hbd
              simp only [Option.some.injEq] at he; subst he
              have hpos : 0 < ys.length := List.length_pos_iff.2 hne
              have hg : 0 < 0 + ys.length := by omega
              have hnc := nextcap_le (0 + ys.length) 0 hg
              have hby : Builtin.nextslicecap (0 + ys.length) 0 * i.bytes ≤ 281474976710656 := by
                rw [hib]; exact Nat.le_trans (Nat.mul_le_mul_right bytes hnc) (by simpa using hbd)
              have h63 : ((0 + ys.length : Nat) : Int) ≤ 9223372036854775807 := by
                have : (2 * (ys.length) + 512) * 1 ≤ (2 * (ys.length) + 512) * bytes := Nat.mul_le_mul_left _ hb0
                omega
              have hold : (Builtin.firstCells i.size 0 (.slice base 0 0)).run Pg w.drew = .ok ([] : List Value).toArray w.drew := by
                cases base with
                | none => exact run_firstCells_none _ _ _ _ _
                | some ad => exact run_firstCells_some w.drew _ 0 ad 0 0 [] (by simp) (by simp)
              have hrun := run_append_grow_src (P := Pg) w t tx ty el i z (slOf_eq ht) hi hiz base 0 0 [] hold (a.eval oy) ys.length us (by rw [his]; exact hsrc) hg h63 hby
              simp only [Nat.zero_add, List.nil_append] at hrun
              have h' := h.drew
              have hgc : ys.length ≤ grownCap w ys.length 0 el := by unfold grownCap; simp [Question.cut]
              have hnew : NewRel w.drew (mutOf M0 ρ σ.mem) ρ σ.mem (us.toArray ++ Builtin.zeroCells z.cells (grownCap w ys.length 0 el - ys.length)) (.arr n ys false) :=
                ⟨us, _, hpu.move agree_drew fun _ _ h => h, by simp; rfl⟩
              have h9 := h'.new dst (.arr n ys false) _ el hnew
              have hsz : (us.toArray ++ Builtin.zeroCells z.cells (grownCap w ys.length 0 el - ys.length)).size = grownCap w ys.length 0 el * n := by
                simp only [Array.size_append, List.size_toArray, size_zeroCells, hzl, hul, ← Nat.add_mul]
                congr 1; omega
              have hsl := sl_new (w' := w.drew.alloc (.cells (us.toArray ++ Builtin.zeroCells z.cells (grownCap w ys.length 0 el - ys.length)) el))
                (M' := mutOf M0 (upd ρ dst w.heap.size) (put σ.mem dst (nextVer σ.mem dst) (.arr n ys false))) (ρ := ρ) (mem := σ.mem) dst n ys w.heap.size ys.length (grownCap w ys.length 0 el) (by simp) hgc (by rw [hsz]; exact Nat.le_refl _) (heap_alloc_new w.drew _)
              refine ⟨.value _, _, _, _, ?_, .inl rfl, h9, hsl⟩
              simp only [hv, Sem.run_bind, hrun, Result.andThen_ok, Sem.run_pure]
            · cases he
        · cases he
      · cases he

end Go.AW
namespace Go.AW

variable {M0 M M' : Nat → Prop} {D : List Nat} {w0 : Base} {w w' : World} {ρ ρ' : Nat → Nat} {σ : AS} {a : Act} {Pg : Program}

theorem zeroCells_rows (z : Array Value) (n len : Nat) (hz : z.size = n) : (Builtin.zeroCells z len).toList = (List.replicate len z.toList).flatten := by
  unfold Builtin.zeroCells
  have := zero_rows z n len hz
  rw [hz]; rw [hz] at this; exact this

theorem clear_good (h : SR M0 D w0 ρ σ a w) {n : Nat} {zero : P} {x : X} {o : Operand} {t ty el : TypeId} {dst : Nat} {e : Eff} (hx : chkX x o = true)
    (ht : slOf Pg t = some el) (hz : zeroOk1 Pg el n zero = true)
    (he : aop σ dst (.clear n zero x) = some e) : Good Pg M0 D w0 σ a w (do pure (.value (← Builtin.clear_ #[t] ty #[a.eval o]))) e := by
  have h1 := ev_rel h hx
  simp only [aop] at he
  simp only [zeroOk1, Bool.and_eq_true, decide_eq_true_eq] at hz
  obtain ⟨z, hz1, hz2⟩ := zeroOk_run hz.1
  obtain ⟨hzr, hzo⟩ := vPs_rel (w := w) (M := mutOf M0 ρ σ.mem) hz2
  have hzl : z.cells.size = n := by have := PRels_len hzr; simpa [hz.2] using this
  have hrows := fun k => PElems_replicate (n := n) (w := w) (M := mutOf M0 ρ σ.mem) (e := zero) (c := z.cells.toList) (by simpa using hzl) hzo ((PElem_iff _ _).2 hzr) k
  split at he
  · rename_i s ver off len hev
    rw [hev] at h1
    split at he
    · rename_i m es ha
      split at he
      · rename_i hcond
        obtain ⟨rfl, hle⟩ := hcond
        simp only [Option.some.injEq] at he; subst he
        obtain ⟨cap, c, tt, vs, rest, hv, h3, h4, h5, h6, h7, h8⟩ := sl_now h h1 ha
        have hk := arrAt_look ha
        have hvl := PElems_len h7
        have hr := hrows len
        have hrl := PElems_len hr
        simp only [List.length_replicate] at hrl
        have hle2 : (off + len) * m ≤ es.length * m := Nat.mul_le_mul_right _ hle
        rw [Nat.add_mul] at hle2
        have hcs : c.size = vs.length + rest.length := by
          have : c.toList.length = c.size := by simp
          rw [← this, h8]; simp
        have hsp : splice c.toList (off * m) (List.replicate len z.cells.toList).flatten = (vs.take (off * m) ++ (List.replicate len z.cells.toList).flatten ++ vs.drop ((off + (List.replicate len zero).length) * m)) ++ rest := by
          rw [h8]
          unfold splice
          rw [List.take_append_of_le_length (by omega), List.drop_append_of_le_length (by omega), hrl, List.length_replicate, Nat.add_mul]
          simp [List.append_assoc]
        have hone : ∀ u ∈ (List.replicate len z.cells.toList).flatten, u.oneCell' = true := PElems_one' hr
        have hnew : NewRel w (mutOf M0 ρ σ.mem) ρ σ.mem (splice c.toList (off * m) (List.replicate len z.cells.toList).flatten).toArray (.arr m (splice es off (List.replicate len zero)) false) :=
          ⟨_, rest, PElems_splice h7 hr, by simp [hsp]⟩
        have hfit : Fits w w (ρ s) (.arr m es false) (.arr m (splice es off (List.replicate len zero)) false) :=
          ⟨rfl, by rw [splice_len _ _ _ (by simpa using hle)]; exact Nat.le_refl _, fun c t fr hc => ⟨c, t, fr, hc, Nat.le_refl _⟩⟩
        have hw := h.write hk rfl rfl (Nat.le_refl _) h6 _ (splice_size _ _ _ (by rw [hrl]; omega)) (fun _ => hfit) hnew
        refine ⟨.value (.tuple #[]), _, _, ρ, ?_, .inl rfl, hw, by simp [LRel]⟩
        by_cases hl0 : len = 0
        · subst hl0
          have : (splice c.toList (off * m) (List.replicate 0 z.cells.toList).flatten).toArray = c := by simp [splice]
          rw [this, setRow_self w _ c tt _ h6]
          simp [Builtin.clear_, hv, run_underlying (slOf_eq ht)]
        · have hst := run_storeCells_at (P := Pg) (ρ s) (off * m) tt (List.replicate len z.cells.toList).flatten 0 c w h6 (by rw [hrl]; omega) hone
          simp only [Nat.add_zero] at hst
          simp [Builtin.clear_, hv, run_underlying (slOf_eq ht), hl0, hz1, zeroCells_rows _ _ _ hzl, hst, splice]
      · cases he
    · cases he
  · rename_i m hev
    rw [hev] at h1; simp only [LRel, PRel] at h1
    obtain ⟨ad, cap, vs, hv, _⟩ := h1
    obtain ⟨l, hl, rfl⟩ := pureE_some he
    injection hl with hl; subst hl
    refine good_pure h (v := .tuple #[]) ?_ (by simp [LRel])
    cases ad <;> simp [Builtin.clear_, hv, run_underlying (slOf_eq ht)]
  · cases he

def chkSl (Pg : Program) (t : TypeId) (n : Nat) : Bool := match slOf Pg t with
  | some el => decide (szOf Pg el = some n)
  | none => false
theorem chkSl_eq {t : TypeId} {n : Nat} (h : chkSl Pg t n = true) : ∃ el, slOf Pg t = some el ∧ szOf Pg el = some n := by
  unfold chkSl at h; split at h
  · rename_i el hel; exact ⟨el, hel, by simpa using h⟩
  · cases h

def chkZero (Pg : Program) (t : TypeId) (n : Nat) (zero : P) : Bool := match slOf Pg t with
  | some el => zeroOk1 Pg el n zero
  | none => false
def chkBy (Pg : Program) (t : TypeId) (b : Nat) : Bool := match slOf Pg t with
  | some el => decide (byOf Pg el = some b)
  | none => false
def zeroLen (Pg : Program) (t : TypeId) (n : Nat) : Bool := match slOf Pg t with
  | some el => zsOk Pg el n
  | none => false
def isZ : Option Operand → Bool
  | some (.const (.int .i64 0)) => true
  | _ => false

/-- the kind of a type whose values are asked for nil -/
def nilKind (Pg : Program) (t : TypeId) (k : Nat) (o : Operand) : Bool :=
  match o with
  | .const .nilIface => decide (k = 0) && (match Pg.underlying t with | some (.interface _) => true | _ => false)
  | .const (.pointer none) => decide (k = 1) && (match Pg.underlying t with | some (.pointer _) => true | _ => false)
  | .const (.slice none _ _) => decide (k = 2) && (match Pg.underlying t with | some (.slice _) => true | _ => false)
  | _ => false

theorem equal_iface {t : TypeId} {ms : Array (String × TypeId)} (hu : Pg.underlying t = some (.interface ms)) (x : Value) (b : Bool) (hx : (∃ tt u, x = .iface tt u ∧ b = false) ∨ (x = .nilIface ∧ b = true)) :
    (Op.equal t x .nilIface).run Pg w = .ok b w := by
  have : ∀ d, (Op.equalIn (d + 1) t x .nilIface).run Pg w = .ok b w := by
    intro d
    rcases hx with ⟨tt, u, rfl, rfl⟩ | ⟨rfl, rfl⟩ <;> simp [Op.equalIn, run_underlying hu]
  exact this 9999
theorem equal_ptr {t e : TypeId} (hu : Pg.underlying t = some (.pointer e)) (x : Option Addr) : (Op.equal t (.pointer x) (.pointer none)).run Pg w = .ok x.isNone w := by
  have : ∀ d, (Op.equalIn (d + 1) t (.pointer x) (.pointer none)).run Pg w = .ok x.isNone w := by
    intro d
    cases x <;> simp [Op.equalIn, run_underlying hu]
  exact this 9999

theorem equal_sl {t e : TypeId} (hu : Pg.underlying t = some (.slice e)) (x : Option Addr) (l c l' c' : Nat) : (Op.equal t (.slice x l c) (.slice none l' c')).run Pg w = .ok x.isNone w := by
  have : ∀ d, (Op.equalIn (d + 1) t (.slice x l c) (.slice none l' c')).run Pg w = .ok x.isNone w := by
    intro d
    cases x <;> simp [Op.equalIn, run_underlying hu]
  exact this 9999

theorem run_nil {t : TypeId} {neg : Bool} {op : BinOp} {v c : Value} {ox oy : Operand} (hop : op = if neg then .neq else .eql) (b : Bool)
    (hv : (∃ tt u, v = .iface tt u ∧ c = .nilIface) ∨ (v = .nilIface ∧ c = .nilIface ∧ oy = .const .nilIface) ∨ (∃ x, v = .pointer x ∧ c = .pointer none) ∨ (∃ x l cp l' c', v = .slice x l cp ∧ c = .slice none l' c')) (he : (Op.equal t v c).run Pg w = .ok b w) :
    (do eqGuard op t ox oy v c; binOp op t v c : Sem Value).run Pg w = .ok (.bool (neg != b)) w := by
  rcases hv with ⟨tt, u, rfl, rfl⟩ | ⟨rfl, rfl, rfl⟩ | ⟨x, rfl, rfl⟩ | ⟨x, l, cp, l', c', rfl, rfl⟩ <;> subst hop <;> cases neg <;> simp [eqGuard, binOp, he]

theorem isnil_good (h : SR M0 D w0 ρ σ a w) {k : Nat} {neg : Bool} {op : BinOp} {x : X} {ox oy : Operand} {t : TypeId} {dst : Nat} {e : Eff} (hop : op = if neg then .neq else .eql) (hx : chkX x ox = true)
    (hk : nilKind Pg t k oy = true) (he : aop σ dst (.isnil k neg x) = some e) :
    Good Pg M0 D w0 σ a w (do pure (.value (← (do eqGuard op t ox oy (a.eval ox) (a.eval oy); binOp op t (a.eval ox) (a.eval oy))))) e := by
  have h1 := ev_rel h hx
  unfold nilKind at hk
  have fin : ∀ (b : Bool) (rd : List Nat), ((∃ tt u, a.eval ox = .iface tt u ∧ a.eval oy = .nilIface) ∨ (a.eval ox = .nilIface ∧ a.eval oy = .nilIface ∧ oy = .const .nilIface) ∨ (∃ x, a.eval ox = .pointer x ∧ a.eval oy = .pointer none) ∨ (∃ x l cp l' c', a.eval ox = .slice x l cp ∧ a.eval oy = .slice none l' c')) →
      (Op.equal t (a.eval ox) (a.eval oy)).run Pg w = .ok b w →
      Good Pg M0 D w0 σ a w (do pure (.value (← (do eqGuard op t ox oy (a.eval ox) (a.eval oy); binOp op t (a.eval ox) (a.eval oy))))) ⟨.p (.bool (neg != b)), [], rd⟩ := by
    intro b rd hv heq
    exact good_pure h (run_nil hop b hv heq) (by simp [LRel, PRel])
  have nb1 : (neg != false) = neg := by cases neg <;> rfl
  have nb2 : (neg != true) = !neg := by cases neg <;> rfl
  split at hk
  · simp only [Bool.and_eq_true, decide_eq_true_eq] at hk
    obtain ⟨rfl, hk⟩ := hk
    split at hk
    case h_2 => cases hk
    rename_i ms hu
    simp only [aop] at he
    split at he
    · rename_i hev
      rw [hev] at h1; simp only [LRel, PRel] at h1
      obtain ⟨tt, u, hv⟩ := h1
      obtain ⟨l, hl, rfl⟩ := pureE_some he
      injection hl with hl; subst hl
      rw [← nb1]
      exact fin false _ (.inl ⟨tt, u, hv, rfl⟩) (by rw [hv]; exact equal_iface hu _ _ (.inl ⟨tt, u, rfl, rfl⟩))
    · rename_i hev
      rw [hev] at h1; simp only [LRel, PRel] at h1
      obtain ⟨l, hl, rfl⟩ := pureE_some he
      injection hl with hl; subst hl
      rw [← nb2]
      exact fin true _ (.inr (.inl ⟨h1, rfl, rfl⟩)) (by rw [h1]; exact equal_iface hu _ _ (.inr ⟨rfl, rfl⟩))
    all_goals first | cases he | skip
    all_goals (rename_i h0 _; cases h0)
  · simp only [Bool.and_eq_true, decide_eq_true_eq] at hk
    obtain ⟨rfl, hk⟩ := hk
    split at hk
    case h_2 => cases hk
    rename_i el hu
    have go : ∀ (ad : Addr) (rd : List Nat), a.eval ox = .pointer (some ad) →
        Good Pg M0 D w0 σ a w (do pure (.value (← (do eqGuard op t ox (.const (.pointer none)) (a.eval ox) (a.eval (.const (.pointer none))); binOp op t (a.eval ox) (a.eval (.const (.pointer none))))))) ⟨.p (.bool neg), [], rd⟩ := by
      intro ad rd hv
      rw [← nb1]
      exact fin false rd (.inr (.inr (.inl ⟨_, hv, rfl⟩))) (by rw [hv]; exact equal_ptr hu _)
    simp only [aop] at he
    split at he
    case h_1 => rename_i h0 _; cases h0
    case h_2 => rename_i h0 _; cases h0
    · rename_i s ver off _ hev
      rw [hev] at h1
      cases hb : boxAt σ.mem s ver with
      | none => rw [hb] at he; cases he
      | some b =>
        rw [hb] at he
        simp only [Option.map_some, Option.some.injEq] at he; subst he
        simp only [LRel] at h1
        exact go _ _ (h1.2.now (boxAt_look (cs := b.1) (fz := b.2) hb))
    · rename_i s ver i off _ hev
      rw [hev] at h1
      cases hb : arrAt σ.mem s ver with
      | none => rw [hb] at he; cases he
      | some b =>
        rw [hb] at he
        simp only [Option.map_some, Option.some.injEq] at he; subst he
        simp only [LRel] at h1
        exact go _ _ (h1.2.now (arrAt_look (n := b.1) (es := b.2.1) (fz := b.2.2) hb))
    · rename_i cs _ hev
      rw [hev] at h1; simp only [LRel, PRel] at h1
      obtain ⟨ad, vs, hv, _⟩ := h1
      obtain ⟨l, hl, rfl⟩ := pureE_some he
      injection hl with hl; subst hl
      exact go ad _ hv
    · rename_i _ hev
      rw [hev] at h1; simp only [LRel, PRel] at h1
      obtain ⟨l, hl, rfl⟩ := pureE_some he
      injection hl with hl; subst hl
      rw [← nb2]
      exact fin true _ (.inr (.inr (.inl ⟨_, h1, rfl⟩))) (by rw [h1]; exact equal_ptr hu _)
    · rename_i h0 _; cases h0
    · rename_i h0 _; cases h0
    · cases he
  · simp only [Bool.and_eq_true, decide_eq_true_eq] at hk
    obtain ⟨rfl, hk⟩ := hk
    split at hk
    case h_2 => cases hk
    rename_i l' c' el hu
    simp only [aop] at he
    split at he
    all_goals first | (rename_i h0 _; cases h0; done) | skip
    · rename_i o l c _ hev
      rw [hev] at h1; simp only [LRel, PRel] at h1
      obtain ⟨l0, hl, rfl⟩ := pureE_some he
      injection hl with hl; subst hl
      exact fin _ _ (.inr (.inr (.inr ⟨_, _, _, _, _, h1, rfl⟩))) (by rw [h1]; exact equal_sl hu _ _ _ _ _)
    · rename_i m p ps _ hev
      rw [hev] at h1; simp only [LRel, PRel] at h1
      obtain ⟨ad, cap, vs, hv, _, _, hne⟩ := h1
      obtain ⟨ad', rfl, _⟩ := hne (by simp)
      obtain ⟨l0, hl, rfl⟩ := pureE_some he
      injection hl with hl; subst hl
      rw [← nb1]
      exact fin false _ (.inr (.inr (.inr ⟨_, _, _, _, _, hv, rfl⟩))) (by rw [hv]; exact equal_sl hu _ _ _ _ _)
    · cases he
  · cases hk

def kindOk (k : Nat) (u : Option TypeDesc) : Bool := match k, u with
  | 0, some (.int _) => true
  | 1, some .string => true
  | 2, some .bool => true
  | _, _ => false
theorem kind0 {u : Option TypeDesc} (h : kindOk 0 u = true) : ∃ k, u = some (.int k) := by
  unfold kindOk at h; split at h <;> first | exact ⟨_, rfl⟩ | (rename_i h0; cases h0) | cases h
theorem kind1 {u : Option TypeDesc} (h : kindOk 1 u = true) : u = some .string := by
  unfold kindOk at h; split at h <;> first | rfl | (rename_i h0; cases h0) | cases h
theorem kind2 {u : Option TypeDesc} (h : kindOk 2 u = true) : u = some .bool := by
  unfold kindOk at h; split at h <;> first | rfl | (rename_i h0; cases h0) | cases h
/-- a struct's fields, one cell each -/
def flatK (Pg : Program) : Nat → List Nat → List Field → Bool
  | _, [], [] => true
  | i, k :: ks, f :: fs => decide (f.name ≠ "_") && decide (f.offset = i) && kindOk k (Pg.underlying f.type) && flatK Pg (i + 1) ks fs
  | _, _, _ => false
def chkAeq (Pg : Program) (t : TypeId) (ks : List Nat) : Bool :=
  match stOf Pg t with
  | some fs => flatK Pg 0 ks fs.toList && (!Pg.stoodInHeld t) && (!Pg.eqGuardType Pg.depth t)
  | none => false

theorem aggP_rel {l : L} {v : Value} {ps : List P} {mem : Mem} (h : LRel w M ρ mem l v) (hp : aggP l = some ps) : ∃ vs, v = .agg vs ∧ PRels w M ps vs.toList := by
  unfold aggP at hp
  split at hp
  · rename_i xs
    simp only [LRel] at h; obtain ⟨vs, rfl, h⟩ := h
    refine ⟨vs, rfl, ?_⟩
    have : ∀ (xs : List L) (ps : List P) (vs : List Value), aggP.go xs = some ps → LRels w M ρ mem xs vs → PRels w M ps vs := by
      intro xs
      induction xs with
      | nil => intro ps vs hp h; simp only [aggP.go, Option.some.injEq] at hp; subst hp; simpa [LRels, PRels] using h
      | cons x xs ih =>
        intro ps vs hp h
        cases x with
        | p q =>
          simp only [aggP.go] at hp
          cases hg : aggP.go xs with
          | none => rw [hg] at hp; cases hp
          | some qs =>
            rw [hg] at hp; simp only [Option.map_some, Option.some.injEq] at hp; subst hp
            simp only [LRels, LRel] at h
            obtain ⟨v, rest, rfl, h1, h2⟩ := h
            simp only [PRels]; exact ⟨v, rest, rfl, h1, ih _ _ hg h2⟩
        | _ => simp [aggP.go] at hp
    exact this _ _ _ hp h
  · simp only [Option.some.injEq] at hp; subst hp
    simp only [LRel, PRel] at h; exact h
  · cases hp

theorem run_part1 {t : TypeId} {d : TypeDesc} (hu : Pg.underlying t = some d) (hd : (∃ k, d = .int k) ∨ d = .string ∨ d = .bool) {xs : Array Value} {i : Nat} {v : Value} (hv : xs.toList[i]? = some v) :
    (part t xs i).run Pg w = .ok v w := by
  have hv' : xs[i]? = some v := by simpa using hv
  rcases hd with ⟨k, rfl⟩ | rfl | rfl <;> simp [part, isAgg, run_underlying hu, hv']

theorem eqFields_run (d : Nat) (xs ys : Array Value) : ∀ (fs : List Field) (i : Nat) (ks : List Nat) (ps qs : List P) (b : Bool), flatK Pg i ks fs = true → PRels w M ps (xs.toList.drop i) → PRels w M qs (ys.toList.drop i) →
    eqCells ks ps qs = some b → (Op.eqFields (d + 1) xs ys fs).run Pg w = .ok b w
  | [], i, ks, ps, qs, b, hf, _, _, he => by
    cases ks with
    | nil => simp only [eqCells, Option.some.injEq] at he; subst he; simp [Op.eqFields]
    | cons => simp [flatK] at hf
  | f :: fs, i, ks, ps, qs, b, hf, hp, hq, he => by
    cases ks with
    | nil => simp [flatK] at hf
    | cons k ks =>
      simp only [flatK, Bool.and_eq_true, decide_eq_true_eq] at hf
      obtain ⟨⟨⟨hn, ho⟩, hk⟩, hrec⟩ := hf
      subst ho
      have nx : ∀ (p : P) (ps : List P) (xs : Array Value), PRels w M (p :: ps) (xs.toList.drop f.offset) → ∃ v, xs.toList[f.offset]? = some v ∧ PRel w M p v ∧ PRels w M ps (xs.toList.drop (f.offset + 1)) := by
        intro p ps xs h
        simp only [PRels] at h
        obtain ⟨v, rest, h1, h2, h3⟩ := h
        refine ⟨v, ?_, h2, ?_⟩
        · have := congrArg (·[0]?) h1; simpa using this
        · have := congrArg List.tail h1
          simp only [List.tail_drop, List.tail_cons] at this
          rw [this]; exact h3
      unfold eqCells at he
      split at he
      · rename_i h0; cases h0
      · rename_i ks' kk x xs' kk' y ys' h0
        injection h0 with h1 h2; subst h1; subst h2
        split at he
        · rename_i hkk; subst hkk
          cases hr : eqCells ks xs' ys' with
          | none => rw [hr] at he; cases he
          | some r =>
            rw [hr] at he; simp only [Option.map_some, Option.some.injEq] at he; subst he
            obtain ⟨v1, a1, a2, a3⟩ := nx _ _ _ hp
            obtain ⟨v2, b1, b2, b3⟩ := nx _ _ _ hq
            simp only [PRel] at a2 b2; subst a2; subst b2
            have ih := eqFields_run d xs ys fs (f.offset + 1) ks xs' ys' r hrec a3 b3 hr
            obtain ⟨kx, hu⟩ := kind0 hk
            simp only [Op.eqFields, ne_eq, hn, not_false_eq_true, if_true, Sem.run_bind, run_part1 hu (.inl ⟨_, rfl⟩) a1, run_part1 hu (.inl ⟨_, rfl⟩) b1, Result.andThen_ok, run_equalIn_int w _ _ _ _ _ _ hu]
            by_cases hxy : x = y
            · simp [hxy, ih]
            · simp [hxy]
        · cases he
      · rename_i ks' x xs' y ys' h0
        injection h0 with h1 h2; subst h1; subst h2
        cases hr : eqCells ks xs' ys' with
        | none => rw [hr] at he; cases he
        | some r =>
          rw [hr] at he; simp only [Option.map_some, Option.some.injEq] at he; subst he
          obtain ⟨v1, a1, a2, a3⟩ := nx _ _ _ hp
          obtain ⟨v2, b1, b2, b3⟩ := nx _ _ _ hq
          simp only [PRel] at a2 b2; subst a2; subst b2
          have ih := eqFields_run d xs ys fs (f.offset + 1) ks xs' ys' r hrec a3 b3 hr
          · have hu := kind1 hk
            have hbs : ((⟨x.toArray⟩ : ByteArray).toList == (⟨y.toArray⟩ : ByteArray).toList) = decide (x = y) := by
              have e1 : (⟨x.toArray⟩ : ByteArray).toList = x := bs_toList x
              have e2 : (⟨y.toArray⟩ : ByteArray).toList = y := bs_toList y
              rw [e1, e2, beq_dec]
            simp only [Op.eqFields, ne_eq, hn, not_false_eq_true, if_true, Sem.run_bind, run_part1 hu (.inr (.inl rfl)) a1, run_part1 hu (.inr (.inl rfl)) b1, Result.andThen_ok, run_equalIn_string w _ _ _ _ hu, hbs]
            by_cases hxy : x = y
            · simp [hxy, ih]
            · simp [hxy]
      · rename_i ks' x xs' y ys' h0
        injection h0 with h1 h2; subst h1; subst h2
        cases hr : eqCells ks xs' ys' with
        | none => rw [hr] at he; cases he
        | some r =>
          rw [hr] at he; simp only [Option.map_some, Option.some.injEq] at he; subst he
          obtain ⟨v1, a1, a2, a3⟩ := nx _ _ _ hp
          obtain ⟨v2, b1, b2, b3⟩ := nx _ _ _ hq
          simp only [PRel] at a2 b2; subst a2; subst b2
          have ih := eqFields_run d xs ys fs (f.offset + 1) ks xs' ys' r hrec a3 b3 hr
          · have hu := kind2 hk
            simp only [Op.eqFields, ne_eq, hn, not_false_eq_true, if_true, Sem.run_bind, run_part1 hu (.inr (.inr rfl)) a1, run_part1 hu (.inr (.inr rfl)) b1, Result.andThen_ok, run_equalIn_bool' w _ _ _ _ hu]
            by_cases hxy : x = y
            · simp [hxy, ih]
            · have : (x == y) = false := by simpa using hxy
              simp [this]
      · cases he

theorem aeq_good (h : SR M0 D w0 ρ σ a w) {neg : Bool} {ks : List Nat} {op : BinOp} {x y : X} {ox oy : Operand} {t : TypeId} {dst : Nat} {e : Eff} (hop : op = if neg then .neq else .eql) (hx : chkX x ox = true)
    (hy : chkX y oy = true) (hk : chkAeq Pg t ks = true) (he : aop σ dst (.aeq neg ks x y) = some e) :
    Good Pg M0 D w0 σ a w (do pure (.value (← (do eqGuard op t ox oy (a.eval ox) (a.eval oy); binOp op t (a.eval ox) (a.eval oy))))) e := by
  have h1 := ev_rel h hx
  have h2 := ev_rel h hy
  unfold chkAeq at hk
  split at hk
  case h_2 => cases hk
  rename_i fs hst
  simp only [Bool.and_eq_true, Bool.not_eq_true'] at hk
  obtain ⟨⟨k1, k2⟩, k3⟩ := hk
  have hu := stOf_eq hst
  have hfo : Pg.fieldsOf t = fs := by simp [Program.fieldsOf, hu]
  simp only [aop] at he
  split at he
  case h_2 => cases he
  rename_i ps qs hp hq
  obtain ⟨l, hl, rfl⟩ := pureE_some he
  cases hr : eqCells ks ps qs with
  | none => rw [hr] at hl; cases hl
  | some b =>
    rw [hr] at hl; simp only [Option.map_some, Option.some.injEq] at hl; subst hl
    obtain ⟨vs, hv, hvr⟩ := aggP_rel h1 hp
    obtain ⟨us, hu', hur⟩ := aggP_rel h2 hq
    have hfr : (Op.equalIn 10000 t (.agg vs) (.agg us)).run Pg w = .ok b w := by
      rw [show (10000 : Nat) = 9998 + 1 + 1 from rfl, run_equalIn_agg w (9998 + 1) t vs us (by rw [hfo]; exact hu) k2, hfo]
      exact eqFields_run 9998 vs us fs.toList 0 ks ps qs b k1 (by simpa using hvr) (by simpa using hur) hr
    refine good_pure h (v := .bool (neg != b)) ?_ (by simp [LRel, PRel])
    rw [hv, hu']
    subst hop
    cases neg with
    | true => simp only [if_true, Sem.run_bind, run_eqGuard_agg w _ t _ _ _ _ k3, Result.andThen_ok, run_neq_struct w, hfr]; cases b <;> rfl
    | false => simp only [Bool.false_eq_true, if_false, Sem.run_bind, run_eqGuard_agg w _ t _ _ _ _ k3, Result.andThen_ok, run_eql_struct w, hfr]; cases b <;> rfl

def isFn : Fn → FuncId → Bool
  | .func f, g => decide (f = g)
  | _, _ => false

def chkBuiltin (Pg : Program) (b : Builtin) (args : List Operand) (ats : List TypeId) (io : AOp) : Bool :=
  match b, args, ats, io with
  | .len, [o], [t], .len str x => chkX x o && (if str then isStr Pg t else (slOf Pg t).isSome)
  | .append, [o1, o2], [t, tx], .app n bytes x y => chkX x o1 && chkX y o2 && chkSl Pg t n && chkBy Pg t bytes && decide (0 < bytes) && ((slOf Pg tx).isSome || isStr Pg tx) && zeroLen Pg t n
  | .cap, [o], [t], .cap x => chkX x o && (slOf Pg t).isSome
  | .clear, [o], [t], .clear n zero x => chkX x o && chkZero Pg t n zero
  | .max, [o1, o2], _, .max x y => chkX x o1 && chkX y o2
  | .min, [o1, o2], _, .min x y => chkX x o1 && chkX y o2
  | _, _, _, _ => false

def chkOp0 (Pg : Program) (io : AOp) (op : Op) : Bool :=
  match op with
  | .move o | .assign o => match io with
    | .mov x => chkX x o
    | _ => false
  | .pick oc o1 o2 => match io with
    | .pick c x y => chkX c oc && chkX x o1 && chkX y o2
    | _ => false
  | .alloc t => match io with
    | .alloc zero => zeroOk Pg t zero
    | _ => false
  | .box _ o => match io with
    | .box _ x => chkX x o
    | _ => false
  | .build t qs => match io with
    | .build zero ps => zeroOk Pg t zero && (match placesOf Pg t with | some pl => chkParts (fun i => pl[i]?) ps qs.toList | none => false)
    | _ => false
  | .buildSlice t len qs => match io with
    | .bslice n len' zero ps => decide (len = len') && chkSl Pg t n && decide (0 < n) && decide (len * n ≤ 2 ^ 24) && chkZero Pg t n zero && chkParts2 ps qs.toList
    | _ => false
  | .load t o => match io with
    | .load ag n x => chkX x o && decide (szOf Pg t = some n) && decide (agOf Pg t = some ag)
    | _ => false
  | .store t o1 o2 => match io with
    | .store n x y => chkX x o1 && chkX y o2 && decide (szOf Pg t = some n) && decide (0 < n)
    | _ => false
  | .nilCheck o => match io with
    | .nilc x => chkX x o
    | _ => false
  | .binOp op t o1 o2 _ => match io with
    | .bin op' x y => decide (op = op') && chkX x o1 && chkX y o2
    | .beq neg x y => decide (op = if neg then .neq else .eql) && chkX x o1 && chkX y o2 && isBool Pg t
    | .isnil k neg x => decide (op = if neg then .neq else .eql) && chkX x o1 && nilKind Pg t k o2
    | .aeq neg ks x y => decide (op = if neg then .neq else .eql) && chkX x o1 && chkX y o2 && chkAeq Pg t ks
    | _ => false
  | .unOp op _ o => match io with
    | .un op' x => decide (op = op') && chkX x o
    | _ => false
  | .convert src dst o => match io with
    | .conv k x => chkX x o && ckOk Pg k src dst
    | _ => false
  | .makeFunc fn first os => match io with
    | .fn g xs => isFn fn g && decide (first.size = 0) && chkXs xs os.toList
    | _ => false
  | .slice t o lo hi mx => match io with
    | .sstr x lo' hi' => mx.isNone && chkX x o && chkXo lo' lo && chkXo hi' hi && isStr Pg t
    | .slice n x lo' hi' => mx.isNone && chkX x o && chkXo lo' lo && chkXo hi' hi && chkSl Pg t n
    | .slice0 n x => chkX x o && isZ lo && isZ hi && isZ mx && chkSl Pg t n
    | _ => false
  | .fieldAddr t o fi => match io with
    | .faddr off x => chkX x o && (match fieldOf Pg t fi with | some f => decide (f.offset = off) && (match szOf Pg f.type with | some n => decide (n ≠ 0) | none => false) | none => false)
    | _ => false
  | .field t o fi => match io with
    | .field ag off n x => chkX x o && (match fieldOf Pg t fi with | some f => decide (f.offset = off) && decide (szOf Pg f.type = some n) && decide (agOf Pg f.type = some ag) | none => false)
    | _ => false
  | .indexAddr t o1 o2 => match io with
    | .iaddr n x i => chkX x o1 && chkX i o2 && chkSl Pg t n
    | _ => false
  | .index t o1 o2 => match io with
    | .index x i => chkX x o1 && chkX i o2 && isStr Pg t
    | _ => false
  | .extract o i => match io with
    | .extr x j => chkX x o && decide (i = j)
    | _ => false
  | .makeSlice t o1 o2 => match io with
    | .mks n bytes zero l c => chkX l o1 && chkX c o2 && chkSl Pg t n && chkBy Pg t bytes && chkZero Pg t n zero
    | _ => false
  | .call c => match c.callee with
    | .builtin b => chkBuiltin Pg b c.args.toList c.argTypes.toList io
    | _ => false
  | _ => false

def isDead : AOp → Bool
  | .dead => true
  | _ => false
def chkOp (Pg : Program) (io : AOp) (op : Op) : Bool := isDead io || chkOp0 Pg io op

theorem isZ_eq {o : Option Operand} (h : isZ o = true) (a : Act) : ∃ x, o = some x ∧ a.eval x = .int .i64 0 := by
  unfold isZ at h; split at h
  · exact ⟨_, rfl, rfl⟩
  · cases h

theorem cap_good (h : SR M0 D w0 ρ σ a w) {x : X} {o : Operand} {t ty : TypeId} {dst : Nat} {e : Eff} (hx : chkX x o = true) (ht : (slOf Pg t).isSome = true)
    (he : aop σ dst (.cap x) = some e) : Good Pg M0 D w0 σ a w (do pure (.value (← Builtin.cap_ #[t] ty #[a.eval o]))) e := by
  have h1 := ev_rel h hx
  simp only [aop] at he
  obtain ⟨el, hel⟩ := Option.isSome_iff_exists.1 ht
  split at he
  · rename_i n hev
    rw [hev] at h1; simp only [LRel, PRel] at h1
    obtain ⟨ad, hv⟩ := h1
    obtain ⟨l, hl, rfl⟩ := pureE_some he
    injection hl with hl; subst hl
    exact good_pure h (v := .int .i64 0) (by simp [Builtin.cap_, run_underlying (slOf_eq hel), hv, goInt]) (by simp [LRel, PRel])
  · cases he

theorem builtin_good (h : SR M0 D w0 ρ σ a w) {b : Builtin} {args : Array Operand} {ats : Array TypeId} {ty : TypeId} {cs : Array Bool} {io : AOp} {dst : Nat} {e : Eff}
    (hc : chkBuiltin Pg b args.toList ats.toList io = true) (he : aop σ dst io = some e) : Good Pg M0 D w0 σ a w (builtin b ats ty cs (args.map a.eval)) e := by
  obtain ⟨args⟩ := args
  obtain ⟨ats⟩ := ats
  simp only at hc
  unfold chkBuiltin at hc
  split at hc
  · rename_i o t str x
    simp only [Bool.and_eq_true] at hc
    have := len_good (ty := ty) h hc.1 (by cases str <;> simpa using hc.2) he
    simpa [builtin] using this
  · rename_i o1 o2 t tx n bytes x y
    simp only [Bool.and_eq_true, decide_eq_true_eq, Bool.or_eq_true] at hc
    obtain ⟨⟨⟨⟨⟨⟨c1, c2⟩, c3⟩, c4⟩, c5⟩, c6⟩, c7⟩ := hc
    obtain ⟨el, hel, hsz⟩ := chkSl_eq c3
    simp only [chkBy, hel, decide_eq_true_eq] at c4
    have := app_good (ty := ty) (tx := tx) h c1 c2 hel c6 hsz c4 c5 (by simpa [zeroLen, hel] using c7) he
    simpa [builtin] using this
  · rename_i o t x
    simp only [Bool.and_eq_true] at hc
    have := cap_good (ty := ty) h hc.1 hc.2 he
    simpa [builtin] using this
  · rename_i o t n zero x
    simp only [Bool.and_eq_true] at hc
    obtain ⟨c1, c2⟩ := hc
    unfold chkZero at c2
    split at c2
    · rename_i el hel
      have := clear_good (ty := ty) h c1 hel c2 he
      simpa [builtin] using this
    · cases c2
  · rename_i o1 o2 _ x y
    simp only [Bool.and_eq_true] at hc
    have := max_good (Pg := Pg) (ats := ⟨ats⟩) (ty := ty) h hc.1 hc.2 he
    simpa [builtin] using this
  · rename_i o1 o2 _ x y
    simp only [Bool.and_eq_true] at hc
    have := min_good (Pg := Pg) (ats := ⟨ats⟩) (ty := ty) h hc.1 hc.2 he
    simpa [builtin] using this
  · cases hc

theorem op_good0 (h : SR M0 D w0 ρ σ a w) {oper : Oper} {io : AOp} {dst : Nat} {e : Eff} (hc : chkOp0 Pg io oper.op = true) (he : aop σ dst io = some e) :
    Good Pg M0 D w0 σ a w (execOp a.eval oper) e := by
  obtain ⟨odst, op, ty, pos, after, guard⟩ := oper
  simp only at hc
  unfold chkOp0 at hc
  split at hc
  · -- move
    split at hc
    · exact mov_good h hc he
    · cases hc
  · -- assign
    split at hc
    · exact mov_good h hc he
    · cases hc
  · split at hc
    · simp only [Bool.and_eq_true] at hc
      exact pick_good h hc.1.1 hc.1.2 hc.2 he
    · cases hc
  · split at hc
    · exact alloc_good h hc he
    · cases hc
  · split at hc
    · exact box_good h hc he
    · cases hc
  · split at hc
    · simp only [Bool.and_eq_true] at hc
      obtain ⟨c1, c2⟩ := hc
      split at c2
      · rename_i pl hpl
        exact build_good h c1 hpl c2 he
      · cases c2
    · cases hc
  · split at hc
    · simp only [Bool.and_eq_true, decide_eq_true_eq] at hc
      obtain ⟨⟨⟨⟨⟨rfl, c2⟩, c3⟩, c4⟩, c5⟩, c6⟩ := hc
      obtain ⟨el, hel, hsz⟩ := chkSl_eq c2
      simp only [chkZero, hel] at c5
      exact bslice_good h hel hsz c3 c4 c5 c6 he
    · cases hc
  · split at hc
    · simp only [Bool.and_eq_true, decide_eq_true_eq] at hc
      exact load_good h hc.1.1 hc.1.2 hc.2 he
    · cases hc
  · -- store
    split at hc
    · rename_i n x y
      simp only [Bool.and_eq_true, decide_eq_true_eq] at hc
      obtain ⟨⟨⟨c1, c2⟩, c3⟩, c4⟩ := hc
      simp only [aop] at he
      split at he
      · rename_i s ver off hev
        split at he
        · rename_i cs hb
          split at he
          · rename_i hcond
            simp only [Option.some.injEq] at he; subst he
            exact store_box_good h c1 c2 c3 hev hb hcond.1 hcond.2.1 hcond.2.2
          · cases he
        · cases he
      · rename_i s ver i off hev
        split at he
        · rename_i m es hb
          split at he
          · rename_i hcond
            split at he
            · rename_i ps ss hfl
              split at he
              · cases he
              · rename_i hns
                split at he
                · rename_i e1 hset
                  split at he
                  · rename_i hel
                    simp only [Option.some.injEq] at he; subst he
                    exact store_arr_good h c1 c2 c3 c4 hev hb hcond.1 hcond.2.1 hcond.2.2 hfl (by simpa using hns) hset hel
                  · cases he
                · cases he
            · cases he
          · cases he
        · cases he
      · cases he
    · cases hc
  · split at hc
    · exact nilc_good h hc he _ rfl
    · cases hc
  · -- binOp
    split at hc
    · simp only [Bool.and_eq_true, decide_eq_true_eq] at hc
      obtain ⟨⟨rfl, c1⟩, c2⟩ := hc
      exact bin_good h c1 c2 he
    · simp only [Bool.and_eq_true, decide_eq_true_eq] at hc
      obtain ⟨⟨⟨c0, c1⟩, c2⟩, c3⟩ := hc
      exact beq_good h c1 c2 c3 c0 he
    · simp only [Bool.and_eq_true, decide_eq_true_eq] at hc
      obtain ⟨⟨c0, c1⟩, c2⟩ := hc
      exact isnil_good h c0 c1 c2 he
    · simp only [Bool.and_eq_true, decide_eq_true_eq] at hc
      obtain ⟨⟨⟨c0, c1⟩, c2⟩, c3⟩ := hc
      exact aeq_good h c0 c1 c2 c3 he
    · cases hc
  · split at hc
    · simp only [Bool.and_eq_true, decide_eq_true_eq] at hc
      obtain ⟨rfl, c1⟩ := hc
      exact un_good h c1 he
    · cases hc
  · split at hc
    · simp only [Bool.and_eq_true] at hc
      exact conv_good h hc.1 hc.2 he
    · cases hc
  · split at hc
    · simp only [Bool.and_eq_true, decide_eq_true_eq] at hc
      obtain ⟨⟨c0, c2⟩, c1⟩ := hc
      rename_i fn first os _ g xs
      obtain rfl : first = #[] := Array.eq_empty_of_size_eq_zero c2
      cases fn with
      | func f => simp only [isFn, decide_eq_true_eq] at c0; subst c0; exact fn_good h c1 he
      | _ => simp [isFn] at c0
    · cases hc
  · -- slice
    split at hc
    · simp only [Bool.and_eq_true] at hc
      obtain ⟨⟨⟨⟨c0, c1⟩, c2⟩, c3⟩, c4⟩ := hc
      rename_i mx _ x lo' hi'
      cases mx with
      | none => exact sstr_good h c1 c2 c3 c4 he
      | some _ => simp at c0
    · simp only [Bool.and_eq_true] at hc
      obtain ⟨⟨⟨⟨c0, c1⟩, c2⟩, c3⟩, c4⟩ := hc
      rename_i mx _ n x lo' hi'
      obtain ⟨el, hel, hsz⟩ := chkSl_eq c4
      cases mx with
      | none => exact slice_good h c1 c2 c3 hel hsz he
      | some _ => simp at c0
    · simp only [Bool.and_eq_true] at hc
      obtain ⟨⟨⟨⟨c1, c2⟩, c3⟩, c4⟩, c5⟩ := hc
      obtain ⟨el, hel, hsz⟩ := chkSl_eq c5
      obtain ⟨x1, rfl, e1⟩ := isZ_eq c2 a
      obtain ⟨x2, rfl, e2⟩ := isZ_eq c3 a
      obtain ⟨x3, rfl, e3⟩ := isZ_eq c4 a
      exact slice0_good h c1 hel hsz e1 e2 e3 he
    · cases hc
  · split at hc
    · simp only [Bool.and_eq_true] at hc
      obtain ⟨c1, c2⟩ := hc
      split at c2
      · rename_i f hf
        simp only [Bool.and_eq_true, decide_eq_true_eq] at c2
        obtain ⟨c2, c3⟩ := c2
        split at c3
        · rename_i n hn
          exact faddr_good h c1 hf c2 hn (by simpa using c3) he
        · cases c3
      · cases c2
    · cases hc
  · split at hc
    · simp only [Bool.and_eq_true] at hc
      obtain ⟨c1, c2⟩ := hc
      split at c2
      · rename_i f hf
        simp only [Bool.and_eq_true, decide_eq_true_eq] at c2
        exact field_good h c1 hf c2.1.1 c2.1.2 c2.2 he
      · cases c2
    · cases hc
  · split at hc
    · simp only [Bool.and_eq_true] at hc
      obtain ⟨el, hel, hsz⟩ := chkSl_eq hc.2
      exact iaddr_good h hc.1.1 hc.1.2 hel hsz he
    · cases hc
  · split at hc
    · simp only [Bool.and_eq_true] at hc
      exact index_good h hc.1.1 hc.1.2 hc.2 he
    · cases hc
  · split at hc
    · simp only [Bool.and_eq_true, decide_eq_true_eq] at hc
      obtain ⟨c1, rfl⟩ := hc
      exact extr_good h c1 he
    · cases hc
  · split at hc
    · simp only [Bool.and_eq_true] at hc
      obtain ⟨⟨⟨⟨c1, c2⟩, c3⟩, c4⟩, c5⟩ := hc
      obtain ⟨el, hel, hsz⟩ := chkSl_eq c3
      simp only [chkBy, hel, decide_eq_true_eq] at c4
      simp only [chkZero, hel] at c5
      exact mks_good h c1 c2 hel hsz c4 c5 he
    · cases hc
  · -- call of a builtin
    split at hc
    · rename_i c _ b hb
      obtain ⟨cal, args, ats⟩ := c
      try dsimp only at hb hc
      subst hb
      exact builtin_good (ty := ty) h hc he
    · cases hc
  · cases hc


theorem op_good (h : SR M0 D w0 ρ σ a w) {oper : Oper} {io : AOp} {dst : Nat} {e : Eff} (hc : chkOp Pg io oper.op = true) (he : aop σ dst io = some e) :
    Good Pg M0 D w0 σ a w (execOp a.eval oper) e := by
  unfold chkOp at hc
  rcases Bool.or_eq_true _ _ ▸ hc with hc | hc
  · cases io <;> first | (simp [isDead] at hc; done) | (simp [aop] at he; done)
  · exact op_good0 h hc he
end Go.AW
namespace Go.AW

variable {M0 M M' Mx Mf : Nat → Prop} {D : List Nat} {w0 : Base} {w w' : World} {ρ ρ' : Nat → Nat} {σ : AS} {a : Act} {Pg : Program} {mem mem' : Mem}

mutual
theorem lit_any : ∀ (p : P) (v : Value), litP p = true → PRel w Mx p v → PRel w Mf p v
  | .int _ _, _, _, h => by simpa [PRel] using h
  | .bool _, _, _, h => by simpa [PRel] using h
  | .str _, _, _, h => by simpa [PRel] using h
  | .lit _, _, _, h => by simpa [PRel] using h
  | .err, _, _, h => by simpa [PRel] using h
  | .z _, _, _, h => by simpa [PRel] using h
  | .sl _ _, _, hl, _ => by simp [litP] at hl
  | .ptr _, _, hl, _ => by simp [litP] at hl
  | .clo _ _, _, hl, _ => by simp [litP] at hl
  | .agg cs, v, hl, h => by
    simp only [PRel] at h ⊢; obtain ⟨vs, rfl, h⟩ := h
    exact ⟨vs, rfl, lits_any cs _ (by simpa [litP] using hl) h⟩
theorem lits_any : ∀ (ps : List P) (vs : List Value), litPs ps = true → PRels w Mx ps vs → PRels w Mf ps vs
  | [], _, _, h => by simpa [PRels] using h
  | p :: ps, vs, hl, h => by
    simp only [litPs, Bool.and_eq_true] at hl
    simp only [PRels] at h ⊢; obtain ⟨v, rest, rfl, h1, h2⟩ := h
    exact ⟨v, rest, rfl, lit_any p v hl.1 h1, lits_any ps _ hl.2 h2⟩
end

theorem PRel.sub' {p : P} {v : Value} (h : PRel w Mx p v) (hs : litP p = true ∨ ∀ b, Mf b → Mx b) : PRel w Mf p v := by
  rcases hs with hs | hs
  · exact lit_any p v hs h
  · exact h.sub hs

/-- a block that is taken on: its place, its version, its content, its number -/
abbrev Ent := Nat × Nat × Blk × Nat
def Ent.out (e : Ent) : Nat × Nat × Blk := (e.1, e.2.1, e.2.2.1)
def Ent.b (e : Ent) : Nat := e.2.2.2
def Fix (E : List Ent) (ρ' : Nat → Nat) (mem' : Mem) : Prop := ∀ e ∈ E, look mem' e.1 = some (e.2.1, e.2.2.1) ∧ ρ' e.1 = e.b
def EntRel (w : World) (M : Nat → Prop) (ρ : Nat → Nat) (mem : Mem) (e : Ent) : Prop := BRel w M ρ mem e.b e.2.2.1

theorem Fix.app {E F : List Ent} (h : Fix (E ++ F) ρ' mem') : Fix E ρ' mem' ∧ Fix F ρ' mem' :=
  ⟨fun e he => h e (List.mem_append_left _ he), fun e he => h e (List.mem_append_right _ he)⟩

/-- how taken-on blocks stand to what there was -/
def Fresh (ρ : Nat → Nat) (mem : Mem) (e : Ent) : Prop :=
  e.2.2.1.mut = true ∧ (e.2.1 = nextVer mem e.1 ∨ ∃ cs fz cs', look mem e.1 = some (e.2.1, .box cs fz) ∧ e.2.2.1 = .box cs' false ∧ e.b = ρ e.1)

def Took (w : World) (Mx : Nat → Prop) (ρ : Nat → Nat) (mem : Mem) (wr : List (Nat × Nat × Blk)) (bs : List Nat) (lit : Prop) (K : (Nat → Prop) → (Nat → Nat) → Mem → Prop) : Prop :=
  ∃ E : List Ent, E.map Ent.out = wr ∧ (E.map Ent.b).Sublist bs ∧ (∀ e ∈ E, Fresh ρ mem e) ∧
    ∀ (Mf : Nat → Prop) (ρ' : Nat → Nat) (mem' : Mem), Fix E ρ' mem' → (lit ∨ ∀ b, Mf b → Mx b) → (∀ b, b ∈ bs → Mf b → b ∈ E.map Ent.b) →
      K Mf ρ' mem' ∧ ∀ e ∈ E, EntRel w Mf ρ' mem' e

theorem Took.mono {wr : List (Nat × Nat × Blk)} {bs : List Nat} {lit lit' : Prop} {K K' : (Nat → Prop) → (Nat → Nat) → Mem → Prop} (h : Took w Mx ρ mem wr bs lit K)
    (hl : lit' → lit) (hk : ∀ Mf ρ' mem', K Mf ρ' mem' → K' Mf ρ' mem') : Took w Mx ρ mem wr bs lit' K' := by
  obtain ⟨E, h1, h2, h3, h4⟩ := h
  exact ⟨E, h1, h2, h3, fun Mf ρ' mem' hf hli hb => by
    obtain ⟨h5, h6⟩ := h4 Mf ρ' mem' hf (hli.imp hl id) hb
    exact ⟨hk _ _ _ h5, h6⟩⟩

theorem Took.both {wr wr' : List (Nat × Nat × Blk)} {bs bs' : List Nat} {lit lit' : Prop} {K K' : (Nat → Prop) → (Nat → Nat) → Mem → Prop} (h : Took w Mx ρ mem wr bs lit K)
    (h' : Took w Mx ρ mem wr' bs' lit' K') (hn : (bs ++ bs').Nodup) : Took w Mx ρ mem (wr ++ wr') (bs ++ bs') (lit ∧ lit') fun Mf ρ' mem' => K Mf ρ' mem' ∧ K' Mf ρ' mem' := by
  obtain ⟨E, h1, h2, h3, h4⟩ := h
  obtain ⟨F, f1, f2, f3, f4⟩ := h'
  have hd := (List.nodup_append.1 hn).2.2
  refine ⟨E ++ F, by simp [h1, f1], by simpa using h2.append f2, fun e he => ?_, fun Mf ρ' mem' hf hli hb => ?_⟩
  · rcases List.mem_append.1 he with he | he
    · exact h3 e he
    · exact f3 e he
  · obtain ⟨k1, k2⟩ := h4 Mf ρ' mem' hf.app.1 (hli.imp And.left id) (fun b hbb hm => by
      have := hb b (List.mem_append_left _ hbb) hm
      simp only [List.map_append, List.mem_append] at this
      rcases this with this | this
      · exact this
      · exact absurd rfl (hd b hbb b (f2.subset this)))
    obtain ⟨k3, k4⟩ := f4 Mf ρ' mem' hf.app.2 (hli.imp And.right id) (fun b hbb hm => by
      have := hb b (List.mem_append_right _ hbb) hm
      simp only [List.map_append, List.mem_append] at this
      rcases this with this | this
      · exact absurd rfl (hd b (h2.subset this) b hbb)
      · exact this)
    exact ⟨⟨k1, k3⟩, fun e he => by
      rcases List.mem_append.1 he with he | he
      · exact k2 e he
      · exact k4 e he⟩

theorem heap_lt {b : Nat} {o : Obj} (h : w.heap[b]? = some o) : b < w.heap.size := by
  rcases Nat.lt_or_ge b w.heap.size with h' | h'
  · exact h'
  · simp [Array.getElem?_eq_none h'] at h

theorem fromO_took {o : O} {v : Value} {bs : List Nat} (h : ORel w Mx o v bs) (keep : Bool) (ρ : Nat → Nat) (mem : Mem) (site : Nat) :
    Took w Mx ρ mem (fromO keep mem site o).2 bs (litO o = true) fun Mf ρ' mem' => LRel w Mf ρ' mem' (fromO keep mem site o).1 v := by
  cases o with
  | p p =>
    obtain ⟨rfl, h⟩ := h
    refine ⟨[], rfl, by simp, by simp, fun Mf ρ' mem' _ hl _ => ⟨?_, by simp⟩⟩
    simp only [fromO, LRel]; exact h.sub' (by simpa [litO] using hl)
  | own n es =>
    obtain ⟨b, cap, c, t, vs, rest, rfl, rfl, h1, h2, h3, h4, h5⟩ := h
    cases keep with
    | true =>
      refine ⟨[(site, nextVer mem site, .arr n es false, b)], by simp [Ent.out, fromO], by simp [Ent.b], by simp [Fresh, Blk.mut], fun Mf ρ' mem' hf hl _ => ?_⟩
      have hl' : ∀ b, Mf b → Mx b := hl.resolve_left (by simp [litO])
      obtain ⟨f1, f2⟩ := hf _ (List.mem_singleton.2 rfl)
      simp only [Ent.b] at f1 f2
      refine ⟨?_, fun e he => ?_⟩
      · simp only [fromO, if_true, LRel]
        exact ⟨rfl, _, _, f1, Nat.le_refl _, fun _ => ⟨cap, c, t, (0, 0), by rw [f2]; simp, by simp, h1, by rw [f2]; exact h2, by simpa using h3⟩⟩
      · rw [List.mem_singleton.1 he]
        exact ⟨c, t, vs, rest, h2, h4.sub hl', h5⟩
    | false =>
      refine ⟨[], by simp [fromO], by simp, by simp, fun Mf ρ' mem' _ hl hb => ⟨?_, by simp⟩⟩
      have hl' : ∀ b, Mf b → Mx b := hl.resolve_left (by simp [litO])
      simp only [fromO, LRel, PRel]
      refine ⟨_, cap, vs, rfl, h1, h4.sub hl', fun _ => ⟨_, rfl, rfl, fun hm => by simpa using hb b (by simp) hm, heap_lt h2, ?_⟩⟩
      have := reads_row h2 0 c.size
      rw [List.drop_zero, List.take_of_length_le (by simp), h5] at this
      intro i u hu
      refine this i u ?_
      rw [List.getElem?_append_left]
      · exact hu
      · rcases Nat.lt_or_ge i vs.length with h | h
        · exact h
        · simp [List.getElem?_eq_none h] at hu

theorem fromOs_took : ∀ {os : List O} {vs : List Value} {bs : List Nat}, ORels w Mx os vs bs → bs.Nodup → ∀ (keep : Bool) (ρ : Nat → Nat) (mem : Mem) (site : Nat),
    Took w Mx ρ mem (fromOs keep mem site os).2 bs (os.all litO = true) fun Mf ρ' mem' => LRels w Mf ρ' mem' (fromOs keep mem site os).1 vs
  | [], vs, bs, h, _, keep, ρ, mem, site => by
    obtain ⟨rfl, rfl⟩ := h
    exact ⟨[], rfl, by simp, by simp, fun _ _ _ _ _ _ => ⟨by simp [fromOs, LRels], by simp⟩⟩
  | o :: os, vs, bs, h, hn, keep, ρ, mem, site => by
    obtain ⟨v, rest, b1, b2, rfl, rfl, h1, h2⟩ := h
    have hn2 := (List.nodup_append.1 hn).2.1
    refine ((fromO_took h1 keep ρ mem site).both (fromOs_took h2 hn2 keep ρ mem (site + 1)) hn).mono ?_ ?_
    · intro hl; simpa using hl
    · intro Mf ρ' mem' hk
      simp only [fromOs, LRels]; exact ⟨v, rest, rfl, hk.1, hk.2⟩

theorem box_took {os : List O} {v : Value} {bs : List Nat} (h : BoxRel w Mx os v bs) (hn : bs.Nodup) (keep : Bool) (ρ : Nat → Nat) (mem : Mem) (site ver site' : Nat)
    (hv : ver = nextVer mem site ∨ ∃ cs fz, look mem site = some (ver, .box cs fz) ∧ v = .pointer (some ⟨ρ site, 0, none⟩)) :
    Took w Mx ρ mem ((site, ver, .box (fromOs keep mem site' os).1 false) :: (fromOs keep mem site' os).2) bs (os.all litO = true) fun Mf ρ' mem' => LRel w Mf ρ' mem' (.ptr site ver 0) v := by
  obtain ⟨b, c, t, b2, rfl, h1, h2, rfl⟩ := h
  have hn2 := (List.nodup_cons.1 hn)
  obtain ⟨E, e1, e2, e3, e4⟩ := fromOs_took h2 hn2.2 keep ρ mem site'
  refine ⟨(site, ver, .box (fromOs keep mem site' os).1 false, b) :: E, by simp [Ent.out, ← e1], by simpa [Ent.b] using e2, fun e he => ?_, fun Mf ρ' mem' hf hl hb => ?_⟩
  · rcases List.mem_cons.1 he with rfl | he
    · refine ⟨rfl, ?_⟩
      rcases hv with hv | ⟨cs, fz, hv1, hv2⟩
      · exact .inl hv
      · injection hv2 with hv2; injection hv2 with hv2; injection hv2 with hv2
        exact .inr ⟨cs, fz, _, hv1, rfl, hv2⟩
    · exact e3 e he
  · obtain ⟨f1, f2⟩ := hf _ List.mem_cons_self
    simp only [Ent.b] at f1 f2
    obtain ⟨k1, k2⟩ := e4 Mf ρ' mem' (fun e he => hf e (List.mem_cons_of_mem _ he)) hl (fun x hx hm => by
      have := hb x (List.mem_cons_of_mem _ hx) hm
      simp only [List.map_cons, List.mem_cons, Ent.b] at this
      rcases this with this | this
      · subst this; exact absurd hx hn2.1
      · exact this)
    refine ⟨?_, fun e he => ?_⟩
    · simp only [LRel]; exact ⟨rfl, _, _, f1, Nat.le_refl _, fun _ => by simp [ptrK, f2]⟩
    · rcases List.mem_cons.1 he with rfl | he
      · exact ⟨c, t, h1, k1⟩
      · exact k2 e he

theorem ofP_rel {p : P} {v : Value} (h : PRel w M p v) : LRel w M ρ mem (ofP p) v := by
  cases p with
  | agg cs => simp only [PRel] at h; obtain ⟨vs, rfl, h⟩ := h; simp only [ofP, LRel]; exact ⟨vs, rfl, (LRels_P _ _).2 h⟩
  | _ => simpa only [ofP, LRel] using h

theorem fromR1_took {r : R} {v : Value} {bs : List Nat} (h : RRel w Mx r v bs) (hn : bs.Nodup) (keep : Bool) (ρ : Nat → Nat) (mem : Mem) (site : Nat) :
    Took w Mx ρ mem (fromR1 keep mem site r).2 (match r with | .tup _ => [] | _ => bs) (litR r = true) fun Mf ρ' mem' => LRel w Mf ρ' mem' (fromR1 keep mem site r).1 v := by
  cases r with
  | o x =>
    simp only [RRel] at h
    cases x with
    | p p =>
      obtain ⟨rfl, h⟩ := h
      refine ⟨[], rfl, by simp, by simp, fun Mf ρ' mem' _ hl _ => ⟨?_, by simp⟩⟩
      simp only [fromR1]; exact ofP_rel (h.sub' (by simpa [litR, litO] using hl))
    | own n es => exact (fromO_took h keep ρ mem site).mono (by simp [litR]) fun _ _ _ hk => hk
  | agg cs =>
    simp only [RRel] at h; obtain ⟨vs, rfl, h⟩ := h
    refine (fromOs_took h hn keep ρ mem site).mono (by simp [litR]) fun _ _ _ hk => ?_
    simp only [fromR1, LRel]; exact ⟨vs, rfl, hk⟩
  | box cs =>
    simp only [RRel] at h
    exact (box_took h hn keep ρ mem site (nextVer mem site) (site + 1) (.inl rfl)).mono (by simp [litR]) fun _ _ _ hk => hk
  | tup rs => exact ⟨[], rfl, by simp, by simp, fun _ _ _ _ _ _ => ⟨by simp [fromR1, LRel], by simp⟩⟩

theorem Took.more {wr : List (Nat × Nat × Blk)} {bs bs' : List Nat} {lit : Prop} {K : (Nat → Prop) → (Nat → Nat) → Mem → Prop} (h : Took w Mx ρ mem wr bs lit K)
    (hs : bs.Sublist bs') : Took w Mx ρ mem wr bs' lit K := by
  obtain ⟨E, h1, h2, h3, h4⟩ := h
  exact ⟨E, h1, h2.trans hs, h3, fun Mf ρ' mem' hf hli hb => h4 Mf ρ' mem' hf hli fun b hbb => hb b (hs.subset hbb)⟩

theorem fromRs_took : ∀ {rs : List R} {vs : List Value} {bs : List Nat}, RRels w Mx rs vs bs → bs.Nodup → ∀ (keep : Bool) (ρ : Nat → Nat) (mem : Mem) (site : Nat),
    Took w Mx ρ mem (fromRs keep mem site rs).2 bs (litRs rs = true) fun Mf ρ' mem' => LRels w Mf ρ' mem' (fromRs keep mem site rs).1 vs
  | [], vs, bs, h, _, keep, ρ, mem, site => by
    obtain ⟨rfl, rfl⟩ := h
    exact ⟨[], rfl, by simp, by simp, fun _ _ _ _ _ _ => ⟨by simp [fromRs, LRels], by simp⟩⟩
  | r :: rs, vs, bs, h, hn, keep, ρ, mem, site => by
    obtain ⟨v, rest, b1, b2, rfl, rfl, h1, h2⟩ := h
    have hn2 := (List.nodup_append.1 hn).2.1
    have hn1 := (List.nodup_append.1 hn).1
    have h3 := (fromR1_took h1 hn1 keep ρ mem site).more (bs' := b1) (by cases r <;> simp)
    refine (h3.both (fromRs_took h2 hn2 keep ρ mem (site + 16)) hn).mono ?_ ?_
    · intro hl; simpa [litRs] using hl
    · intro Mf ρ' mem' hk
      simp only [fromRs, LRels]; exact ⟨v, rest, rfl, hk.1, hk.2⟩

theorem fromR_took {r : R} {v : Value} {bs : List Nat} (h : RRel w Mx r v bs) (hn : bs.Nodup) (keep : Bool) (ρ : Nat → Nat) (mem : Mem) (site : Nat) :
    Took w Mx ρ mem (fromR keep mem site r).2 bs (litR r = true) fun Mf ρ' mem' => LRel w Mf ρ' mem' (fromR keep mem site r).1 v := by
  cases r with
  | tup rs =>
    simp only [RRel] at h; obtain ⟨vs, rfl, h⟩ := h
    refine (fromRs_took h hn keep ρ mem site).mono (by simp [litR]) fun _ _ _ hk => ?_
    simp only [fromR, LRel]; exact ⟨vs, rfl, hk⟩
  | o x => exact fromR1_took h hn keep ρ mem site
  | agg x => exact fromR1_took h hn keep ρ mem site
  | box x => exact fromR1_took h hn keep ρ mem site

end Go.AW
namespace Go.AW

variable {M0 M M' Mx Mf : Nat → Prop} {D : List Nat} {w0 : Base} {w w' : World} {ρ ρ' : Nat → Nat} {σ : AS} {a : Act} {Pg : Program} {mem mem' : Mem}

def MutAt (mem : Mem) (s : Nat) : Prop := ∃ ver blk, look mem s = some (ver, blk) ∧ blk.mut = true

theorem toO_rel (h : SR M0 D w0 ρ σ a w) {l : L} {v : Value} {o : O} {hs ss : List Nat} (hf : toO σ.mem l = some (o, hs, ss)) (hl : LRel w (mutOf M0 ρ σ.mem) ρ σ.mem l v)
    (hM : ∀ b, M' b → Less M0 ρ σ.mem ss b) : ORel w M' o v (hs.map ρ) ∧ ∀ x ∈ hs, MutAt σ.mem x ∧ isBoxSite σ.mem x = false := by
  unfold toO at hf
  split at hf
  · rename_i s ver len
    split at hf
    · rename_i n es ha
      split at hf
      · rename_i hle
        simp only [Option.some.injEq, Prod.mk.injEq] at hf; obtain ⟨rfl, rfl, rfl⟩ := hf
        have hk := arrAt_look ha
        obtain ⟨cap, c, t, vs, rest, hv, h1, h2, h4, h3, h6, h7⟩ := sl_now h hl ha
        have hlen : (es.take len).length = len := by simp; omega
        refine ⟨⟨ρ s, cap, c, t, vs.take (len * n), vs.drop (len * n) ++ rest, rfl, by rw [hlen]; simpa using hv, by rw [hlen]; exact h2, h3, by simpa using h4,
          (PElems_take len h6).sub fun b hb => (hM b hb).1, by rw [← List.append_assoc, List.take_append_drop]; exact h7⟩, fun x hx => ?_⟩
        rw [List.mem_singleton.1 hx]
        exact ⟨⟨ver, _, hk, rfl⟩, by simp [isBoxSite, hk]⟩
      · cases hf
    · rename_i n es ha
      split at hf
      · rename_i hle
        simp only [Option.some.injEq, Prod.mk.injEq] at hf; obtain ⟨rfl, rfl, rfl⟩ := hf
        have : flat σ.mem (.sl s ver 0 len) = some (.sl n (es.take len), [s]) := by simp [flat, ha, hle]
        exact ⟨⟨rfl, (flat_rel h this hl).sub hM⟩, by simp⟩
      · cases hf
    · cases hf
  · simp only [Option.some.injEq, Prod.mk.injEq] at hf; obtain ⟨rfl, rfl, rfl⟩ := hf
    simp only [LRel, PRel] at hl
    exact ⟨⟨rfl, by simpa only [PRel] using hl⟩, by simp⟩
  · split at hf
    · rename_i p ss' hfl
      simp only [Option.some.injEq, Prod.mk.injEq] at hf; obtain ⟨rfl, rfl, rfl⟩ := hf
      exact ⟨⟨rfl, (flat_rel h hfl hl).sub hM⟩, by simp⟩
    · cases hf

theorem toOs_rel (h : SR M0 D w0 ρ σ a w) : ∀ {ls : List L} {vs : List Value} {os : List O} {hs ss : List Nat}, toOs σ.mem ls = some (os, hs, ss) →
    LRels w (mutOf M0 ρ σ.mem) ρ σ.mem ls vs → (∀ b, M' b → Less M0 ρ σ.mem ss b) → ORels w M' os vs (hs.map ρ) ∧ ∀ x ∈ hs, MutAt σ.mem x ∧ isBoxSite σ.mem x = false
  | [], vs, os, hs, ss, hf, hl, _ => by
    simp only [toOs, Option.some.injEq, Prod.mk.injEq] at hf; obtain ⟨rfl, rfl, rfl⟩ := hf
    simp only [LRels] at hl
    exact ⟨⟨hl, rfl⟩, by simp⟩
  | l :: ls, vs, os, hs, ss, hf, hl, hM => by
    simp only [toOs] at hf
    split at hf
    · rename_i o h1 s1 os' hs' ss' e1 e2
      simp only [Option.some.injEq, Prod.mk.injEq] at hf; obtain ⟨rfl, rfl, rfl⟩ := hf
      simp only [LRels] at hl; obtain ⟨v, rest, rfl, h3, h4⟩ := hl
      obtain ⟨g1, g2⟩ := toO_rel h e1 h3 fun b hb => (Less.app (hM b hb)).1
      obtain ⟨g3, g4⟩ := toOs_rel h e2 h4 fun b hb => (Less.app (hM b hb)).2
      refine ⟨⟨v, rest, _, _, rfl, by simp, g1, g3⟩, fun x hx => ?_⟩
      rcases List.mem_append.1 hx with hx | hx
      · exact g2 x hx
      · exact g4 x hx
    · cases hf

theorem toA_rel (h : SR M0 D w0 ρ σ a w) {own : Bool} {l : L} {v : Value} {o : A} {hs ss : List Nat} (hf : toA own σ.mem l = some (o, hs, ss)) (hl : LRel w (mutOf M0 ρ σ.mem) ρ σ.mem l v)
    (hM : ∀ b, M' b → Less M0 ρ σ.mem ss b) : ARel w M' o v (hs.map ρ) ∧ (∀ x ∈ hs, MutAt σ.mem x) ∧
      ((∃ s ver, l = .ptr s ver 0 ∧ (∃ os, o = .box os) ∧ (∀ x ∈ hs, isBoxSite σ.mem x = true → x = s) ∧ (∃ cs fz, look σ.mem s = some (ver, .box cs fz) ∧ v = .pointer (some ⟨ρ s, 0, none⟩))) ∨
       ((∀ os, o ≠ .box os) ∧ ∀ x ∈ hs, isBoxSite σ.mem x = false)) := by
  unfold toA at hf
  split at hf
  · rename_i s ver
    split at hf
    · rename_i cs hb
      split at hf
      · rename_i os h1 ss' ho
        simp only [Option.some.injEq, Prod.mk.injEq] at hf; obtain ⟨rfl, rfl, rfl⟩ := hf
        have hk := boxAt_look hb
        simp only [LRel] at hl
        have hv := hl.2.now hk
        simp only [ptrK] at hv
        obtain ⟨c, t, hc, hr⟩ := h.blk s ver _ hk
        obtain ⟨g1, g2⟩ := toOs_rel h ho hr hM
        refine ⟨⟨ρ s, c, t, _, hv, hc, g1, rfl⟩, fun x hx => ?_, .inl ⟨s, ver, rfl, ⟨os, rfl⟩, fun x hx hbx => ?_, _, _, hk, hv⟩⟩
        · rcases List.mem_cons.1 hx with rfl | hx
          · exact ⟨ver, _, hk, rfl⟩
          · exact (g2 x hx).1
        · rcases List.mem_cons.1 hx with rfl | hx
          · rfl
          · rw [(g2 x hx).2] at hbx; cases hbx
      · cases hf
    · cases hf
  · split at hf
    · split at hf
      · rename_i n es h1 ss' ho
        simp only [Option.some.injEq, Prod.mk.injEq] at hf; obtain ⟨rfl, rfl, rfl⟩ := hf
        obtain ⟨g1, g2⟩ := toO_rel h ho hl hM
        exact ⟨g1, fun x hx => (g2 x hx).1, .inr ⟨by simp, fun x hx => (g2 x hx).2⟩⟩
      · rename_i p h1 ss' ho
        simp only [Option.some.injEq, Prod.mk.injEq] at hf; obtain ⟨rfl, rfl, rfl⟩ := hf
        obtain ⟨g1, g2⟩ := toO_rel h ho hl hM
        exact ⟨g1, fun x hx => (g2 x hx).1, .inr ⟨by simp, fun x hx => (g2 x hx).2⟩⟩
      · cases hf
    · split at hf
      · rename_i p ss' ho
        simp only [Option.some.injEq, Prod.mk.injEq] at hf; obtain ⟨rfl, rfl, rfl⟩ := hf
        exact ⟨⟨rfl, (snap_rel h ho hl).sub hM⟩, by simp, .inr ⟨by simp, by simp⟩⟩
      · cases hf

theorem toAs_rel (h : SR M0 D w0 ρ σ a w) {own : Bool} : ∀ {ls : List L} {vs : List Value} {os : List A} {hs ss : List Nat}, toAs own σ.mem ls = some (os, hs, ss) →
    LRels w (mutOf M0 ρ σ.mem) ρ σ.mem ls vs → (∀ b, M' b → Less M0 ρ σ.mem ss b) → ARels w M' os vs (hs.map ρ) ∧ ∀ x ∈ hs, MutAt σ.mem x
  | [], vs, os, hs, ss, hf, hl, _ => by
    simp only [toAs, Option.some.injEq, Prod.mk.injEq] at hf; obtain ⟨rfl, rfl, rfl⟩ := hf
    simp only [LRels] at hl
    exact ⟨⟨hl, rfl⟩, by simp⟩
  | l :: ls, vs, os, hs, ss, hf, hl, hM => by
    simp only [toAs] at hf
    split at hf
    · rename_i o h1 s1 os' hs' ss' e1 e2
      simp only [Option.some.injEq, Prod.mk.injEq] at hf; obtain ⟨rfl, rfl, rfl⟩ := hf
      simp only [LRels] at hl; obtain ⟨v, rest, rfl, h3, h4⟩ := hl
      obtain ⟨g1, g2, _⟩ := toA_rel h e1 h3 fun b hb => (Less.app (hM b hb)).1
      obtain ⟨g3, g4⟩ := toAs_rel h e2 h4 fun b hb => (Less.app (hM b hb)).2
      refine ⟨⟨v, rest, _, _, rfl, by simp, g1, g3⟩, fun x hx => ?_⟩
      rcases List.mem_append.1 hx with hx | hx
      · exact g2 x hx
      · exact g4 x hx
    · cases hf

/-- the lent blocks, back -/
theorem backs_took (h : SR M0 D w0 ρ σ a w) {own keep : Bool} : ∀ {ls : List L} {vs : List Value} {as : List A} {hs ss : List Nat} {outs : List (List O)} {bk : List (Nat × Nat × Blk)} {D1 : List Nat},
    toAs own σ.mem ls = some (as, hs, ss) → LRels w (mutOf M0 ρ σ.mem) ρ σ.mem ls vs → OutRel w' Mx as vs outs D1 → D1.Nodup → backs keep σ.mem ls as outs = some bk →
    Took w' Mx ρ σ.mem bk D1 (outs.all (·.all litO) = true) (fun _ _ _ => True) ∧ ∀ x ∈ hs, isBoxSite σ.mem x = true → x ∈ bk.map (·.1)
  | [], vs, as, hs, ss, outs, bk, D1, hf, _, ho, _, hb => by
    simp only [toAs, Option.some.injEq, Prod.mk.injEq] at hf; obtain ⟨rfl, rfl, rfl⟩ := hf
    obtain ⟨rfl, rfl⟩ := ho
    simp only [backs, Option.some.injEq] at hb; subst hb
    exact ⟨⟨[], rfl, by simp, by simp, fun _ _ _ _ _ _ => ⟨trivial, by simp⟩⟩, by simp⟩
  | l :: ls, vs, as, hs, ss, outs, bk, D1, hf, hl, ho, hn, hb => by
    simp only [toAs] at hf
    split at hf
    · rename_i o h1 s1 os' hs' ss' e1 e2
      simp only [Option.some.injEq, Prod.mk.injEq] at hf; obtain ⟨rfl, rfl, rfl⟩ := hf
      simp only [LRels] at hl; obtain ⟨v, rest, rfl, h3, h4⟩ := hl
      obtain ⟨_, _, hcase⟩ := toA_rel (M' := Less M0 ρ σ.mem s1) h e1 h3 fun b hb => hb
      rcases hcase with ⟨s, ver, rfl, ⟨os, rfl⟩, hx1, cs, fz, hk, hv⟩ | ⟨hnb, hx1⟩
      · simp only [OutRel] at ho
        obtain ⟨v', rest', oo, outs', b1, b2, hvr, rfl, rfl, hbr, hor⟩ := ho
        injection hvr with hv1 hv2; subst hv1; subst hv2
        simp only [backs] at hb
        split at hb
        · rename_i r hr
          simp only [Option.some.injEq] at hb; subst hb
          obtain ⟨t2, x2⟩ := backs_took h e2 h4 hor (List.nodup_append.1 hn).2.1 hr
          have t1 := box_took hbr (List.nodup_append.1 hn).1 keep ρ σ.mem s ver (1000 + 64 * s) (.inr ⟨cs, fz, hk, hv⟩)
          refine ⟨(t1.both t2 hn).mono (by intro hl; simpa using hl) fun _ _ _ _ => trivial, fun x hx hbx => ?_⟩
          rcases List.mem_append.1 hx with hx | hx
          · rw [hx1 x hx hbx]; simp
          · have := x2 x hx hbx; simp at this ⊢; rcases this with ⟨p, q, hpq⟩; exact .inr (.inr ⟨p, q, hpq⟩)
        · cases hb
      · cases o with
        | box os => exact absurd rfl (hnb os)
        | v p =>
          simp only [OutRel, List.tail_cons] at ho
          have hb' : backs keep σ.mem ls os' outs = some bk := by
            cases l <;> simpa only [backs] using hb
          obtain ⟨t2, x2⟩ := backs_took h e2 h4 ho hn hb'
          refine ⟨t2, fun x hx hbx => ?_⟩
          rcases List.mem_append.1 hx with hx | hx
          · rw [hx1 x hx] at hbx; cases hbx
          · exact x2 x hx hbx
        | own n es =>
          simp only [OutRel, List.tail_cons] at ho
          have hb' : backs keep σ.mem ls os' outs = some bk := by
            cases l <;> simpa only [backs] using hb
          obtain ⟨t2, x2⟩ := backs_took h e2 h4 ho hn hb'
          refine ⟨t2, fun x hx hbx => ?_⟩
          rcases List.mem_append.1 hx with hx | hx
          · rw [hx1 x hx] at hbx; cases hbx
          · exact x2 x hx hbx
    · cases hf

theorem nodup_iff : ∀ (l : List Nat), nodup l = true ↔ l.Nodup
  | [] => by simp [nodup]
  | x :: l => by simp [nodup, nodup_iff l]

/-- the first that is put at a place with no doubles -/
theorem look_putAll : ∀ (wr : List (Nat × Nat × Blk)) (m : Mem), (wr.map (·.1)).Nodup → ∀ t,
    (∀ s v b, (s, v, b) ∈ wr → s = t → look (putAll m wr) t = some (v, b)) ∧ (t ∉ wr.map (·.1) → look (putAll m wr) t = look m t)
  | [], m, _, t => ⟨by simp, fun _ => rfl⟩
  | (s, v, b) :: wr, m, hn, t => by
    simp only [List.map_cons, List.nodup_cons] at hn
    obtain ⟨h1, h2⟩ := look_putAll wr (put m s v b) hn.2 t
    refine ⟨fun s' v' b' hm he => ?_, fun ht => ?_⟩
    · rcases List.mem_cons.1 hm with hm | hm
      · injection hm with e1 e2; injection e2 with e2 e3; subst e1; subst e2; subst e3; subst he
        simp only [putAll]
        rw [h2 hn.1, look_put, if_pos rfl]
      · exact h1 s' v' b' hm he
    · simp only [List.map_cons, List.mem_cons, not_or] at ht
      simp only [putAll]
      rw [h2 ht.2, look_put, if_neg (Ne.symm ht.1)]

end Go.AW
namespace Go.AW

variable {M0 M M' Mx Mf : Nat → Prop} {D : List Nat} {w0 : Base} {w w' : World} {ρ ρ' : Nat → Nat} {σ : AS} {a : Act} {Pg : Program} {mem mem' : Mem}

theorem mut_live {b : Blk} (h : b.mut = true) : b.live = true := by cases b <;> simp_all [Blk.mut, Blk.live]

theorem find_ent : ∀ (E : List Ent), (E.map (·.1)).Nodup → ∀ en ∈ E, E.find? (fun x => x.1 == en.1) = some en
  | [], _, en, h => by simp at h
  | x :: E, hn, en, h => by
    simp only [List.map_cons, List.nodup_cons] at hn
    rw [List.find?_cons]
    rcases List.mem_cons.1 h with rfl | h
    · simp
    · have : (x.1 == en.1) = false := by
        simp only [beq_eq_false_iff_ne]; intro he
        exact hn.1 (he ▸ List.mem_map_of_mem h)
      rw [this]; exact find_ent E hn.2 en h

theorem ent_inj : ∀ (F : List Ent), (F.map Ent.b).Nodup → ∀ x ∈ F, ∀ y ∈ F, x.b = y.b → x = y
  | [], _, x, hx, _, _, _ => by simp at hx
  | z :: F, hn, x, hx, y, hy, hxy => by
    simp only [List.map_cons, List.nodup_cons] at hn
    by_cases h1 : x = z
    · by_cases h2 : y = z
      · rw [h1, h2]
      · have hy' : y ∈ F := (List.mem_cons.1 hy).resolve_left h2
        exact absurd (by rw [← h1, hxy]; exact List.mem_map_of_mem hy') hn.1
    · have hx' : x ∈ F := (List.mem_cons.1 hx).resolve_left h1
      by_cases h2 : y = z
      · exact absurd (by rw [← h2, ← hxy]; exact List.mem_map_of_mem hx') hn.1
      · exact ent_inj F hn.2 x hx' y ((List.mem_cons.1 hy).resolve_left h2) hxy

theorem live_ne (h : SR M0 D w0 ρ σ a w) {b s ver : Nat} {blk : Blk} (hb : M0 b) (hl : look σ.mem s = some (ver, blk)) (hv : blk.live = true) : ρ s ≠ b := by
  intro he
  obtain ⟨h1, h2⟩ := h.base b hb
  rcases h.lo s ver blk hl hv with h3 | h3
  · omega
  · exact h2 (he ▸ h3)

theorem call_good (h : SR M0 D w0 ρ σ a w) {own keep : Bool} {ls : List L} {vals : List Value} {as : List A} {hs ss : List Nat} {res : R} {outs : List (List O)} {fn : FuncId} {dst : Nat} {e : Eff}
    (hl : LRels w (mutOf M0 ρ σ.mem) ρ σ.mem ls vals) (ha : toAs own σ.mem ls = some (as, hs, ss)) (hr : RetC Pg fn as res outs) (hc : callEff σ.mem dst keep ls as hs ss res outs = some e)
    {Kc : Ending → World → Prop} (hk : ∀ v w' ρ', SR M0 D w0 ρ' { σ with mem := putAll σ.mem e.wr } a w' → LRel w' (mutOf M0 ρ' (putAll σ.mem e.wr)) ρ' (putAll σ.mem e.wr) e.val v → Kc (.returned v) w') :
    Calls Pg fn vals.toArray w Kc := by
  unfold callEff at hc
  split at hc
  · cases hc
  rename_i bk hbk
  unfold callOk callWr at hc
  generalize hrs : fromR keep σ.mem (1000000 + 64 * dst) res = rs at hc
  generalize hG : gone σ.mem (hs.filter fun s => !((bk ++ rs.2).map (·.1)).contains s) = G at hc
  generalize hlit : (litR res && outs.all (·.all litO)) = lit at hc
  generalize hFZ : (if lit = true then ([] : List (Nat × Nat × Blk)) else freeze σ.mem (uniq (ss.filter fun s => !((bk ++ rs.2).map (·.1)).contains s))) = FZ at hc
  split at hc
  case isFalse => cases hc
  rename_i hcond
  simp only [Option.some.injEq] at hc
  subst hc
  simp only [Bool.and_eq_true, nodup_iff, Bool.not_eq_true'] at hcond
  obtain ⟨⟨hn1, hn2⟩, hn3⟩ := hcond
  have hdis : ∀ x, x ∈ hs → x ∉ ss := by
    intro x hx hxs
    have : hs.any (ss.contains ·) = true := List.any_eq_true.2 ⟨x, hx, by simpa using hxs⟩
    rw [this] at hn2; cases hn2
  -- what is handed over
  obtain ⟨_, hmut⟩ := toAs_rel (M' := Less M0 ρ σ.mem ss) h ha hl fun b hb => hb
  have F5 : ∀ b, (Less M0 ρ σ.mem (hs ++ ss) b ∨ b ∈ hs.map ρ) → Less M0 ρ σ.mem ss b := by
    intro b hb
    rcases hb with hb | hb
    · exact hb.app.2
    · obtain ⟨x, hx, rfl⟩ := List.mem_map.1 hb
      obtain ⟨ver, blk, hlk, hmt⟩ := hmut x hx
      refine ⟨.inr ⟨x, ver, blk, hlk, hmt, rfl⟩, fun s hs' ver' blk' hl' hlv' he => ?_⟩
      have := h.inj _ _ _ _ _ _ hlk (mut_live hmt) hl' hlv' he.symm
      exact hdis x hx (this ▸ hs')
  obtain ⟨har, _⟩ := toAs_rel (M' := fun b => Less M0 ρ σ.mem (hs ++ ss) b ∨ b ∈ hs.map ρ) h ha hl F5
  have F2 : (hs.map ρ).Nodup := by
    have : ∀ l : List Nat, l.Nodup → (∀ x ∈ l, MutAt σ.mem x) → (l.map ρ).Nodup := by
      intro l
      induction l with
      | nil => simp
      | cons x l ih =>
        intro hn hm
        simp only [List.nodup_cons] at hn
        simp only [List.map_cons, List.nodup_cons]
        refine ⟨fun hx => ?_, ih hn.2 fun y hy => hm y (List.mem_cons_of_mem _ hy)⟩
        obtain ⟨y, hy, he⟩ := List.mem_map.1 hx
        obtain ⟨v1, b1, l1, m1⟩ := hm x List.mem_cons_self
        obtain ⟨v2, b2, l2, m2⟩ := hm y (List.mem_cons_of_mem _ hy)
        have := h.inj _ _ _ _ _ _ l2 (mut_live m2) l1 (mut_live m1) he
        exact hn.1 (this ▸ hy)
    exact this hs hn1 hmut
  have F3 : ∀ b, b ∈ hs.map ρ → b < w.heap.size ∧ ¬ Less M0 ρ σ.mem (hs ++ ss) b := by
    intro b hb
    obtain ⟨x, hx, rfl⟩ := List.mem_map.1 hb
    obtain ⟨ver, blk, hlk, hmt⟩ := hmut x hx
    exact ⟨h.hi x ver blk hlk (mut_live hmt), fun hL => hL.2 x (List.mem_append_left _ hx) ver blk hlk (mut_live hmt) rfl⟩
  refine (hr w (Less M0 ρ σ.mem (hs ++ ss)) vals (hs.map ρ) har F2 F3 fun b hb => mut_lt h hb.1).mono ?_
  rintro _ w' ⟨v, D1, D2, rfl, hkp, hout, hres, hnd, hbd⟩
  -- what comes back is taken on
  obtain ⟨t1, tbox⟩ := backs_took h ha hl hout (List.nodup_append.1 hnd).1 hbk
  have t2 := fromR_took hres (List.nodup_append.1 hnd).2.1 keep ρ σ.mem (1000000 + 64 * dst)
  rw [hrs] at t2
  obtain ⟨E, e1, e2, e3, e4⟩ := t1.both t2 hnd
  have hwr : (G ++ bk ++ rs.2 ++ FZ) = G ++ (E.map Ent.out ++ FZ) := by rw [e1]; simp
  rw [hwr] at hk hn3
  have hEs : E.map (·.1) = (E.map Ent.out).map (·.1) := by simp [Ent.out]
  have hbkE : (bk ++ rs.2).map (·.1) = E.map (·.1) := by rw [hEs, e1]
  have hnE : (E.map (·.1)).Nodup := by
    rw [hEs]
    simp only [List.map_append] at hn3 ⊢
    exact (List.nodup_append.1 (List.nodup_append.1 hn3).2.1).1
  have LK := fun t => look_putAll (G ++ (E.map Ent.out ++ FZ)) σ.mem hn3 t
  -- the new numbering
  obtain ⟨ρ', rE, rO⟩ : ∃ ρ' : Nat → Nat, (∀ en, en ∈ E → ρ' en.1 = en.b) ∧ ∀ s, s ∉ E.map (·.1) → ρ' s = ρ s := by
    refine ⟨fun s => match E.find? (fun x => x.1 == s) with | some en => en.b | none => ρ s, fun en he => ?_, fun s hs' => ?_⟩
    · simp only [find_ent E hnE en he]
    · have : E.find? (fun x => x.1 == s) = none := by
        rw [List.find?_eq_none]
        intro x hx he
        exact hs' (List.mem_map.2 ⟨x, hx, by simpa using he⟩)
      simp only [this]
  obtain ⟨mem', hmem⟩ : ∃ m, putAll σ.mem (G ++ (E.map Ent.out ++ FZ)) = m := ⟨_, rfl⟩
  rw [hmem] at LK
  simp only [hmem] at hk
  have lE : ∀ en, en ∈ E → look mem' en.1 = some (en.2.1, en.2.2.1) := by
    intro en he
    exact (LK en.1).1 en.1 en.2.1 en.2.2.1 (List.mem_append_right _ (List.mem_append_left _ (List.mem_map.2 ⟨en, he, rfl⟩))) rfl
  -- where else a place may be found
  have gG : ∀ s, s ∈ G.map (·.1) → look mem' s = some (nextVer σ.mem s, .dead) := by
    intro s hs'
    obtain ⟨⟨s1, v1, b1⟩, hx, rfl⟩ := List.mem_map.1 hs'
    have hx' := hx
    rw [← hG] at hx'
    simp only [gone, List.mem_map] at hx'
    obtain ⟨y, _, hy⟩ := hx'
    injection hy with y1 y2; injection y2 with y2 y3; subst y1; subst y2; subst y3
    exact (LK y).1 y _ _ (List.mem_append_left _ hx) rfl
  have gF : ∀ s, s ∈ FZ.map (·.1) → lit = false ∧ ∃ ver b0, look σ.mem s = some (ver, b0) ∧ look mem' s = some (ver, fzBlk b0) := by
    intro s hs'
    cases lit with
    | true => rw [if_pos rfl] at hFZ; rw [← hFZ] at hs'; simp at hs'
    | false =>
      rw [if_neg (by simp)] at hFZ
      obtain ⟨⟨s1, v1, b1⟩, hx, rfl⟩ := List.mem_map.1 hs'
      have hx' := hx
      rw [← hFZ] at hx'
      simp only [freeze, List.mem_filterMap, Option.map_eq_some_iff] at hx'
      obtain ⟨y, _, ⟨vy, by'⟩, hly, hy⟩ := hx'
      injection hy with y1 y2; injection y2 with y2 y3; subst y1; subst y2; subst y3
      exact ⟨rfl, vy, by', hly, (LK y).1 y _ _ (List.mem_append_right _ (List.mem_append_right _ hx)) rfl⟩
  have inFZ : ∀ s ver b0, lit = false → s ∈ ss → s ∉ E.map (·.1) → look σ.mem s = some (ver, b0) → s ∈ FZ.map (·.1) := by
    intro s ver b0 hlf hs' hsE hl'
    subst hlf
    rw [if_neg (by simp)] at hFZ
    rw [← hFZ]
    exact List.mem_map.2 ⟨(s, ver, fzBlk b0), by simp only [freeze, List.mem_filterMap]; exact ⟨s, (mem_uniq _ _).2 (List.mem_filter.2 ⟨hs', by rw [hbkE]; simpa using hsE⟩), by simp [hl']⟩, rfl⟩
  have rest : ∀ s, s ∉ E.map (·.1) → s ∉ G.map (·.1) → s ∉ hs := by
    intro s h1 h2 h3
    by_cases hb : isBoxSite σ.mem s = true
    · have := tbox s h3 hb
      apply h1
      rw [← hbkE]
      simp only [List.map_append, List.mem_append]
      exact .inl this
    · apply h2
      rw [← hG]
      refine List.mem_map.2 ⟨(s, nextVer σ.mem s, .dead), ?_, rfl⟩
      simp only [gone, List.mem_map]
      refine ⟨s, ?_, rfl⟩
      rw [List.mem_filter, List.mem_filter]
      refine ⟨⟨h3, ?_⟩, by simpa using hb⟩
      rw [hbkE]
      simpa using h1
  -- every place of the new state
  have cls : ∀ s ver blk, look mem' s = some (ver, blk) → (∃ en, en ∈ E ∧ en.1 = s ∧ ver = en.2.1 ∧ blk = en.2.2.1) ∨ blk = .dead ∨
      (s ∉ E.map (·.1) ∧ s ∉ hs ∧ ∃ b0, look σ.mem s = some (ver, b0) ∧ (blk = b0 ∨ blk = fzBlk b0) ∧ (blk.mut = true → lit = false → s ∉ ss)) := by
    intro s ver blk hl'
    by_cases h1 : s ∈ E.map (·.1)
    · obtain ⟨en, he, rfl⟩ := List.mem_map.1 h1
      rw [lE en he] at hl'
      injection hl' with hl'; injection hl' with a1 a2
      exact .inl ⟨en, he, rfl, a1.symm, a2.symm⟩
    · by_cases h2 : s ∈ G.map (·.1)
      · rw [gG s h2] at hl'
        injection hl' with hl'; injection hl' with a1 a2
        exact .inr (.inl a2.symm)
      · have h3 := rest s h1 h2
        by_cases h4 : s ∈ FZ.map (·.1)
        · obtain ⟨hlf, v0, b0, k1, k2⟩ := gF s h4
          rw [k2] at hl'
          injection hl' with hl'; injection hl' with a1 a2; subst a1; subst a2
          exact .inr (.inr ⟨h1, h3, b0, k1, .inr rfl, fun hm => by simp [fz_mut] at hm⟩)
        · have := (LK s).2 (by
            simp only [List.map_append, List.mem_append, not_or]
            exact ⟨h2, by rw [← hEs]; exact h1, h4⟩)
          rw [this] at hl'
          exact .inr (.inr ⟨h1, h3, blk, hl', .inl rfl, fun hm hlf hss => h4 (inFZ s ver blk hlf hss h1 hl')⟩)
  have live0 : ∀ b0 blk : Blk, (blk = b0 ∨ blk = fzBlk b0) → blk.live = true → b0.live = true := by
    intro b0 blk hb hlv
    rcases hb with rfl | rfl
    · exact hlv
    · rw [fz_live] at hlv; exact hlv
  have hEb : ∀ en, en ∈ E → en.b ∈ D1 ++ D2 := fun en he => e2.subset (List.mem_map.2 ⟨en, he, rfl⟩)
  have notD : ∀ s ver b0, s ∉ hs → look σ.mem s = some (ver, b0) → b0.live = true → ρ s ∉ hs.map ρ := by
    intro s ver b0 hsn hl' hlv hD
    obtain ⟨x, hx, he⟩ := List.mem_map.1 hD
    obtain ⟨v1, b1, l1, m1⟩ := hmut x hx
    have := h.inj _ _ _ _ _ _ l1 (mut_live m1) hl' hlv he
    exact hsn (this ▸ hx)
  -- what may still be written
  have mf : ∀ b, mutOf M0 ρ' mem' b → M0 b ∨ (∃ en, en ∈ E ∧ b = en.b) ∨ ∃ s ver b0, s ∉ hs ∧ look σ.mem s = some (ver, b0) ∧ b0.mut = true ∧ ρ s = b ∧ (lit = false → s ∉ ss) := by
    intro b hb
    rcases hb with hb | ⟨s, ver, blk, hl', hm, hre⟩
    · exact .inl hb
    · rcases cls s ver blk hl' with ⟨en, he, rfl, _, _⟩ | rfl | ⟨h1, h2, b0, h3, h4, h5⟩
      · exact .inr (.inl ⟨en, he, by rw [← hre, rE en he]⟩)
      · simp [Blk.mut] at hm
      · have : blk = b0 := by
          rcases h4 with h4 | h4
          · exact h4
          · rw [h4, fz_mut] at hm; cases hm
        subst this
        exact .inr (.inr ⟨s, ver, blk, h2, h3, hm, by rw [← rO s h1]; exact hre, h5 hm⟩)
  have sub1 : lit = false → ∀ b, mutOf M0 ρ' mem' b → Less M0 ρ σ.mem (hs ++ ss) b ∨ b ∈ D1 ++ D2 := by
    intro hlf b hb
    rcases mf b hb with hb | ⟨en, he, rfl⟩ | ⟨s, ver, b0, h1, h2, h3, rfl, h5⟩
    · exact .inl ⟨.inl hb, fun s _ ver blk hl' hlv => live_ne h hb hl' hlv⟩
    · exact .inr (hEb en he)
    · refine .inl ⟨.inr ⟨s, ver, b0, h2, h3, rfl⟩, fun s' hs' ver' blk' hl' hlv' he => ?_⟩
      have := h.inj _ _ _ _ _ _ hl' hlv' h2 (mut_live h3) he
      subst this
      rcases List.mem_append.1 hs' with hs' | hs'
      · exact h1 hs'
      · exact h5 hlf hs'
  have sub2 : ∀ b, b ∈ D1 ++ D2 → mutOf M0 ρ' mem' b → b ∈ E.map Ent.b := by
    intro b hbD hb
    obtain ⟨_, hb2⟩ := hbd b hbD
    rcases mf b hb with hb | ⟨en, he, rfl⟩ | ⟨s, ver, b0, h1, h2, h3, rfl, _⟩
    · exfalso
      have hb0 := h.base b hb
      have hsz := h.keeps.size
      rcases hb2 with hb2 | hb2
      · omega
      · obtain ⟨x, hx, rfl⟩ := List.mem_map.1 hb2
        obtain ⟨v1, b1, l1, m1⟩ := hmut x hx
        exact live_ne h hb l1 (mut_live m1) rfl
    · exact List.mem_map.2 ⟨en, he, rfl⟩
    · exfalso
      have := h.hi s ver b0 h2 (mut_live h3)
      rcases hb2 with hb2 | hb2
      · omega
      · exact notD s ver b0 h1 h2 (mut_live h3) hb2
  have fin := e4 (mutOf M0 ρ' mem') ρ' mem' (fun en he => ⟨lE en he, rE en he⟩) (by
    cases hlc : lit with
    | true =>
      rw [hlc] at hlit
      simp only [Bool.and_eq_true] at hlit
      exact .inl ⟨hlit.2, hlit.1⟩
    | false => exact .inr (sub1 hlc)) sub2
  refine hk v w' ρ' ?_ fin.1.2
  · -- the state
    have same : ∀ s ver b0, s ∉ hs → look σ.mem s = some (ver, b0) → b0.live = true → w'.heap[ρ s]? = w.heap[ρ s]? := fun s ver b0 h1 h2 h3 =>
      hkp.block _ (h.hi s ver b0 h2 h3) (notD s ver b0 h1 h2 h3)
    have tr : Tr w (mutOf M0 ρ σ.mem) ρ σ.mem w' (mutOf M0 ρ' mem') ρ' mem' := by
      refine ⟨⟨hkp.size, fun b hb hm => hkp.block b hb fun hD => hm ?_⟩, fun b hb hm => ?_, fun s ver blk hl' => ?_⟩
      · obtain ⟨x, hx, rfl⟩ := List.mem_map.1 hD
        obtain ⟨v1, b1, l1, m1⟩ := hmut x hx
        exact .inr ⟨x, v1, b1, l1, m1, rfl⟩
      · rcases mf b hm with hm | ⟨en, he, rfl⟩ | ⟨s, ver, b0, _, h2, h3, rfl, _⟩
        · exact .inl hm
        · rcases (hbd _ (hEb en he)).2 with h1 | h1
          · omega
          · obtain ⟨x, hx, hxe⟩ := List.mem_map.1 h1
            obtain ⟨v1, b1, l1, m1⟩ := hmut x hx
            exact .inr ⟨x, v1, b1, l1, m1, hxe⟩
        · exact .inr ⟨s, ver, b0, h2, h3, rfl⟩
      · by_cases h1 : s ∈ E.map (·.1)
        · obtain ⟨en, he, rfl⟩ := List.mem_map.1 h1
          obtain ⟨_, hfr⟩ := e3 en he
          refine ⟨en.2.1, en.2.2.1, lE en he, ?_, fun hv => ?_⟩
          · rcases hfr with hfr | ⟨cs, fz, cs', h3, _, _⟩
            · rw [hfr]; simp [nextVer, hl']
            · rw [hl'] at h3; injection h3 with h3; injection h3 with h3 _; omega
          · rcases hfr with hfr | ⟨cs, fz, cs', h3, h4, h5⟩
            · rw [hfr] at hv; simp [nextVer, hl'] at hv
            · rw [hl'] at h3; injection h3 with h3; injection h3 with h6 h7
              refine ⟨(rE en he).trans h5, ?_⟩
              rw [h7, h4]; trivial
        · by_cases h2 : s ∈ G.map (·.1)
          · exact ⟨_, _, gG s h2, by simp [nextVer, hl'], fun hv => by simp [nextVer, hl'] at hv⟩
          · have h3 := rest s h1 h2
            by_cases h4 : s ∈ FZ.map (·.1)
            · obtain ⟨_, v0, b0, k1, k2⟩ := gF s h4
              rw [hl'] at k1; injection k1 with k1; injection k1 with k3 k4; subst k3; subst k4
              refine ⟨ver, _, k2, Nat.le_refl _, fun _ => ⟨rO s h1, ?_⟩⟩
              cases blk with
              | box => trivial
              | dead => trivial
              | arr n es fz => exact ⟨rfl, Nat.le_refl _, fun c t fr hcc => ⟨c, t, fr, by rw [same s ver _ h3 hl' rfl]; exact hcc, Nat.le_refl _⟩⟩
            · have hlk := (LK s).2 (by
                simp only [List.map_append, List.mem_append, not_or]
                exact ⟨h2, by rw [← hEs]; exact h1, h4⟩)
              exact ⟨ver, blk, hlk.trans hl', Nat.le_refl _, fun _ => ⟨rO s h1, Fits.refl _ _ _ _ fun hlv => same s ver blk h3 hl' hlv⟩⟩
    have kp : Keeps D w0 w' := by
      refine ⟨hkp.os.trans h.keeps.os, hkp.tape.trans h.keeps.tape, hkp.output.trans h.keeps.output, Nat.le_trans h.keeps.size hkp.size, fun k hk0 hkD => ?_⟩
      rw [hkp.block k (Nat.lt_of_lt_of_le hk0 h.keeps.size) fun hD => ?_]
      · exact h.keeps.block k hk0 hkD
      · obtain ⟨x, hx, rfl⟩ := List.mem_map.1 hD
        obtain ⟨v1, b1, l1, m1⟩ := hmut x hx
        rcases h.lo x v1 b1 l1 (mut_live m1) with h3 | h3
        · omega
        · exact hkD h3
    refine h.turn tr kp (fun s ver blk hl' hlv => ?_) (fun s ver blk hl' hlv => ?_) (fun s ver blk s' ver' blk' hl1 hlv1 hl2 hlv2 he => ?_) (fun s ver blk hl' => ?_)
    · rcases cls s ver blk hl' with ⟨en, he, rfl, _, _⟩ | rfl | ⟨h1, h2, b0, h3, h4, _⟩
      · rw [rE en he]
        rcases (hbd _ (hEb en he)).2 with h5 | h5
        · left; exact Nat.le_trans h.keeps.size h5
        · obtain ⟨x, hx, hxe⟩ := List.mem_map.1 h5
          obtain ⟨v1, b1, l1, m1⟩ := hmut x hx
          rw [← hxe]; exact h.lo x v1 b1 l1 (mut_live m1)
      · simp [Blk.live] at hlv
      · rw [rO s h1]; exact h.lo s ver b0 h3 (live0 b0 blk h4 hlv)
    · rcases cls s ver blk hl' with ⟨en, he, rfl, _, _⟩ | rfl | ⟨h1, h2, b0, h3, h4, _⟩
      · rw [rE en he]; exact (hbd _ (hEb en he)).1
      · simp [Blk.live] at hlv
      · rw [rO s h1]; exact Nat.lt_of_lt_of_le (h.hi s ver b0 h3 (live0 b0 blk h4 hlv)) hkp.size
    · have mixed : ∀ en s2 ver2 b2, en ∈ E → s2 ∉ hs → look σ.mem s2 = some (ver2, b2) → b2.live = true → en.b = ρ s2 → False := by
        intro en s2 ver2 b2 he hs2 hl2 hlv2 heq
        rcases (hbd _ (hEb en he)).2 with h5 | h5
        · have := h.hi s2 ver2 b2 hl2 hlv2; omega
        · rw [heq] at h5; exact notD s2 ver2 b2 hs2 hl2 hlv2 h5
      rcases cls s ver blk hl1 with ⟨en, hen, rfl, _, _⟩ | rfl | ⟨h1, h2, b0, h3, h4, _⟩
      · rcases cls s' ver' blk' hl2 with ⟨en', hen', rfl, _, _⟩ | rfl | ⟨g1, g2, c0, g3, g4, _⟩
        · rw [rE en hen, rE en' hen'] at he
          have hnb : (E.map Ent.b).Nodup := e2.nodup hnd
          rw [ent_inj E hnb en hen en' hen' he]
        · simp [Blk.live] at hlv2
        · rw [rE en hen, rO s' g1] at he
          exact (mixed en s' ver' c0 hen g2 g3 (live0 c0 blk' g4 hlv2) he).elim
      · simp [Blk.live] at hlv1
      · rcases cls s' ver' blk' hl2 with ⟨en', hen', rfl, _, _⟩ | rfl | ⟨g1, g2, c0, g3, g4, _⟩
        · rw [rE en' hen', rO s h1] at he
          exact (mixed en' s ver b0 hen' h2 h3 (live0 b0 blk h4 hlv1) he.symm).elim
        · simp [Blk.live] at hlv2
        · rw [rO s h1, rO s' g1] at he
          exact h.inj _ _ _ _ _ _ h3 (live0 b0 blk h4 hlv1) g3 (live0 c0 blk' g4 hlv2) he
    · rcases cls s ver blk hl' with ⟨en, hen, rfl, rfl, rfl⟩ | rfl | ⟨h1, h2, b0, h3, h4, _⟩
      · rw [rE en hen]; exact fin.2 en hen
      · trivial
      · rw [rO s h1]
        have := (h.blk s ver b0 h3).move tr fun hlv => same s ver b0 h2 h3 hlv
        rcases h4 with rfl | rfl
        · exact this
        · cases b0 <;> exact this

end Go.AW
