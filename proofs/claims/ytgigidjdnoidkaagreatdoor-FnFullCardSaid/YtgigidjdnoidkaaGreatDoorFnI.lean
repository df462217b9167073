/- Part 9 of the proof that laws.FnFull answers true at every input and leaves it as it was: an own small semantics of the translated code, contracts of the functions, the plain law. No condition. -/
import Derived.LaidMore
import Derived.Lay
import Derived.OpenShut
import Derived.ProofKit
import Derived.SevenTiedAt
import Derived.Stop.Joined
import Derived.Test.YtgigidjdnoidkaaGreatDoorCards
import Derived.Test.YtgigidjdnoidkaaGreatDoorTie
import Derived.Test.YtgigidjdnoidkaaGreatDoorFnH
set_option linter.unusedVariables false
set_option linter.unusedSimpArgs false
set_option linter.unnecessarySimpa false
namespace Go.Proofs.YtgigidjdnoidkaaGreatDoor
open Go.ChangeShapes Go.WideShapes Go.ChangeAt Go.RowKit

theorem own : ownKnob Tryz.prog.godebug = none := by kernel_rfl
theorem cells5 : Tryz.prog.cellsOf 5 = 1 := by kernel_rfl

section
open Go.AW
theorem elems_u8 (W : World) (M : Nat → Prop) : ∀ (l : List UInt8), PElems W M 1 (l.map eb) (l.map fun b => Value.int .u8 b.toNat)
  | [] => rfl
  | b :: l => ⟨[.int .u8 b.toNat], l.map fun b => Value.int .u8 b.toNat, rfl, rfl, by intro v hv; rw [List.mem_singleton.1 hv]; rfl, rfl, elems_u8 W M l⟩
end

/-- a world whose old blocks stand as they stood: nothing is written, nothing frozen -/
theorem kept_of {W W' : World} {may : MemPlace → Prop} (h : Go.AW.Keeps [] W W') : W.keptBut W' may := by
  refine ⟨h.os, h.output, fun i hi => ?_⟩
  rw [h.block i hi (by simp)]
  cases W.heap[i]? with
  | none => exact rfl
  | some o =>
    cases o with
    | cells c t fr => exact ⟨rfl, rfl, rfl, fun _ _ => rfl⟩
    | map es clock => exact .inr ⟨rfl, rfl⟩
    | _ => exact rfl
theorem cell_of {W W' : World} (h : Go.AW.Keeps [] W W') {a : Addr} (ha : a.block < W.heap.size) : W'.cell? a = W.cell? a := by
  unfold World.cell?; rw [h.block _ ha (by simp)]
theorem frozen_of {W W' : World} (h : Go.AW.Keeps [] W W') {a : Addr} (ha : a.block < W.heap.size) : W'.frozen? a = W.frozen? a := by
  unfold World.frozen?; rw [h.block _ ha (by simp)]
theorem block_lt {W : World} {a : Addr} {v : Value} (h : W.cell? a = some v) : a.block < W.heap.size := by
  unfold World.cell? at h
  by_cases g : a.block < W.heap.size
  · exact g
  · have : W.heap[a.block]? = none := Array.getElem?_eq_none (by omega)
    rw [this] at h; simp at h

set_option maxRecDepth 100000 in
theorem contract (H : Type) (enc : TypeId × Value → H) (W : World) (base : Nat) (args : Array Value) (ds gs : List (DataW H)) (before : List MemPlace)
    (hval : ∀ (j : Nat) t v, Tryz.f3.params[j]? = some t → args[j]? = some v → Value.okWide Tryz.prog W .any base t v)
    (hW : DataW.Whole enc Tryz.prog Tryz.f3.params.toList Rows.fnFullSpec.vars false W args.toList ds gs before) :
    Calls Tryz.prog 3 args W fun e W' => ∃ v, e = .returned v ∧ Rows.fnFullSpec.post enc Tryz.prog Tryz.f3 false true false false W args v W' := by
  have hW' := hW
  obtain ⟨p, q, hA0, hV, rfl, hfz, hnd⟩ := hW
  have hA : DataW.TrodAll enc Tryz.prog W 0 (fun _ => true) true Tryz.f3.params.toList args.toList ds p := hA0
  rw [Tryz.params3] at hA hval
  obtain ⟨v0, d0, rfl, rfl, h0⟩ := trodAll_one hA
  obtain ⟨rfl, rfl⟩ := trodVars_none hV
  obtain ⟨a1, len, cap, rfl⟩ := okWide_slice Tryz.underlying22 (hval 0 22 v0 rfl rfl)
  obtain ⟨fuel, hf⟩ := h0
  simp only [List.append_nil] at hW' hfz
  have done : ∀ (W' : World) (v : Value), Go.AW.Keeps [] W W' → v = .bool true →
      (∀ sp : Nat → Bool, (∀ x ∈ p, sp x.block = true) → DataW.Trod enc Tryz.prog W' 0 sp true 22 (.slice a1 len cap) d0 p) →
      Rows.fnFullSpec.post enc Tryz.prog Tryz.f3 false true false false W #[.slice a1 len cap] v W' := by
    rintro W' v hk rfl hs
    have hold : ∀ x ∈ p, (fun b => decide (b < W.heap.size)) x.block = true := fun x hx => by simpa using hW'.lt x hx
    refine ⟨[d0], [], p, [], p, [], hW', trodAll_mk1 (shut_bool Tryz.underlying4 _), trodAll_mk1 (hs _ hold), rfl, kept_of hk, fun h => by cases h⟩
  have walk : ∀ x : List UInt8, Go.AW.PRel W (fun b => False ∨ b ∈ []) (.sl 1 (x.map Go.AW.eb)) (.slice a1 len cap) →
      Calls Tryz.prog 3 #[.slice a1 len cap] W fun e W' => e = .returned (.bool true) ∧ Go.AW.Keeps [] W W' := by
    intro x hx
    refine ((Go.AW.laws_FnFull_all x).2 W (fun _ => False) [.slice a1 len cap] [] ?_ List.nodup_nil (by simp) (by simp)).mono ?_
    · exact ⟨_, [], [], [], rfl, rfl, ⟨rfl, hx⟩, rfl, rfl⟩
    · rintro e w' ⟨v, D1, D2, rfl, hk, ho, ⟨_, hr⟩, _, _⟩
      have : v = .bool true := hr
      exact ⟨by rw [this], hk⟩
  rcases open_ints Tryz.underlying22 Tryz.underlying5 cells5 hf with ⟨hcs, hx⟩ | ⟨a, len', cap', zs, hcs, _, hl, hm, hz, hx, hcell, hwz⟩
  · simp [Value.cells] at hcs
    obtain ⟨rfl, rfl, rfl⟩ := hcs
    simp only [Prod.mk.injEq] at hx
    obtain ⟨rfl, rfl⟩ := hx
    refine (walk [] ⟨none, 0, [], rfl, Nat.le_refl _, rfl, fun h => absurd rfl h⟩).mono ?_
    rintro e W' ⟨rfl, hk⟩
    exact ⟨_, rfl, done W' _ hk rfl fun sp _ => shut_slice_nil Tryz.underlying22⟩
  · simp [Value.cells] at hcs
    obtain ⟨rfl, rfl, rfl⟩ := hcs
    simp only [Prod.mk.injEq] at hx
    obtain ⟨rfl, rfl⟩ := hx
    simp only [if_true] at hz
    have hget : ∀ i, i < cap → 0 ≤ zs.getD i 0 ∧ zs.getD i 0 ≤ 255 := fun i hi => by
      have e : zs.getD i 0 = zs[i]'(by omega) := by simp [show i < zs.length by omega]
      rw [e]; exact bounds_u8 (hwz _ (List.getElem_mem _))
    have hlen : ((zs.take len).map fun n => UInt8.ofNat n.toNat).length = len := by simp; omega
    have hpos : 0 < zs.length → a.spot = none ∧ a.block < W.heap.size := fun h => by
      have h1 := hcell 0 h
      have h2 := World.cell?_spot h1
      have h3 := block_lt h1
      rw [block_add] at h3
      refine ⟨?_, h3⟩
      obtain ⟨ab, ao, sp⟩ := a
      simpa [Addr.add] using h2
    have hrel : Go.AW.PRel W (fun b => False ∨ b ∈ []) (.sl 1 (((zs.take len).map fun n => UInt8.ofNat n.toNat).map Go.AW.eb)) (.slice (some a) len cap) := by
      refine ⟨some a, cap, _, by rw [List.length_map, hlen], by rw [List.length_map, hlen]; exact hl, elems_u8 W _ _, fun hne => ?_⟩
      have hl0 : 0 < len := by
        by_cases g : len = 0
        · subst g; simp at hne
        · omega
      obtain ⟨h1, h2⟩ := hpos (by omega)
      refine ⟨a, rfl, h1, by simp, h2, ?_⟩
      intro i v hv
      have hi : i < len := by
        have := (List.getElem?_eq_some_iff.1 hv).1
        rwa [List.length_map, hlen] at this
      have hb := hget i (by omega)
      have e : zs.getD i 0 = zs[i]'(by omega) := by simp [show i < zs.length by omega]
      rw [hcell i (by omega)]
      simp only [List.getElem?_map, List.getElem?_take, if_pos hi, List.getElem?_eq_getElem (show i < zs.length by omega), Option.map_some, Option.some.injEq] at hv
      rw [← hv, e]
      congr 2
      rw [e] at hb
      rw [UInt8.toNat_ofNat', Nat.mod_eq_of_lt (by omega)]; omega
    refine (walk _ hrel).mono ?_
    rintro e W' ⟨rfl, hk⟩
    refine ⟨_, rfl, done W' _ hk rfl fun sp hsp => ⟨_, shut_ints 0 Tryz.underlying22 Tryz.underlying5 cells5 (Nat.zero_le _) hl hm ?_ ?_ hwz⟩⟩
    · by_cases g : zs.length = 0
      · have : cap = 0 := by omega
        subst this
        have : len = 0 := by omega
        subst this
        rw [g]; split <;> rfl
      · have h2 : sp a.block = true := by
          have := hsp (.cell a.block a.off) (by
            simp only [MemPlace.row, List.mem_map, List.mem_range]
            exact ⟨0, by omega, by simp⟩)
          exact this
        rw [h2, if_pos rfl]; exact hz
    · intro i hi
      rw [cell_of hk (by rw [block_add]; exact (hpos (by omega)).2)]
      exact hcell i hi

set_option maxRecDepth 100000 in
theorem lifted (os : Os) (started : os.Started) (H : Type) (enc : TypeId × Value → H) :
    ReturnsInHanded {} Tryz.checked os 3 .any (fun w args => (Rows.fnFullSpec.pre enc Tryz.prog Tryz.f3 Rows.fnFullRow.domain false w args ∧ laidMetH Tryz.prog Rows.fnFullRow.laid w) ∧ sizedMet enc Tryz.prog Tryz.f3 (OpenSpec.ofChange Rows.fnFullSpec) false w args)
      (Rows.fnFullSpec.post enc Tryz.prog Tryz.f3 false true false false) := by
  refine returnsInHanded_of_change_and (C := Tryz.checked) (X := fun w _ => laidMetH Tryz.prog Rows.fnFullRow.laid w) (fun _ _ _ hh h => h.of_heap hh) own started (by kernel_rfl) Tryz.func3
    (ChangeSpec.witness_shaped (enc := enc) (C := Tryz.checked) (os := os) (X := fun w _ => laidMetH Tryz.prog Rows.fnFullRow.laid w) false (World.laidAll Tryz.prog os Rows.fnFullRow.laid) #[.slice none 0 0] 8 (World.laidAll_os _ _ _)
      (World.shaped_of_ZipB (by kernel_rfl) (by kernel_rfl)) (by kernel_rfl) (by kernel_rfl) (by kernel_rfl)
      (by rw [MakeChecks.laidMetH_plain _ _ _ (by kernel_rfl)]; exact laidMet_laidAll _ (by kernel_rfl) (by kernel_rfl))) ?_
  intro W base args ds gs before hval hW _ _ _ _
  exact contract H enc W base args ds gs before hval hW

theorem said : Rows.FnFullSaid :=
  OpenClaim.holds_of_wide 3 Tryz.f3 rfl rfl rfl rfl rfl rfl rfl ⟨rfl, rfl, rfl, rfl, rfl⟩ rfl rfl rfl rfl rfl (by kernel_rfl) Tryz.func3 (by kernel_rfl)
    (of_decide_eq_true (by kernel_rfl)) (by unfold Func.isWrapper; first | (rw [if_pos (by decide +kernel)]; kernel_rfl) | (rw [if_neg (by decide +kernel)]; exact ⟨rfl, rfl⟩))
    (fun os started H enc _ => lifted os started H enc)
theorem plain (f : FuncId) (fn : Func) (hf : Tryz.pinned.checked.prog.funcNamed "loop.example/g00735/laws.FnFull" = some f) (hfn : Tryz.pinned.checked.prog.funcs[f]? = some fn) :
    true = Tryz.pinned.checked.prog.looks [] ∧ ∀ (j : Nat) t, fn.params[j]? = some t → Tryz.pinned.checked.prog.wantsStandIn t = false := by
  obtain rfl : f = 3 := Option.some.inj ((show Tryz.prog.funcNamed "loop.example/g00735/laws.FnFull" = some 3 by kernel_rfl).symm.trans hf) |>.symm
  obtain rfl : fn = Tryz.f3 := (Option.some.inj (Tryz.func3.symm.trans hfn)).symm
  refine ⟨by kernel_rfl, fun j t ht => ?_⟩
  rw [Tryz.params3] at ht
  obtain rfl : t = 22 := by simpa using Array.mem_of_getElem? ht
  exact (show Tryz.prog.wantsStandIn 22 = false by kernel_rfl)
theorem card : Rows.FnFullCardSaid :=
  Claim7.holds_tied_plain_at .later [] _ _ _ _ said (fun _ h => by cases h) (by kernel_rfl) (fun _ h => by cases h) fnFull_row_tie rfl ⟨rfl, rfl⟩ (by kernel_rfl) rfl plain (by kernel_rfl)
end Go.Proofs.YtgigidjdnoidkaaGreatDoor
