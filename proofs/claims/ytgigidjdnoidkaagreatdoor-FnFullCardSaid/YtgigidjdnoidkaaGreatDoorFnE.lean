/- Part 5 of the proof that laws.FnFull answers true at every input and leaves it as it was: an own small semantics of the translated code, contracts of the functions, the plain law. No condition. -/
import Derived.IntWalk
import Derived.Test.YtgigidjdnoidkaaGreatDoorFnD
set_option linter.unusedVariables false
set_option linter.unusedSimpArgs false
set_option linter.unnecessarySimpa false
namespace Go.AW
open IntWalk

abbrev Str := List UInt8
abbrev oI (x : Int) : R := .o (.p (.int .i64 x))
abbrev oB (x : Bool) : R := .o (.p (.bool x))
abbrev oS (s : Str) : R := .o (.p (.str s))
abbrev aI (x : Int) : A := .v (.int .i64 x)
abbrev aB (x : Bool) : A := .v (.bool x)
abbrev aS (s : Str) : A := .v (.str s)
def eb (b : UInt8) : P := .int .u8 b.toNat
def ei (x : Int) : P := .int .i64 x
def es (s : Str) : P := .str s
abbrev aBs (l : List UInt8) : A := .v (.sl 1 (l.map eb))
abbrev aIs (l : List Int) : A := .v (.sl 1 (l.map ei))

theorem exact_of {f : FuncId} {args : List A} {r0 : R} {o0 : List (List O)} (h : ∃ res outs, Ret PG f args res outs ∧ (res = r0 ∧ outs = o0)) : Ret PG f args r0 o0 := by
  obtain ⟨_, _, h, rfl, rfl⟩ := h; exact h

theorem getD_map {α : Type} (f : α → P) (l : List α) (i : Nat) (h : i < l.length) : (l.map f).getD i default = f l[i] := by
  simp [h]
theorem getD_str (l : Str) (i : Nat) (h : i < l.length) : l.getD i 0 = l[i] := by simp [h]
theorem drop_at {α : Type} (l : List α) (i : Nat) (h : i < l.length) : l.drop i = l[i] :: l.drop (i + 1) := List.drop_eq_getElem_cons h
theorem take_at {α : Type} (l : List α) (i : Nat) (h : i < l.length) : l.take (i + 1) = l.take i ++ [l[i]] := by
  rw [List.take_add_one, List.getElem?_eq_getElem h]; rfl

/-- bounds that every length keeps -/
abbrev BIG : Nat := 4611686018427387904

def digit (b : UInt8) : Prop := 48 ≤ b.toNat ∧ b.toNat ≤ 57
instance (b : UInt8) : Decidable (digit b) := inferInstanceAs (Decidable (_ ∧ _))
def digits (s : Str) : Prop := s ≠ [] ∧ ∀ b ∈ s, digit b
def inr (x lo hi : Int) : Prop := lo ≤ x ∧ x ≤ hi
instance (x lo hi : Int) : Decidable (inr x lo hi) := inferInstanceAs (Decidable (_ ∧ _))

theorem oB_f {p : Prop} (h : ¬ p) : oB false = oB (tf p) := by rw [tf_false h]
theorem oB_t {p : Prop} (h : p) : oB true = oB (tf p) := by rw [tf_true h]
theorem oB_d {p q : Prop} [Decidable q] (h : q ↔ p) : oB (decide q) = oB (tf p) := by rw [tf_dec, propext h]
theorem oB_tf {p q : Prop} (h : q ↔ p) : oB (tf q) = oB (tf p) := by rw [propext h]

theorem wrap_succ (i : Nat) (h : i + 1 < 9223372036854775808) : IntKind.i64.wrap ((i : Int) + 1) = ((i + 1 : Nat) : Int) := by rw [i64_in _ (by omega)]; omega
theorem take_all {α : Type} {p : α → Prop} {l : List α} {i : Nat} (h : i < l.length) (h1 : ∀ x ∈ l.take i, p x) (h2 : p l[i]) : ∀ x ∈ l.take (i + 1), p x := by
  rw [take_at l i h]; intro x hx; rcases List.mem_append.1 hx with hx | hx
  · exact h1 x hx
  · rw [List.mem_singleton.1 hx]; exact h2
theorem all_of_take {α : Type} {p : α → Prop} {l : List α} {i : Nat} (h : ¬ (i : Int) < l.length) (h1 : ∀ x ∈ l.take i, p x) : ∀ x ∈ l, p x := by
  rwa [List.take_of_length_le (by omega)] at h1
theorem at_mem {α : Type} {l : List α} {i : Nat} (h : i < l.length) : l[i] ∈ l := List.getElem_mem h
/-- a bound of all lengths that are met -/
abbrev SB : Nat := 4294967296
end Go.AW
namespace Go.AW
open IntWalk

theorem iwithin_ret (x lo hi : Int) : Ret PG f_impl_within [aI x, aI lo, aI hi] (oB (tf (inr x lo hi))) [] := by
  refine exact_of (p_impl_within rfl rfl ?_)
  simp only [seval, go_sem, i_impl_within]
  repeat' (first
   | ((with_reducible_and_instances first | refine go_br (fun hc => ?_) (fun hc => ?_) | refine go_grd (fun hc => ?_) (fun hc => ?_) | refine go_dgrd (fun hc => ?_) (fun hc => ?_)) <;> (try simp only [decide_eq_true_eq, decide_eq_false_iff_not, Bool.not_eq_true', Bool.not_eq_false'] at hc) <;> simp only [seval, go_sem, hc]))
  · exact oB_d (by simp [inr, hc])
  · exact oB_f (by simp [inr]; omega)
theorem sIn_ret (x lo hi : Int) : Ret PG f_spec_l01In [aI x, aI lo, aI hi] (oB (tf (inr x lo hi))) [] := by
  refine exact_of (p_spec_l01In rfl rfl ?_)
  simp only [seval, go_sem, i_spec_l01In]
  repeat' (first
   | ((with_reducible_and_instances first | refine go_br (fun hc => ?_) (fun hc => ?_) | refine go_grd (fun hc => ?_) (fun hc => ?_) | refine go_dgrd (fun hc => ?_) (fun hc => ?_)) <;> (try simp only [decide_eq_true_eq, decide_eq_false_iff_not, Bool.not_eq_true', Bool.not_eq_false'] at hc) <;> simp only [seval, go_sem, hc]))
  · exact oB_d (by simp [inr, hc])
  · exact oB_f (by simp [inr]; omega)
def money (x : Int) : Prop := inr x 0 4611686018427387904
def time (x : Int) : Prop := inr x 0 1000000000
theorem iMoney_ret (x : Int) : Ret PG f_impl_isMoney [aI x] (oB (tf (money x))) [] := by
  refine exact_of (p_impl_isMoney rfl rfl ?_)
  simp only [seval, go_sem, i_impl_isMoney]
  with_reducible_and_instances refine go_use (iwithin_ret _ _ _) ?_
  simp only [seval, go_sem]
  exact oB_tf Iff.rfl
theorem iTime_ret (x : Int) : Ret PG f_impl_isTime [aI x] (oB (tf (time x))) [] := by
  refine exact_of (p_impl_isTime rfl rfl ?_)
  simp only [seval, go_sem, i_impl_isTime]
  with_reducible_and_instances refine go_use (iwithin_ret _ _ _) ?_
  simp only [seval, go_sem]
  exact oB_tf Iff.rfl
theorem sMoney_ret (x : Int) : Ret PG f_spec_l01Money [aI x] (oB (tf (money x))) [] := by
  refine exact_of (p_spec_l01Money rfl rfl ?_)
  simp only [seval, go_sem, i_spec_l01Money]
  repeat' (first
   | ((with_reducible_and_instances first | refine go_br (fun hc => ?_) (fun hc => ?_) | refine go_grd (fun hc => ?_) (fun hc => ?_) | refine go_dgrd (fun hc => ?_) (fun hc => ?_)) <;> (try simp only [decide_eq_true_eq, decide_eq_false_iff_not, Bool.not_eq_true', Bool.not_eq_false'] at hc) <;> simp only [seval, go_sem, hc]))
  · exact oB_d (by simp [money, inr, hc])
  · exact oB_f (by simp [money, inr]; omega)
theorem sTime_ret (x : Int) : Ret PG f_spec_l06Time [aI x] (oB (tf (time x))) [] := by
  refine exact_of (p_spec_l06Time rfl rfl ?_)
  simp only [seval, go_sem, i_spec_l06Time]
  with_reducible_and_instances refine go_use (sIn_ret _ _ _) ?_
  simp only [seval, go_sem]
  exact oB_tf Iff.rfl

theorem iDigits_ret (s : Str) (hs : s.length < 4294967296) : Ret PG f_impl_Digits [aS s] (oB (tf (digits s))) [] := by
  refine exact_of (p_impl_Digits rfl rfl ?_)
  simp only [seval, go_sem, i_impl_Digits]
  refine go_lp (β := Nat) (fun i => [(6, .p (.int .i64 i))]) (fun _ => []) (fun i => i ≤ s.length ∧ ∀ b ∈ s.take i, digit b) (fun i => s.length - i) 0 ?_ ?_ ?_
  · rfl
  · simp
  · rintro i ⟨hi, hd⟩
    by_cases h : (i : Int) < s.length
    · have h' : i < s.length := by omega
      simp only [seval, go_sem, h, getD_str s i h']
      repeat' (first
       | ((with_reducible_and_instances first | refine go_br (fun hc => ?_) (fun hc => ?_) | refine go_grd (fun hc => ?_) (fun hc => ?_) | refine go_dgrd (fun hc => ?_) (fun hc => ?_)) <;> (try simp only [decide_eq_true_eq, decide_eq_false_iff_not, Bool.not_eq_true', Bool.not_eq_false'] at hc) <;> simp only [seval, go_sem, hc, h, getD_str s i h', wrap_succ i (by omega)]))
      · exact oB_f (fun (g : digits s) => by have := g.2 _ (at_mem h'); unfold digit at this; omega)
      · exact ⟨i + 1, rfl, ⟨h', take_all h' hd (by unfold digit; omega)⟩, by omega⟩
      · exact oB_f (fun (g : digits s) => by have := g.2 _ (at_mem h'); unfold digit at this; omega)
    · simp only [seval, go_sem, h]
      exact oB_d ⟨fun h1 => ⟨h1, all_of_take h hd⟩, fun h1 => h1.1⟩
theorem sDigits_ret (s : Str) (hs : s.length < 4294967296) : Ret PG f_spec_Digits [aS s] (oB (tf (digits s))) [] := by
  refine exact_of (p_spec_Digits rfl rfl ?_)
  simp only [seval, go_sem, i_spec_Digits]
  refine go_lp (β := Nat) (fun i => [(3, .p (.int .i64 i))]) (fun _ => []) (fun i => i ≤ s.length ∧ ∀ b ∈ s.take i, digit b) (fun i => s.length - i) 0 ?_ ?_ ?_
  · rfl
  · simp
  · rintro i ⟨hi, hd⟩
    by_cases h : (i : Int) < s.length
    · have h' : i < s.length := by omega
      simp only [seval, go_sem, h, getD_str s i h']
      repeat' (first
       | ((with_reducible_and_instances first | refine go_br (fun hc => ?_) (fun hc => ?_) | refine go_grd (fun hc => ?_) (fun hc => ?_) | refine go_dgrd (fun hc => ?_) (fun hc => ?_)) <;> (try simp only [decide_eq_true_eq, decide_eq_false_iff_not, Bool.not_eq_true', Bool.not_eq_false'] at hc) <;> simp only [seval, go_sem, hc, h, getD_str s i h', wrap_succ i (by omega)]))
      · exact oB_f (fun (g : digits s) => by have := g.2 _ (at_mem h'); unfold digit at this; omega)
      · exact ⟨i + 1, rfl, ⟨h', take_all h' hd (by unfold digit; omega)⟩, by omega⟩
      · exact oB_f (fun (g : digits s) => by have := g.2 _ (at_mem h'); unfold digit at this; omega)
    · simp only [seval, go_sem, h]
      exact oB_d ⟨fun h1 => ⟨fun e => by simp [e] at h1, all_of_take h hd⟩, fun h1 => by have := List.length_pos_iff.2 h1.1; omega⟩
def printable (s : Str) : Prop := ∀ b ∈ s, 32 ≤ b.toNat ∧ b.toNat ≤ 126
theorem iPrintable_ret (s : Str) (hs : s.length < 4294967296) : Ret PG f_impl_Printable [aS s] (oB (tf (printable s))) [] := by
  refine exact_of (p_impl_Printable rfl rfl ?_)
  simp only [seval, go_sem, i_impl_Printable]
  refine go_lp (β := Nat) (fun i => [(6, .p (.int .i64 i))]) (fun _ => []) (fun i => i ≤ s.length ∧ ∀ b ∈ s.take i, 32 ≤ b.toNat ∧ b.toNat ≤ 126) (fun i => s.length - i) 0 ?_ ?_ ?_
  · rfl
  · simp
  · rintro i ⟨hi, hd⟩
    by_cases h : (i : Int) < s.length
    · have h' : i < s.length := by omega
      simp only [seval, go_sem, h, getD_str s i h']
      repeat' (first
       | ((with_reducible_and_instances first | refine go_br (fun hc => ?_) (fun hc => ?_) | refine go_grd (fun hc => ?_) (fun hc => ?_) | refine go_dgrd (fun hc => ?_) (fun hc => ?_)) <;> (try simp only [decide_eq_true_eq, decide_eq_false_iff_not, Bool.not_eq_true', Bool.not_eq_false'] at hc) <;> simp only [seval, go_sem, hc, h, getD_str s i h', wrap_succ i (by omega)]))
      · exact oB_f (fun (g : printable s) => by have := g _ (at_mem h'); omega)
      · exact ⟨i + 1, rfl, ⟨h', take_all h' hd (by omega)⟩, by omega⟩
      · exact oB_f (fun (g : printable s) => by have := g _ (at_mem h'); omega)
    · simp only [seval, go_sem, h]
      exact oB_t (all_of_take h hd)
def clamp (x lo hi : Int) : Int := if x < lo then lo else if hi < x then hi else x
def addSat (a b : Int) : Int := min (clamp a 0 4611686018427387904 + clamp b 0 4611686018427387904) 4611686018427387904
theorem clamp_in (x : Int) : 0 ≤ clamp x 0 4611686018427387904 ∧ clamp x 0 4611686018427387904 ≤ 4611686018427387904 := by unfold clamp; split <;> (try split) <;> omega
theorem clamp_if (a : Int) : (if (if 4611686018427387904 < a then 4611686018427387904 else a) > 0 then if 4611686018427387904 < a then 4611686018427387904 else a else 0) = clamp a 0 4611686018427387904 := by
  unfold clamp; split <;> split <;> split <;> omega
theorem iAddSat_ret (a b : Int) : Ret PG f_impl_AddSat [aI a, aI b] (oI (addSat a b)) [] := by
  have ha := clamp_in a
  have hb := clamp_in b
  have e : IntKind.i64.wrap (4611686018427387904 - clamp b 0 4611686018427387904) = 4611686018427387904 - clamp b 0 4611686018427387904 := i64_in _ (by omega)
  refine exact_of (p_impl_AddSat rfl rfl ?_)
  simp only [seval, go_sem, i_impl_AddSat, clamp_if, e]
  repeat' (first
   | ((with_reducible_and_instances first | refine go_br (fun hc => ?_) (fun hc => ?_) | refine go_grd (fun hc => ?_) (fun hc => ?_) | refine go_dgrd (fun hc => ?_) (fun hc => ?_)) <;> (try simp only [decide_eq_true_eq, decide_eq_false_iff_not, Bool.not_eq_true', Bool.not_eq_false'] at hc) <;> simp only [seval, go_sem, hc, clamp_if, e]))
  · have : addSat a b = 4611686018427387904 := by unfold addSat; omega
    rw [this]
  · have h2 : addSat a b = clamp a 0 4611686018427387904 + clamp b 0 4611686018427387904 := by unfold addSat; omega
    rw [h2, i64_in _ (by omega)]
theorem sClamp_ret (x lo hi : Int) : Ret PG f_spec_l01Clamp [aI x, aI lo, aI hi] (oI (clamp x lo hi)) [] := by
  refine exact_of (p_spec_l01Clamp rfl rfl ?_)
  simp only [seval, go_sem, i_spec_l01Clamp]
  repeat' (first
   | ((with_reducible_and_instances first | refine go_br (fun hc => ?_) (fun hc => ?_) | refine go_grd (fun hc => ?_) (fun hc => ?_) | refine go_dgrd (fun hc => ?_) (fun hc => ?_)) <;> (try simp only [decide_eq_true_eq, decide_eq_false_iff_not, Bool.not_eq_true', Bool.not_eq_false'] at hc) <;> simp only [seval, go_sem, hc]))
  · simp [clamp, hc]
  · rename_i h1; simp [clamp, h1, hc]
  · rename_i h1; simp [clamp, h1, hc]
theorem sAddMoney_ret (a b : Int) : Ret PG f_spec_AddMoney [aI a, aI b] (.tup [oI (if tf (money a ∧ money b ∧ a + b ≤ 4611686018427387904) = true then a + b else 0), oB (tf (money a ∧ money b ∧ a + b ≤ 4611686018427387904))]) [] := by
  refine exact_of (p_spec_AddMoney rfl rfl ?_)
  simp only [seval, go_sem, i_spec_AddMoney]
  repeat' (first
   | ((with_reducible_and_instances first | refine go_br (fun hc => ?_) (fun hc => ?_) | refine go_grd (fun hc => ?_) (fun hc => ?_) | refine go_dgrd (fun hc => ?_) (fun hc => ?_)) <;> (try simp only [decide_eq_true_eq, decide_eq_false_iff_not, Bool.not_eq_true', Bool.not_eq_false'] at hc) <;> simp only [seval, go_sem, hc])
   | ((with_reducible_and_instances first | refine go_use (sMoney_ret _) ?_); simp only [seval, go_sem]))
  · rename_i h1 h2
    rw [tf_iff] at h1 h2; unfold money inr at h1 h2
    rw [i64_in _ (by omega)] at hc
    rw [tf_false (by unfold money inr; omega)]; rfl
  · rename_i h1 h2
    rw [tf_iff] at h1 h2; have g1 := h1; have g2 := h2; unfold money inr at h1 h2
    rw [i64_in _ (by omega)] at hc
    rw [i64_in _ (by omega), tf_true ⟨g1, g2, by omega⟩]; rfl
  · rename_i h1
    rw [tf_not] at hc
    rw [tf_false (fun g => hc g.2.1)]; rfl
  · rw [tf_not] at hc
    rw [tf_false (fun g => hc g.1)]; rfl
theorem sAddSat_ret (a b : Int) : Ret PG f_spec_AddSat [aI a, aI b] (oI (addSat a b)) [] := by
  have ha := clamp_in a
  have hb := clamp_in b
  refine exact_of (p_spec_AddSat rfl rfl ?_)
  simp only [seval, go_sem, i_spec_AddSat]
  repeat' (first
   | ((with_reducible_and_instances first | refine go_br (fun hc => ?_) (fun hc => ?_) | refine go_grd (fun hc => ?_) (fun hc => ?_) | refine go_dgrd (fun hc => ?_) (fun hc => ?_)) <;> (try simp only [decide_eq_true_eq, decide_eq_false_iff_not, Bool.not_eq_true', Bool.not_eq_false'] at hc) <;> simp only [seval, go_sem, hc])
   | ((with_reducible_and_instances first | refine go_use (sClamp_ret _ _ _) ?_ | refine go_use (sAddMoney_ret _ _) ?_); simp only [seval, go_sem]))
  · rw [tf_not] at hc
    have : ¬ (clamp a 0 4611686018427387904 + clamp b 0 4611686018427387904 ≤ 4611686018427387904) := fun g => hc ⟨ha, hb, g⟩
    have : addSat a b = 4611686018427387904 := by unfold addSat; omega
    rw [this]
  · have h := tf_iff.1 hc
    have : addSat a b = clamp a 0 4611686018427387904 + clamp b 0 4611686018427387904 := by unfold addSat; omega
    rw [this]
def luhnD (d : Bool) (x : Int) : Int := if d = true then (if 9 < 2 * x then 2 * x - 9 else 2 * x) else x
def luhnS : Bool → Str → Int
  | _, [] => 0
  | d, b :: r => luhnD d ((b.toNat : Int) - 48) + luhnS (!d) r
noncomputable def luhn (s : Str) : Int := if tf (digits s) = true then (10 - luhnS true s.reverse % 10) % 10 else -1
theorem luhnD_in (d : Bool) (x : Int) (h : 0 ≤ x ∧ x ≤ 9) : 0 ≤ luhnD d x ∧ luhnD d x ≤ 9 := by
  unfold luhnD; split <;> (try split) <;> omega
theorem luhnS_in : ∀ (d : Bool) (s : Str), (∀ b ∈ s, digit b) → 0 ≤ luhnS d s ∧ luhnS d s ≤ 9 * s.length
  | _, [], _ => by simp [luhnS]
  | d, b :: r, h => by
    have h1 := luhnS_in (!d) r fun x hx => h x (List.mem_cons_of_mem _ hx)
    have h2 : digit b := h b List.mem_cons_self
    have h3 := luhnD_in d ((b.toNat : Int) - 48) (by unfold digit at h2; omega)
    simp only [luhnS, List.length_cons]; omega
theorem take_rev (s : Str) (k : Nat) (h : k < s.length) : (s.take (k + 1)).reverse = s[k] :: (s.take k).reverse := by
  rw [take_at s k h, List.reverse_append]; rfl
theorem iLuhn_ret (s : Str) (hs : s.length < 4294967296) : Ret PG f_impl_Luhn [aS s] (oI (luhn s)) [] := by
  refine exact_of (p_impl_Luhn rfl rfl ?_)
  simp only [seval, go_sem, i_impl_Luhn]
  repeat' (first
   | ((with_reducible_and_instances first | refine go_br (fun hc => ?_) (fun hc => ?_) | refine go_grd (fun hc => ?_) (fun hc => ?_) | refine go_dgrd (fun hc => ?_) (fun hc => ?_)) <;> (try simp only [decide_eq_true_eq, decide_eq_false_iff_not, Bool.not_eq_true', Bool.not_eq_false'] at hc) <;> simp only [seval, go_sem, hc])
   | ((with_reducible_and_instances first | refine go_use (iDigits_ret s hs) ?_); simp only [seval, go_sem]))
  · simp [luhn, hc]
  · skip
    have hd : ∀ b ∈ s, digit b := (tf_iff.1 hc).2
    have hl : luhn s = (10 - luhnS true s.reverse % 10) % 10 := by simp [luhn, hc]
    rw [hl]
    refine go_lp (β := Nat × Int × Bool) (fun b => [(3, .p (.int .i64 b.2.1)), (4, .p (.bool b.2.2)), (5, .p (.int .i64 (b.1 - 1)))]) (fun _ => [])
      (fun b => b.1 ≤ s.length ∧ 0 ≤ b.2.1 ∧ b.2.1 ≤ 9 * ((s.length : Int) - b.1) ∧ luhnS true s.reverse = b.2.1 + luhnS b.2.2 (s.take b.1).reverse) (fun b => b.1) (s.length, 0, true) ?_ ?_ ?_
    · rw [i64_in _ (by omega)]; rfl
    · simp
    · rintro ⟨k, n, d⟩ ⟨hk, hn0, hn1, hs1⟩
      simp only at hk hn0 hn1 hs1 ⊢
      by_cases h : (0 : Int) ≤ (k : Int) - 1
      · obtain ⟨i, rfl⟩ : ∃ i, k = i + 1 := ⟨k - 1, by omega⟩
        have hi : i < s.length := by omega
        have e1 : (((i + 1 : Nat) : Int) - 1).toNat = i := by omega
        have e2 : (((i + 1 : Nat) : Int) - 1) < s.length := by omega
        have hb := hd _ (at_mem hi)
        unfold digit at hb
        have w1 : IntKind.i64.wrap (IntKind.u8.wrap ((s[i].toNat : Int) - 48)) = (s[i].toNat : Int) - 48 := by rw [u8_in _ (by omega), i64_in _ (by omega)]
        have w2 : IntKind.i64.wrap (((i + 1 : Nat) : Int) - 1 - 1) = (i : Int) - 1 := by rw [i64_in _ (by omega)]; omega
        rw [take_rev s i hi, luhnS] at hs1
        have h3 := luhnD_in d ((s[i].toNat : Int) - 48) (by omega)
        cases d
        · have hD : luhnD false ((s[i].toNat : Int) - 48) = (s[i].toNat : Int) - 48 := rfl
          rw [hD] at h3 hs1
          have w3 : IntKind.i64.wrap (n + ((s[i].toNat : Int) - 48)) = n + ((s[i].toNat : Int) - 48) := i64_in _ (by omega)
          simp only [seval, go_sem, h, e1, e2, getD_str s i hi, w1, w2, w3]
          repeat' (first
           | ((with_reducible_and_instances first | refine go_br (fun hc => ?_) (fun hc => ?_) | refine go_grd (fun hc => ?_) (fun hc => ?_) | refine go_dgrd (fun hc => ?_) (fun hc => ?_)) <;> (try simp only [decide_eq_true_eq, decide_eq_false_iff_not, Bool.not_eq_true', Bool.not_eq_false'] at hc) <;> simp only [seval, go_sem, hc, h, e1, e2, getD_str s i hi, w1, w2, w3]))
          exact ⟨(i, n + ((s[i].toNat : Int) - 48), true), rfl, ⟨by (try dsimp only); omega, by (try dsimp only); omega, by (try dsimp only); omega, by rw [hs1]; simp only [Bool.not_false]; omega⟩, by (try dsimp only); omega⟩
        · have hD : luhnD true ((s[i].toNat : Int) - 48) = if 9 < 2 * ((s[i].toNat : Int) - 48) then 2 * ((s[i].toNat : Int) - 48) - 9 else 2 * ((s[i].toNat : Int) - 48) := rfl
          have w4 : IntKind.i64.wrap (((s[i].toNat : Int) - 48) * 2) = 2 * ((s[i].toNat : Int) - 48) := by rw [i64_in _ (by omega)]; omega
          have w5 : IntKind.i64.wrap (2 * ((s[i].toNat : Int) - 48) - 9) = 2 * ((s[i].toNat : Int) - 48) - 9 := i64_in _ (by omega)
          by_cases h9 : 9 < 2 * ((s[i].toNat : Int) - 48)
          · rw [hD, if_pos h9] at h3 hs1
            have w3 : IntKind.i64.wrap (n + (2 * ((s[i].toNat : Int) - 48) - 9)) = n + (2 * ((s[i].toNat : Int) - 48) - 9) := i64_in _ (by omega)
            simp only [seval, go_sem, h, e1, e2, getD_str s i hi, w1, w2, w4, h9, w5, w3]
            repeat' (first
             | ((with_reducible_and_instances first | refine go_br (fun hc => ?_) (fun hc => ?_) | refine go_grd (fun hc => ?_) (fun hc => ?_) | refine go_dgrd (fun hc => ?_) (fun hc => ?_)) <;> (try simp only [decide_eq_true_eq, decide_eq_false_iff_not, Bool.not_eq_true', Bool.not_eq_false'] at hc) <;> simp only [seval, go_sem, hc, h, e1, e2, getD_str s i hi, w1, w2, w4, h9, w5, w3]))
            exact ⟨(i, n + (2 * ((s[i].toNat : Int) - 48) - 9), false), rfl, ⟨by (try dsimp only); omega, by (try dsimp only); omega, by (try dsimp only); omega, by rw [hs1]; simp only [Bool.not_true]; omega⟩, by (try dsimp only); omega⟩
          · rw [hD, if_neg h9] at h3 hs1
            have w3 : IntKind.i64.wrap (n + (2 * ((s[i].toNat : Int) - 48))) = n + (2 * ((s[i].toNat : Int) - 48)) := i64_in _ (by omega)
            simp only [seval, go_sem, h, e1, e2, getD_str s i hi, w1, w2, w4, h9, w3]
            repeat' (first
             | ((with_reducible_and_instances first | refine go_br (fun hc => ?_) (fun hc => ?_) | refine go_grd (fun hc => ?_) (fun hc => ?_) | refine go_dgrd (fun hc => ?_) (fun hc => ?_)) <;> (try simp only [decide_eq_true_eq, decide_eq_false_iff_not, Bool.not_eq_true', Bool.not_eq_false'] at hc) <;> simp only [seval, go_sem, hc, h, e1, e2, getD_str s i hi, w1, w2, w4, h9, w3]))
            exact ⟨(i, n + (2 * ((s[i].toNat : Int) - 48)), false), rfl, ⟨by (try dsimp only); omega, by (try dsimp only); omega, by (try dsimp only); omega, by rw [hs1]; simp only [Bool.not_true]; omega⟩, by (try dsimp only); omega⟩
      · simp only [seval, go_sem, h]
        have : k = 0 := by omega
        subst this
        simp only [List.take_zero, List.reverse_nil, luhnS, Int.add_zero] at hs1
        rw [hs1, Int.tmod_eq_emod_of_nonneg hn0, i64_in _ (by omega), Int.tmod_eq_emod_of_nonneg (by omega)]
theorem sLuhn_ret (s : Str) (hs : s.length < 4294967296) : Ret PG f_spec_Luhn [aS s] (oI (luhn s)) [] := by
  refine exact_of (p_spec_Luhn rfl rfl ?_)
  simp only [seval, go_sem, i_spec_Luhn]
  repeat' (first
   | ((with_reducible_and_instances first | refine go_br (fun hc => ?_) (fun hc => ?_) | refine go_grd (fun hc => ?_) (fun hc => ?_) | refine go_dgrd (fun hc => ?_) (fun hc => ?_)) <;> (try simp only [decide_eq_true_eq, decide_eq_false_iff_not, Bool.not_eq_true', Bool.not_eq_false'] at hc) <;> simp only [seval, go_sem, hc])
   | ((with_reducible_and_instances first | refine go_use (sDigits_ret s hs) ?_); simp only [seval, go_sem]))
  · simp [luhn, hc]
  · skip
    have hd : ∀ b ∈ s, digit b := (tf_iff.1 hc).2
    have hl : luhn s = (10 - luhnS true s.reverse % 10) % 10 := by simp [luhn, hc]
    rw [hl]
    refine go_lp (β := Nat × Int × Bool) (fun b => [(3, .p (.int .i64 b.2.1)), (4, .p (.bool b.2.2)), (5, .p (.int .i64 (b.1 - 1)))]) (fun _ => [])
      (fun b => b.1 ≤ s.length ∧ 0 ≤ b.2.1 ∧ b.2.1 ≤ 9 ∧ luhnS true s.reverse % 10 = (b.2.1 + luhnS b.2.2 (s.take b.1).reverse) % 10) (fun b => b.1) (s.length, 0, true) ?_ ?_ ?_
    · rw [i64_in _ (by omega)]; rfl
    · simp
    · rintro ⟨k, n, d⟩ ⟨hk, hn0, hn1, hs1⟩
      simp only at hk hn0 hn1 hs1 ⊢
      by_cases h : (0 : Int) ≤ (k : Int) - 1
      · obtain ⟨i, rfl⟩ : ∃ i, k = i + 1 := ⟨k - 1, by omega⟩
        have hi : i < s.length := by omega
        have e1 : (((i + 1 : Nat) : Int) - 1).toNat = i := by omega
        have e2 : (((i + 1 : Nat) : Int) - 1) < s.length := by omega
        have hb := hd _ (at_mem hi)
        unfold digit at hb
        have w1 : IntKind.i64.wrap (IntKind.i64.wrap (s[i].toNat : Int) - 48) = (s[i].toNat : Int) - 48 := by rw [i64_in (s[i].toNat : Int) (by omega), i64_in _ (by omega)]
        have w2 : IntKind.i64.wrap (((i + 1 : Nat) : Int) - 1 - 1) = (i : Int) - 1 := by rw [i64_in _ (by omega)]; omega
        rw [take_rev s i hi, luhnS] at hs1
        have h3 := luhnD_in d ((s[i].toNat : Int) - 48) (by omega)
        cases d
        · have hD : luhnD false ((s[i].toNat : Int) - 48) = (s[i].toNat : Int) - 48 := rfl
          rw [hD] at h3 hs1
          have w3 : (IntKind.i64.wrap (n + ((s[i].toNat : Int) - 48))).tmod 10 = (n + ((s[i].toNat : Int) - 48)) % 10 := by rw [i64_in _ (by omega), Int.tmod_eq_emod_of_nonneg (by omega)]
          simp only [seval, go_sem, h, e1, e2, getD_str s i hi, w1, w2, w3]
          repeat' (first
           | ((with_reducible_and_instances first | refine go_br (fun hc => ?_) (fun hc => ?_) | refine go_grd (fun hc => ?_) (fun hc => ?_) | refine go_dgrd (fun hc => ?_) (fun hc => ?_)) <;> (try simp only [decide_eq_true_eq, decide_eq_false_iff_not, Bool.not_eq_true', Bool.not_eq_false'] at hc) <;> simp only [seval, go_sem, hc, h, e1, e2, getD_str s i hi, w1, w2, w3]))
          exact ⟨(i, (n + ((s[i].toNat : Int) - 48)) % 10, true), rfl, ⟨by (try dsimp only); omega, by (try dsimp only); omega, by (try dsimp only); omega, by rw [hs1]; simp only [Bool.not_false]; omega⟩, by (try dsimp only); omega⟩
        · have hD : luhnD true ((s[i].toNat : Int) - 48) = if 9 < 2 * ((s[i].toNat : Int) - 48) then 2 * ((s[i].toNat : Int) - 48) - 9 else 2 * ((s[i].toNat : Int) - 48) := rfl
          have w4 : IntKind.i64.wrap (2 * ((s[i].toNat : Int) - 48)) = 2 * ((s[i].toNat : Int) - 48) := by rw [i64_in _ (by omega)]
          have w5 : IntKind.i64.wrap (2 * ((s[i].toNat : Int) - 48) - 9) = 2 * ((s[i].toNat : Int) - 48) - 9 := i64_in _ (by omega)
          by_cases h9 : 9 < 2 * ((s[i].toNat : Int) - 48)
          · rw [hD, if_pos h9] at h3 hs1
            have w3 : (IntKind.i64.wrap (n + (2 * ((s[i].toNat : Int) - 48) - 9))).tmod 10 = (n + (2 * ((s[i].toNat : Int) - 48) - 9)) % 10 := by rw [i64_in _ (by omega), Int.tmod_eq_emod_of_nonneg (by omega)]
            simp only [seval, go_sem, h, e1, e2, getD_str s i hi, w1, w2, w4, h9, w5, w3]
            repeat' (first
             | ((with_reducible_and_instances first | refine go_br (fun hc => ?_) (fun hc => ?_) | refine go_grd (fun hc => ?_) (fun hc => ?_) | refine go_dgrd (fun hc => ?_) (fun hc => ?_)) <;> (try simp only [decide_eq_true_eq, decide_eq_false_iff_not, Bool.not_eq_true', Bool.not_eq_false'] at hc) <;> simp only [seval, go_sem, hc, h, e1, e2, getD_str s i hi, w1, w2, w4, h9, w5, w3]))
            exact ⟨(i, (n + (2 * ((s[i].toNat : Int) - 48) - 9)) % 10, false), rfl, ⟨by (try dsimp only); omega, by (try dsimp only); omega, by (try dsimp only); omega, by rw [hs1]; simp only [Bool.not_true]; omega⟩, by (try dsimp only); omega⟩
          · rw [hD, if_neg h9] at h3 hs1
            have w3 : (IntKind.i64.wrap (n + (2 * ((s[i].toNat : Int) - 48)))).tmod 10 = (n + (2 * ((s[i].toNat : Int) - 48))) % 10 := by rw [i64_in _ (by omega), Int.tmod_eq_emod_of_nonneg (by omega)]
            simp only [seval, go_sem, h, e1, e2, getD_str s i hi, w1, w2, w4, h9, w3]
            repeat' (first
             | ((with_reducible_and_instances first | refine go_br (fun hc => ?_) (fun hc => ?_) | refine go_grd (fun hc => ?_) (fun hc => ?_) | refine go_dgrd (fun hc => ?_) (fun hc => ?_)) <;> (try simp only [decide_eq_true_eq, decide_eq_false_iff_not, Bool.not_eq_true', Bool.not_eq_false'] at hc) <;> simp only [seval, go_sem, hc, h, e1, e2, getD_str s i hi, w1, w2, w4, h9, w3]))
            exact ⟨(i, (n + (2 * ((s[i].toNat : Int) - 48))) % 10, false), rfl, ⟨by (try dsimp only); omega, by (try dsimp only); omega, by (try dsimp only); omega, by rw [hs1]; simp only [Bool.not_true]; omega⟩, by (try dsimp only); omega⟩
      · simp only [seval, go_sem, h]
        have : k = 0 := by omega
        subst this
        simp only [List.take_zero, List.reverse_nil, luhnS, Int.add_zero] at hs1
        rw [hs1, i64_in _ (by omega), Int.tmod_eq_emod_of_nonneg (by omega), Int.emod_eq_of_lt hn0 (by omega)]
end Go.AW
namespace Go.AW
open IntWalk

structure Hold where
  id : Str
  amount : Int
  due : Int
structure Slot where
  trace : Str
  mti : Str
  reply : List UInt8
structure Ring where
  span : Int
  head : Int
  counts : List Int
  sums : List Int
structure Acct where
  id : Str
  limit : Int
  posted : Int
  most : Int
  mostSum : Int
  holds : List Hold
  ring : Ring
  slots : List Slot
abbrev Book := List Acct

def Hold.p (h : Hold) : P := .agg [.str h.id, .int .i64 h.amount, .int .i64 h.due]
def Slot.p (s : Slot) : P := .agg [.str s.trace, .str s.mti, .sl 1 (s.reply.map eb)]
def Ring.p (r : Ring) : P := .agg [.int .i64 r.span, .int .i64 r.head, .sl 1 (r.counts.map ei), .sl 1 (r.sums.map ei)]
def Acct.p (a : Acct) : P := .agg [.str a.id, .int .i64 a.limit, .int .i64 a.posted, .int .i64 a.most, .int .i64 a.mostSum, .sl 3 (a.holds.map Hold.p),
  .int .i64 a.ring.span, .int .i64 a.ring.head, .sl 1 (a.ring.counts.map ei), .sl 1 (a.ring.sums.map ei), .sl 3 (a.slots.map Slot.p)]
def bookP (b : Book) : P := .agg [.sl 11 (b.map Acct.p)]
abbrev aHolds (l : List Hold) : A := .v (.sl 3 (l.map Hold.p))
abbrev aSlots (l : List Slot) : A := .v (.sl 3 (l.map Slot.p))

noncomputable def idx {α : Type} (p : α → Prop) (l : List α) : Int := if tf (∃ x ∈ l, p x) = true then ((l.takeWhile fun x => tf (¬ p x)).length : Int) else -1
theorem idx_none {α : Type} {p : α → Prop} {l : List α} (h : ∀ x ∈ l, ¬ p x) : idx p l = -1 := by
  unfold idx
  rw [tf_false (fun ⟨x, hx, hp⟩ => h x hx hp)]; rfl
theorem takeWhile_len {α : Type} {q : α → Bool} : ∀ {l : List α} {i : Nat} (h : i < l.length), (∀ x ∈ l.take i, q x = true) → q l[i] = false → (l.takeWhile q).length = i
  | x :: l, 0, h, _, h2 => by simp at h2; simp [List.takeWhile, h2]
  | x :: l, i + 1, h, h1, h2 => by
    have hx : q x = true := h1 x (by simp)
    simp only [List.takeWhile, hx, List.length_cons]
    congr 1
    exact takeWhile_len (by simpa using h) (fun y hy => h1 y (by simp [hy])) (by simpa using h2)
theorem idx_at {α : Type} {p : α → Prop} {l : List α} {i : Nat} (h : i < l.length) (h1 : ∀ x ∈ l.take i, ¬ p x) (h2 : p l[i]) : idx p l = i := by
  unfold idx
  rw [tf_true ⟨l[i], at_mem h, h2⟩, if_pos rfl, takeWhile_len h (fun x hx => tf_true (h1 x hx)) (tf_false (not_not_intro h2))]
theorem idx_cases {α : Type} (p : α → Prop) (l : List α) : (idx p l = -1 ∧ ∀ x ∈ l, ¬ p x) ∨ ∃ i : Nat, ∃ h : i < l.length, idx p l = i ∧ p l[i] ∧ ∀ x ∈ l.take i, ¬ p x := by
  induction l with
  | nil => exact .inl ⟨idx_none (by simp), by simp⟩
  | cons x l ih =>
    by_cases hx : p x
    · exact .inr ⟨0, by simp, idx_at (by simp) (by simp) (by simpa using hx), by simpa using hx, by simp⟩
    · rcases ih with ⟨_, h⟩ | ⟨i, hi, _, hp, hall⟩
      · have : ∀ y ∈ x :: l, ¬ p y := fun y hy => (List.mem_cons.1 hy).elim (fun e => e ▸ hx) (h y)
        exact .inl ⟨idx_none this, this⟩
      · have h1 : ∀ y ∈ (x :: l).take (i + 1), ¬ p y := fun y hy => (List.mem_cons.1 hy).elim (fun e => e ▸ hx) (hall y)
        have h2 : p ((x :: l)[i + 1]'(by simpa using hi)) := by simpa using hp
        exact .inr ⟨i + 1, by simpa using hi, idx_at (by simpa using hi) h1 h2, h2, h1⟩

theorem iHoldIdOk_pre (s : Str) : True := trivial
def idByte (b : UInt8) : Prop := digit b ∨ (97 ≤ b.toNat ∧ b.toNat ≤ 122)
def holdIdOk (s : Str) : Prop := (∀ b ∈ s, idByte b) ∧ inr s.length 1 6
theorem iHoldIdOk_ret (s : Str) (hs : s.length < 4294967296) : Ret PG f_impl_HoldIdOk [aS s] (oB (tf (holdIdOk s))) [] := by
  refine exact_of (p_impl_HoldIdOk rfl rfl ?_)
  simp only [seval, go_sem, i_impl_HoldIdOk]
  refine go_lp (β := Nat) (fun i => [(6, .p (.int .i64 i))]) (fun _ => []) (fun i => i ≤ s.length ∧ ∀ b ∈ s.take i, idByte b) (fun i => s.length - i) 0 ?_ ?_ ?_
  · rfl
  · simp
  · rintro i ⟨hi, hd⟩
    by_cases h : (i : Int) < s.length
    · have h' : i < s.length := by omega
      simp only [seval, go_sem, h, getD_str s i h', wrap_succ i (by omega)]
      repeat' (first
       | ((with_reducible_and_instances first | refine go_br (fun hc => ?_) (fun hc => ?_) | refine go_grd (fun hc => ?_) (fun hc => ?_) | refine go_dgrd (fun hc => ?_) (fun hc => ?_)) <;> (try simp only [decide_eq_true_eq, decide_eq_false_iff_not, Bool.not_eq_true', Bool.not_eq_false'] at hc) <;> simp only [seval, go_sem, hc, h, getD_str s i h', wrap_succ i (by omega)]))
      all_goals first
        | exact oB_f (fun (g : holdIdOk s) => by have := g.1 _ (at_mem h'); unfold idByte digit at this; omega)
        | exact ⟨i + 1, rfl, ⟨h', take_all h' hd (by unfold idByte digit; omega)⟩, by (try dsimp only); omega⟩
    · simp only [seval, go_sem, h]
      with_reducible_and_instances refine go_use (iwithin_ret _ _ _) ?_
      simp only [seval, go_sem]
      exact oB_tf ⟨fun h1 => ⟨all_of_take h hd, h1⟩, fun h1 => h1.2⟩
theorem sHoldIdOk_ret (s : Str) (hs : s.length < 4294967296) : Ret PG f_spec_HoldIdOk [aS s] (oB (tf (holdIdOk s))) [] := by
  refine exact_of (p_spec_HoldIdOk rfl rfl ?_)
  simp only [seval, go_sem, i_spec_HoldIdOk]
  refine go_lp (β := Nat) (fun i => [(3, .p (.int .i64 i))]) (fun _ => []) (fun i => i ≤ s.length ∧ ∀ b ∈ s.take i, idByte b) (fun i => s.length - i) 0 ?_ ?_ ?_
  · rfl
  · simp
  · rintro i ⟨hi, hd⟩
    by_cases h : (i : Int) < s.length
    · have h' : i < s.length := by omega
      simp only [seval, go_sem, h, getD_str s i h', wrap_succ i (by omega)]
      repeat' (first
       | ((with_reducible_and_instances first | refine go_br (fun hc => ?_) (fun hc => ?_) | refine go_grd (fun hc => ?_) (fun hc => ?_) | refine go_dgrd (fun hc => ?_) (fun hc => ?_)) <;> (try simp only [decide_eq_true_eq, decide_eq_false_iff_not, Bool.not_eq_true', Bool.not_eq_false'] at hc) <;> simp only [seval, go_sem, hc, h, getD_str s i h', wrap_succ i (by omega)]))
      all_goals first
        | exact oB_f (fun (g : holdIdOk s) => by have := g.1 _ (at_mem h'); unfold idByte digit at this; omega)
        | exact ⟨i + 1, rfl, ⟨h', take_all h' hd (by unfold idByte digit; omega)⟩, by (try dsimp only); omega⟩
    · simp only [seval, go_sem, h]
      with_reducible_and_instances refine go_use (sIn_ret _ _ _) ?_
      simp only [seval, go_sem]
      exact oB_tf ⟨fun h1 => ⟨all_of_take h hd, h1⟩, fun h1 => h1.2⟩

def holdOk (h : Hold) : Prop := holdIdOk h.id ∧ inr h.amount 1 9007199254740992 ∧ time h.due
theorem iHoldOk_ret (h : Hold) (hs : h.id.length < 4294967296) : Ret PG f_impl_HoldOk [.v h.p] (oB (tf (holdOk h))) [] := by
  refine exact_of (p_impl_HoldOk rfl rfl ?_)
  simp only [seval, go_sem, i_impl_HoldOk, Hold.p]
  repeat' (first
   | ((with_reducible_and_instances first | refine go_br (fun hc => ?_) (fun hc => ?_) | refine go_grd (fun hc => ?_) (fun hc => ?_) | refine go_dgrd (fun hc => ?_) (fun hc => ?_)) <;> (try simp only [decide_eq_true_eq, decide_eq_false_iff_not, Bool.not_eq_true', Bool.not_eq_false'] at hc) <;> simp only [seval, go_sem, hc])
   | ((with_reducible_and_instances first | refine go_use (iHoldIdOk_ret _ hs) ?_ | refine go_use (iwithin_ret _ _ _) ?_ | refine go_use (iTime_ret _) ?_); simp only [seval, go_sem]))
  all_goals ((try simp only [tf_iff, tf_not] at *); first | (refine oB_f ?_; simp_all [holdOk]; done) | (refine oB_tf ?_; simp_all [holdOk]; done) | (refine oB_d ?_; simp_all [holdOk]; done) | (refine oB_t ?_; simp_all [holdOk]; done) | (refine oB_f ?_; simp only [holdOk]; grind) | (refine oB_tf ?_; simp only [holdOk]; grind) | (refine oB_d ?_; simp only [holdOk]; grind) | (refine oB_t ?_; simp only [holdOk]; grind))
theorem sHoldOk_ret (h : Hold) (hs : h.id.length < 4294967296) : Ret PG f_spec_HoldOk [.v h.p] (oB (tf (holdOk h))) [] := by
  refine exact_of (p_spec_HoldOk rfl rfl ?_)
  simp only [seval, go_sem, i_spec_HoldOk, Hold.p]
  repeat' (first
   | ((with_reducible_and_instances first | refine go_br (fun hc => ?_) (fun hc => ?_) | refine go_grd (fun hc => ?_) (fun hc => ?_) | refine go_dgrd (fun hc => ?_) (fun hc => ?_)) <;> (try simp only [decide_eq_true_eq, decide_eq_false_iff_not, Bool.not_eq_true', Bool.not_eq_false'] at hc) <;> simp only [seval, go_sem, hc])
   | ((with_reducible_and_instances first | refine go_use (sHoldIdOk_ret _ hs) ?_ | refine go_use (sIn_ret _ _ _) ?_ | refine go_use (sTime_ret _) ?_); simp only [seval, go_sem]))
  all_goals ((try simp only [tf_iff, tf_not] at *); first | (refine oB_f ?_; simp_all [holdOk]; done) | (refine oB_tf ?_; simp_all [holdOk]; done) | (refine oB_d ?_; simp_all [holdOk]; done) | (refine oB_t ?_; simp_all [holdOk]; done) | (refine oB_f ?_; simp only [holdOk]; grind) | (refine oB_tf ?_; simp only [holdOk]; grind) | (refine oB_d ?_; simp only [holdOk]; grind) | (refine oB_t ?_; simp only [holdOk]; grind))

def wide (s : Str) (n : Int) : Prop := digits s ∧ (s.length : Int) = n
theorem iisWide_ret (s : Str) (n : Int) (hs : s.length < 4294967296) : Ret PG f_impl_isWide [aS s, aI n] (oB (tf (wide s n))) [] := by
  refine exact_of (p_impl_isWide rfl rfl ?_)
  simp only [seval, go_sem, i_impl_isWide]
  repeat' (first
   | ((with_reducible_and_instances first | refine go_br (fun hc => ?_) (fun hc => ?_) | refine go_grd (fun hc => ?_) (fun hc => ?_) | refine go_dgrd (fun hc => ?_) (fun hc => ?_)) <;> (try simp only [decide_eq_true_eq, decide_eq_false_iff_not, Bool.not_eq_true', Bool.not_eq_false'] at hc) <;> simp only [seval, go_sem, hc])
   | ((with_reducible_and_instances first | refine go_use (iDigits_ret _ hs) ?_); simp only [seval, go_sem]))
  all_goals ((try simp only [tf_iff, tf_not] at *); first | (refine oB_f ?_; simp_all [wide]; done) | (refine oB_tf ?_; simp_all [wide]; done) | (refine oB_d ?_; simp_all [wide]; done) | (refine oB_t ?_; simp_all [wide]; done) | (refine oB_f ?_; simp only [wide]; grind) | (refine oB_tf ?_; simp only [wide]; grind) | (refine oB_d ?_; simp only [wide]; grind) | (refine oB_t ?_; simp only [wide]; grind))
def slotOk (s : Slot) : Prop := wide s.trace 6 ∧ wide s.mti 4 ∧ inr s.reply.length 1 200
theorem iSlotOk_ret (s : Slot) (h1 : s.trace.length < 4294967296) (h2 : s.mti.length < 4294967296) (h3 : s.reply.length < 4294967296) : Ret PG f_impl_SlotOk [.v s.p] (oB (tf (slotOk s))) [] := by
  refine exact_of (p_impl_SlotOk rfl rfl ?_)
  simp only [seval, go_sem, i_impl_SlotOk, Slot.p]
  repeat' (first
   | ((with_reducible_and_instances first | refine go_br (fun hc => ?_) (fun hc => ?_) | refine go_grd (fun hc => ?_) (fun hc => ?_) | refine go_dgrd (fun hc => ?_) (fun hc => ?_)) <;> (try simp only [decide_eq_true_eq, decide_eq_false_iff_not, Bool.not_eq_true', Bool.not_eq_false'] at hc) <;> simp only [seval, go_sem, hc])
   | ((with_reducible_and_instances first | refine go_use (iisWide_ret _ _ h1) ?_ | refine go_use (iisWide_ret _ _ h2) ?_ | refine go_use (iwithin_ret _ _ _) ?_); simp only [seval, go_sem]))
  all_goals ((try simp only [tf_iff, tf_not] at *); first | (refine oB_f ?_; simp_all [slotOk]; done) | (refine oB_tf ?_; simp_all [slotOk]; done) | (refine oB_d ?_; simp_all [slotOk]; done) | (refine oB_t ?_; simp_all [slotOk]; done) | (refine oB_f ?_; simp only [slotOk]; grind) | (refine oB_tf ?_; simp only [slotOk]; grind) | (refine oB_d ?_; simp only [slotOk]; grind) | (refine oB_t ?_; simp only [slotOk]; grind))
theorem sSlotOk_ret (s : Slot) (h1 : s.trace.length < 4294967296) (h2 : s.mti.length < 4294967296) (h3 : s.reply.length < 4294967296) : Ret PG f_spec_SlotOk [.v s.p] (oB (tf (slotOk s))) [] := by
  refine exact_of (p_spec_SlotOk rfl rfl ?_)
  simp only [seval, go_sem, i_spec_SlotOk, Slot.p]
  repeat' (first
   | ((with_reducible_and_instances first | refine go_br (fun hc => ?_) (fun hc => ?_) | refine go_grd (fun hc => ?_) (fun hc => ?_) | refine go_dgrd (fun hc => ?_) (fun hc => ?_)) <;> (try simp only [decide_eq_true_eq, decide_eq_false_iff_not, Bool.not_eq_true', Bool.not_eq_false'] at hc) <;> simp only [seval, go_sem, hc])
   | ((with_reducible_and_instances first | refine go_use (sDigits_ret _ h1) ?_ | refine go_use (sDigits_ret _ h2) ?_ | refine go_use (sIn_ret _ _ _) ?_); simp only [seval, go_sem]))
  all_goals ((try simp only [tf_iff, tf_not] at *); first | (refine oB_f ?_; simp_all [slotOk, wide]; done) | (refine oB_tf ?_; simp_all [slotOk, wide]; done) | (refine oB_d ?_; simp_all [slotOk, wide]; done) | (refine oB_t ?_; simp_all [slotOk, wide]; done) | (refine oB_f ?_; simp only [slotOk, wide]; grind) | (refine oB_tf ?_; simp only [slotOk, wide]; grind) | (refine oB_d ?_; simp only [slotOk, wide]; grind) | (refine oB_t ?_; simp only [slotOk, wide]; grind))

def stored (l : List Hold) : Int := l.foldl (fun n h => addSat n h.amount) 0
theorem foldl_take {α β : Type} (f : β → α → β) (b : β) (l : List α) (i : Nat) (h : i < l.length) : (l.take (i + 1)).foldl f b = f ((l.take i).foldl f b) l[i] := by
  rw [take_at l i h, List.foldl_append]; rfl
theorem iStored_ret (l : List Hold) (hl : l.length < 4294967296) : Ret PG f_impl_Stored [aHolds l] (oI (stored l)) [] := by
  refine exact_of (p_impl_Stored rfl rfl ?_)
  simp only [seval, go_sem, i_impl_Stored]
  refine go_lp (β := Nat) (fun i => [(3, .p (.int .i64 ((l.take i).foldl (fun n h => addSat n h.amount) 0))), (8, .p (.int .i64 i))]) (fun _ => []) (fun i => i ≤ l.length) (fun i => l.length - i) 0 ?_ ?_ ?_
  · rfl
  · simp
  · intro i hi
    by_cases h : (i : Int) < l.length
    · have h' : i < l.length := by omega
      simp only [seval, go_sem, h, getD_map Hold.p l i h', Hold.p, wrap_succ i (by omega)]
      repeat' (first
       | ((with_reducible_and_instances first | refine go_br (fun hc => ?_) (fun hc => ?_) | refine go_grd (fun hc => ?_) (fun hc => ?_) | refine go_dgrd (fun hc => ?_) (fun hc => ?_)) <;> (try simp only [decide_eq_true_eq, decide_eq_false_iff_not, Bool.not_eq_true', Bool.not_eq_false'] at hc) <;> simp only [seval, go_sem, hc, h, getD_map Hold.p l i h', Hold.p, wrap_succ i (by omega)])
       | ((with_reducible_and_instances first | refine go_use (iAddSat_ret _ _) ?_); simp only [seval, go_sem, h, getD_map Hold.p l i h', Hold.p, wrap_succ i (by omega)]))
      exact ⟨i + 1, by rw [foldl_take _ _ _ _ h']; rfl, h', by (try dsimp only); omega⟩
    · simp only [seval, go_sem, h]
      rw [stored, List.take_of_length_le (by omega)]
theorem sStored_ret (l : List Hold) (hl : l.length < 4294967296) : Ret PG f_spec_Stored [aHolds l] (oI (stored l)) [] := by
  refine exact_of (p_spec_Stored rfl rfl ?_)
  simp only [seval, go_sem, i_spec_Stored]
  refine go_lp (β := Nat) (fun i => [(3, .p (.int .i64 ((l.take i).foldl (fun n h => addSat n h.amount) 0))), (8, .p (.int .i64 i))]) (fun _ => []) (fun i => i ≤ l.length) (fun i => l.length - i) 0 ?_ ?_ ?_
  · rfl
  · simp
  · intro i hi
    by_cases h : (i : Int) < l.length
    · have h' : i < l.length := by omega
      simp only [seval, go_sem, h, getD_map Hold.p l i h', Hold.p, wrap_succ i (by omega)]
      repeat' (first
       | ((with_reducible_and_instances first | refine go_br (fun hc => ?_) (fun hc => ?_) | refine go_grd (fun hc => ?_) (fun hc => ?_) | refine go_dgrd (fun hc => ?_) (fun hc => ?_)) <;> (try simp only [decide_eq_true_eq, decide_eq_false_iff_not, Bool.not_eq_true', Bool.not_eq_false'] at hc) <;> simp only [seval, go_sem, hc, h, getD_map Hold.p l i h', Hold.p, wrap_succ i (by omega)])
       | ((with_reducible_and_instances first | refine go_use (sAddSat_ret _ _) ?_); simp only [seval, go_sem, h, getD_map Hold.p l i h', Hold.p, wrap_succ i (by omega)]))
      exact ⟨i + 1, by rw [foldl_take _ _ _ _ h']; rfl, h', by (try dsimp only); omega⟩
    · simp only [seval, go_sem, h]
      rw [stored, List.take_of_length_le (by omega)]
def total (l : List Int) : Int := l.foldl addSat 0
theorem itotal_ret (l : List Int) (hl : l.length < 4294967296) : Ret PG f_impl_total [aIs l] (oI (total l)) [] := by
  refine exact_of (p_impl_total rfl rfl ?_)
  simp only [seval, go_sem, i_impl_total]
  refine go_lp (β := Nat) (fun i => [(3, .p (.int .i64 ((l.take i).foldl addSat 0))), (8, .p (.int .i64 i))]) (fun _ => []) (fun i => i ≤ l.length) (fun i => l.length - i) 0 ?_ ?_ ?_
  · rfl
  · simp
  · intro i hi
    by_cases h : (i : Int) < l.length
    · have h' : i < l.length := by omega
      simp only [seval, go_sem, h, getD_map ei l i h', ei, wrap_succ i (by omega)]
      repeat' (first
       | ((with_reducible_and_instances first | refine go_br (fun hc => ?_) (fun hc => ?_) | refine go_grd (fun hc => ?_) (fun hc => ?_) | refine go_dgrd (fun hc => ?_) (fun hc => ?_)) <;> (try simp only [decide_eq_true_eq, decide_eq_false_iff_not, Bool.not_eq_true', Bool.not_eq_false'] at hc) <;> simp only [seval, go_sem, hc, h, getD_map ei l i h', ei, wrap_succ i (by omega)])
       | ((with_reducible_and_instances first | refine go_use (iAddSat_ret _ _) ?_); simp only [seval, go_sem, h, getD_map ei l i h', ei, wrap_succ i (by omega)]))
      exact ⟨i + 1, by rw [foldl_take _ _ _ _ h']; rfl, h', by (try dsimp only); omega⟩
    · simp only [seval, go_sem, h]
      rw [total, List.take_of_length_le (by omega)]

theorem islotAt1_ret (s : Slot) (tr mti : Str) : Ret PG f_impl_slotAt_1 [.v s.p, .v (.ptr [.str tr]), .v (.ptr [.str mti])] (oB (tf (s.trace = tr ∧ s.mti = mti))) [] := by
  refine exact_of (p_impl_slotAt_1 rfl rfl ?_)
  simp only [seval, go_sem, i_impl_slotAt_1, Slot.p]
  repeat' (first
   | ((with_reducible_and_instances first | refine go_br (fun hc => ?_) (fun hc => ?_) | refine go_grd (fun hc => ?_) (fun hc => ?_) | refine go_dgrd (fun hc => ?_) (fun hc => ?_)) <;> (try simp only [decide_eq_true_eq, decide_eq_false_iff_not, Bool.not_eq_true', Bool.not_eq_false'] at hc) <;> simp only [seval, go_sem, hc]))
  all_goals ((try simp only [tf_iff, tf_not] at *); first | (refine oB_f ?_; simp_all []; done) | (refine oB_tf ?_; simp_all []; done) | (refine oB_d ?_; simp_all []; done) | (refine oB_t ?_; simp_all []; done) | (refine oB_f ?_; simp only []; grind) | (refine oB_tf ?_; simp only []; grind) | (refine oB_d ?_; simp only []; grind) | (refine oB_t ?_; simp only []; grind))
theorem idxSlot_ret (l : List Slot) (tr mti : Str) (hl : l.length < 4294967296) : Ret PG f_slices_IndexFunc_impl_Slot_impl_Slot [aSlots l, .v (.clo f_impl_slotAt_1 [.ptr [.str tr], .ptr [.str mti]])] (oI (idx (fun s => s.trace = tr ∧ s.mti = mti) l)) [] := by
  refine exact_of (p_slices_IndexFunc_impl_Slot_impl_Slot rfl rfl ?_)
  simp only [seval, go_sem, i_slices_IndexFunc_impl_Slot_impl_Slot]
  refine go_lp (β := Nat) (fun i => [(8, .p (.int .i64 i))]) (fun _ => []) (fun i => i ≤ l.length ∧ ∀ x ∈ l.take i, ¬ (x.trace = tr ∧ x.mti = mti)) (fun i => l.length - i) 0 ?_ ?_ ?_
  · rfl
  · simp
  · rintro i ⟨hi, hd⟩
    by_cases h : (i : Int) < l.length
    · have h' : i < l.length := by omega
      have hx := islotAt1_ret l[i] tr mti
      unfold Slot.p at hx
      simp only [seval, go_sem, h, getD_map Slot.p l i h', Slot.p, wrap_succ i (by omega)]
      repeat' (first
       | ((with_reducible_and_instances first | refine go_br (fun hc => ?_) (fun hc => ?_) | refine go_grd (fun hc => ?_) (fun hc => ?_) | refine go_dgrd (fun hc => ?_) (fun hc => ?_)) <;> (try simp only [decide_eq_true_eq, decide_eq_false_iff_not, Bool.not_eq_true', Bool.not_eq_false'] at hc) <;> simp only [seval, go_sem, hc, h, getD_map Slot.p l i h', Slot.p, wrap_succ i (by omega)])
       | ((with_reducible_and_instances first | refine go_use (hx) ?_); simp only [seval, go_sem, h, getD_map Slot.p l i h', Slot.p, wrap_succ i (by omega)]))
      · rw [idx_at h' hd (tf_iff.1 hc)]
      · exact ⟨i + 1, rfl, ⟨h', take_all h' hd (tf_not.1 hc)⟩, by (try dsimp only); omega⟩
    · simp only [seval, go_sem, h]
      rw [idx_none (all_of_take h hd)]
theorem islotAt_ret (l : List Slot) (tr mti : Str) (hl : l.length < 4294967296) : Ret PG f_impl_slotAt [aSlots l, aS tr, aS mti] (oI (idx (fun s => s.trace = tr ∧ s.mti = mti) l)) [] := by
  refine exact_of (p_impl_slotAt rfl rfl ?_)
  simp only [seval, go_sem, i_impl_slotAt]
  with_reducible_and_instances refine go_use (idxSlot_ret l tr mti hl) ?_
  simp only [seval, go_sem]
def luhnOk (s : Str) : Prop := 2 ≤ s.length ∧ digits s ∧ luhn s.dropLast = ((s.getLastD 0).toNat : Int) - 48
theorem last_at (s : Str) (h : 0 < s.length) : s.getD (s.length - 1) 0 = s.getLastD 0 := by
  rw [List.getLastD_eq_getLast?, List.getLast?_eq_getElem?, List.getD]
theorem drop_last (s : Str) : s.take (s.length - 1) = s.dropLast := List.dropLast_eq_take.symm
theorem luhn_last (s : Str) (h : digits s) : digit (s.getLastD 0) := by
  have : 0 < s.length := List.length_pos_iff.2 h.1
  rw [← last_at s this, getD_str _ _ (by omega)]
  exact h.2 _ (at_mem _)
theorem iLuhnOk_ret (s : Str) (hs : s.length < 4294967296) : Ret PG f_impl_LuhnOk [aS s] (oB (tf (luhnOk s))) [] := by
  have w : IntKind.i64.wrap ((s.length : Int) - 1) = (s.length : Int) - 1 := i64_in _ (by omega)
  have e1 : ((s.length : Int) - 1).toNat = s.length - 1 := by omega
  have hx := iLuhn_ret s.dropLast (by simp; omega)
  by_cases h2 : (1 : Int) ≤ (s.length : Int) - 1
  · have hl := last_at s (by omega)
    have e2 : (0 : Int) ≤ (s.length : Int) - 1 := by omega
    have e3 : ((s.length : Int) - 1) ≤ (s.length : Int) := by omega
    have e4 : ((s.length : Int) - 1) < (s.length : Int) := by omega
    refine exact_of (p_impl_LuhnOk rfl rfl ?_)
    simp only [seval, go_sem, i_impl_LuhnOk, w, h2]
    repeat' (first
     | ((with_reducible_and_instances first | refine go_br (fun hc => ?_) (fun hc => ?_) | refine go_grd (fun hc => ?_) (fun hc => ?_) | refine go_dgrd (fun hc => ?_) (fun hc => ?_)) <;> (try simp only [decide_eq_true_eq, decide_eq_false_iff_not, Bool.not_eq_true', Bool.not_eq_false'] at hc) <;> simp only [seval, go_sem, hc, w, e1, e2, e3, e4, hl, drop_last])
     | ((with_reducible_and_instances first | refine go_use (iDigits_ret s hs) ?_ | refine go_use (hx) ?_); simp only [seval, go_sem, w, e1, e2, e3, e4, hl, drop_last]))
    · have hd := luhn_last s (tf_iff.1 hc)
      unfold digit at hd
      rw [u8_in _ (by omega), i64_in _ (by omega)]
      have h3 := tf_iff.1 hc
      exact oB_d ⟨fun g => ⟨by omega, h3, g⟩, fun g => g.2.2⟩
    · rw [tf_not] at hc
      exact oB_f (fun g => hc g.2.1)
  · refine exact_of (p_impl_LuhnOk rfl rfl ?_)
    simp only [seval, go_sem, i_impl_LuhnOk, w, h2]
    exact oB_f (fun g => by have := g.1; omega)
theorem sLuhnOk_ret (s : Str) (hs : s.length < 4294967296) : Ret PG f_spec_LuhnOk [aS s] (oB (tf (luhnOk s))) [] := by
  have w : IntKind.i64.wrap ((s.length : Int) - 1) = (s.length : Int) - 1 := i64_in _ (by omega)
  have e1 : ((s.length : Int) - 1).toNat = s.length - 1 := by omega
  have hx := sLuhn_ret s.dropLast (by simp; omega)
  by_cases h2 : (s.length : Int) < 2
  · refine exact_of (p_spec_LuhnOk rfl rfl ?_)
    simp only [seval, go_sem, i_spec_LuhnOk]
    repeat' (first
     | ((with_reducible_and_instances first | refine go_br (fun hc => ?_) (fun hc => ?_) | refine go_grd (fun hc => ?_) (fun hc => ?_) | refine go_dgrd (fun hc => ?_) (fun hc => ?_)) <;> (try simp only [decide_eq_true_eq, decide_eq_false_iff_not, Bool.not_eq_true', Bool.not_eq_false'] at hc) <;> simp only [seval, go_sem, hc, h2])
     | ((with_reducible_and_instances first | refine go_use (sDigits_ret s hs) ?_); simp only [seval, go_sem, h2]))
    all_goals exact oB_f (fun (g : luhnOk s) => by have := g.1; omega)
  · have hl := last_at s (by omega)
    have e2 : (0 : Int) ≤ (s.length : Int) - 1 := by omega
    have e3 : ((s.length : Int) - 1) ≤ (s.length : Int) := by omega
    have e4 : ((s.length : Int) - 1) < (s.length : Int) := by omega
    refine exact_of (p_spec_LuhnOk rfl rfl ?_)
    simp only [seval, go_sem, i_spec_LuhnOk]
    repeat' (first
     | ((with_reducible_and_instances first | refine go_br (fun hc => ?_) (fun hc => ?_) | refine go_grd (fun hc => ?_) (fun hc => ?_) | refine go_dgrd (fun hc => ?_) (fun hc => ?_)) <;> (try simp only [decide_eq_true_eq, decide_eq_false_iff_not, Bool.not_eq_true', Bool.not_eq_false'] at hc) <;> simp only [seval, go_sem, hc, w, h2, e1, e2, e3, e4, hl, drop_last])
     | ((with_reducible_and_instances first | refine go_use (sDigits_ret s hs) ?_ | refine go_use (hx) ?_); simp only [seval, go_sem, w, h2, e1, e2, e3, e4, hl, drop_last]))
    · have hd := luhn_last s (tf_iff.1 hc)
      unfold digit at hd
      rw [i64_in ((s.getLastD 0).toNat : Int) (by omega), i64_in _ (by omega)]
      have h3 := tf_iff.1 hc
      exact oB_d ⟨fun g => ⟨by omega, h3, g⟩, fun g => g.2.2⟩
    · rw [tf_not] at hc
      exact oB_f (fun g => hc g.2.1)
def acctIdOk (s : Str) : Prop := (s.length : Int) ≤ 19 ∧ luhnOk s
theorem iAcctIdOk_ret (s : Str) (hs : s.length < 4294967296) : Ret PG f_impl_AcctIdOk [aS s] (oB (tf (acctIdOk s))) [] := by
  refine exact_of (p_impl_AcctIdOk rfl rfl ?_)
  simp only [seval, go_sem, i_impl_AcctIdOk]
  repeat' (first
   | ((with_reducible_and_instances first | refine go_br (fun hc => ?_) (fun hc => ?_) | refine go_grd (fun hc => ?_) (fun hc => ?_) | refine go_dgrd (fun hc => ?_) (fun hc => ?_)) <;> (try simp only [decide_eq_true_eq, decide_eq_false_iff_not, Bool.not_eq_true', Bool.not_eq_false'] at hc) <;> simp only [seval, go_sem, hc])
   | ((with_reducible_and_instances first | refine go_use (iLuhnOk_ret s hs) ?_); simp only [seval, go_sem]))
  all_goals ((try simp only [tf_iff, tf_not] at *); first | (refine oB_f ?_; simp_all [acctIdOk]; done) | (refine oB_tf ?_; simp_all [acctIdOk]; done) | (refine oB_d ?_; simp_all [acctIdOk]; done) | (refine oB_t ?_; simp_all [acctIdOk]; done) | (refine oB_f ?_; simp only [acctIdOk]; grind) | (refine oB_tf ?_; simp only [acctIdOk]; grind) | (refine oB_d ?_; simp only [acctIdOk]; grind) | (refine oB_t ?_; simp only [acctIdOk]; grind))
theorem sAcctIdOk_ret (s : Str) (hs : s.length < 4294967296) : Ret PG f_spec_AcctIdOk [aS s] (oB (tf (acctIdOk s))) [] := by
  refine exact_of (p_spec_AcctIdOk rfl rfl ?_)
  simp only [seval, go_sem, i_spec_AcctIdOk]
  repeat' (first
   | ((with_reducible_and_instances first | refine go_br (fun hc => ?_) (fun hc => ?_) | refine go_grd (fun hc => ?_) (fun hc => ?_) | refine go_dgrd (fun hc => ?_) (fun hc => ?_)) <;> (try simp only [decide_eq_true_eq, decide_eq_false_iff_not, Bool.not_eq_true', Bool.not_eq_false'] at hc) <;> simp only [seval, go_sem, hc])
   | ((with_reducible_and_instances first | refine go_use (sLuhnOk_ret s hs) ?_); simp only [seval, go_sem]))
  all_goals ((try simp only [tf_iff, tf_not] at *); first | (refine oB_f ?_; simp_all [acctIdOk]; done) | (refine oB_tf ?_; simp_all [acctIdOk]; done) | (refine oB_d ?_; simp_all [acctIdOk]; done) | (refine oB_t ?_; simp_all [acctIdOk]; done) | (refine oB_f ?_; simp only [acctIdOk]; grind) | (refine oB_tf ?_; simp only [acctIdOk]; grind) | (refine oB_d ?_; simp only [acctIdOk]; grind) | (refine oB_t ?_; simp only [acctIdOk]; grind))
end Go.AW
namespace Go.AW
open IntWalk
theorem take_eq {α : Type} {l m : List α} {i : Nat} (h1 : i < l.length) (h2 : i < m.length) (e : l.take i = m.take i) (he : l[i] = m[i]) : l.take (i + 1) = m.take (i + 1) := by
  rw [take_at l i h1, take_at m i h2, e, he]
theorem u8_int {a b : UInt8} (h : ((a.toNat : Nat) : Int) = b.toNat) : a = b := UInt8.toNat_inj.1 (by omega)
theorem hold_ext {a b : Hold} (h1 : a.id = b.id) (h2 : a.amount = b.amount) (h3 : a.due = b.due) : a = b := by cases a; cases b; simp_all
theorem slot_eq {a b : Slot} : a = b ↔ a.trace = b.trace ∧ a.mti = b.mti ∧ a.reply = b.reply := by cases a; cases b; simp
theorem ring_eq {a b : Ring} : a = b ↔ a.span = b.span ∧ a.head = b.head ∧ a.counts = b.counts ∧ a.sums = b.sums := by cases a; cases b; simp
theorem acct_eq {a b : Acct} : a = b ↔ a.id = b.id ∧ a.limit = b.limit ∧ a.posted = b.posted ∧ a.most = b.most ∧ a.mostSum = b.mostSum ∧ a.holds = b.holds ∧ a.ring = b.ring ∧ a.slots = b.slots := by cases a; cases b; simp
theorem eqBytes_ret (l m : List UInt8) (hl : l.length < 4294967296) : Ret PG f_slices_Equal_byte_byte [.v (.sl 1 (l.map eb)), .v (.sl 1 (m.map eb))] (oB (tf (l = m))) [] := by
  by_cases hlen : (l.length : Int) = m.length
  · refine exact_of (p_slices_Equal_byte_byte rfl rfl ?_)
    simp only [seval, go_sem, i_slices_Equal_byte_byte, hlen]
    refine go_lp (β := Nat) (fun i => [(13, .p (.int .i64 i))]) (fun _ => []) (fun i => i ≤ l.length ∧ l.take i = m.take i) (fun i => l.length - i) 0 ?_ ?_ ?_
    · rfl
    · simp
    · rintro i ⟨hi, hd⟩
      by_cases h : (i : Int) < m.length
      · have h1 : i < l.length := by omega
        have h2 : i < m.length := by omega
        simp only [seval, go_sem, h, hlen, getD_map eb l i h1, getD_map eb m i h2, wrap_succ i (by omega), eb]
        repeat' (first
         | ((with_reducible_and_instances first | refine go_br (fun hc => ?_) (fun hc => ?_) | refine go_grd (fun hc => ?_) (fun hc => ?_) | refine go_dgrd (fun hc => ?_) (fun hc => ?_)) <;> (try simp only [decide_eq_true_eq, decide_eq_false_iff_not, Bool.not_eq_true', Bool.not_eq_false'] at hc) <;> simp only [seval, go_sem, hc, h, hlen, getD_map eb l i h1, getD_map eb m i h2, wrap_succ i (by omega), eb]))
        all_goals first
          | exact ⟨i + 1, rfl, ⟨h1, take_eq h1 h2 hd (by exact u8_int (by simp_all))⟩, by (try dsimp only); omega⟩
          | exact oB_f (fun (e : l = m) => by subst e; simp_all)
      · simp only [seval, go_sem, h]
        exact oB_t (by rw [List.take_of_length_le (by omega), List.take_of_length_le (by omega)] at hd; exact hd)
  · refine exact_of (p_slices_Equal_byte_byte rfl rfl ?_)
    simp only [seval, go_sem, i_slices_Equal_byte_byte, hlen]
    exact oB_f (fun e => hlen (by rw [e]))
theorem eqInts_ret (l m : List Int) (hl : l.length < 4294967296) : Ret PG f_slices_Equal_int_int [.v (.sl 1 (l.map ei)), .v (.sl 1 (m.map ei))] (oB (tf (l = m))) [] := by
  by_cases hlen : (l.length : Int) = m.length
  · refine exact_of (p_slices_Equal_int_int rfl rfl ?_)
    simp only [seval, go_sem, i_slices_Equal_int_int, hlen]
    refine go_lp (β := Nat) (fun i => [(13, .p (.int .i64 i))]) (fun _ => []) (fun i => i ≤ l.length ∧ l.take i = m.take i) (fun i => l.length - i) 0 ?_ ?_ ?_
    · rfl
    · simp
    · rintro i ⟨hi, hd⟩
      by_cases h : (i : Int) < m.length
      · have h1 : i < l.length := by omega
        have h2 : i < m.length := by omega
        simp only [seval, go_sem, h, hlen, getD_map ei l i h1, getD_map ei m i h2, wrap_succ i (by omega), ei]
        repeat' (first
         | ((with_reducible_and_instances first | refine go_br (fun hc => ?_) (fun hc => ?_) | refine go_grd (fun hc => ?_) (fun hc => ?_) | refine go_dgrd (fun hc => ?_) (fun hc => ?_)) <;> (try simp only [decide_eq_true_eq, decide_eq_false_iff_not, Bool.not_eq_true', Bool.not_eq_false'] at hc) <;> simp only [seval, go_sem, hc, h, hlen, getD_map ei l i h1, getD_map ei m i h2, wrap_succ i (by omega), ei]))
        all_goals first
          | exact ⟨i + 1, rfl, ⟨h1, take_eq h1 h2 hd (by simp_all)⟩, by (try dsimp only); omega⟩
          | exact oB_f (fun (e : l = m) => by subst e; simp_all)
      · simp only [seval, go_sem, h]
        exact oB_t (by rw [List.take_of_length_le (by omega), List.take_of_length_le (by omega)] at hd; exact hd)
  · refine exact_of (p_slices_Equal_int_int rfl rfl ?_)
    simp only [seval, go_sem, i_slices_Equal_int_int, hlen]
    exact oB_f (fun e => hlen (by rw [e]))
theorem eqHolds_ret (l m : List Hold) (hl : l.length < 4294967296) : Ret PG f_slices_Equal_impl_Hold_impl_Hold [.v (.sl 3 (l.map Hold.p)), .v (.sl 3 (m.map Hold.p))] (oB (tf (l = m))) [] := by
  by_cases hlen : (l.length : Int) = m.length
  · refine exact_of (p_slices_Equal_impl_Hold_impl_Hold rfl rfl ?_)
    simp only [seval, go_sem, i_slices_Equal_impl_Hold_impl_Hold, hlen]
    refine go_lp (β := Nat) (fun i => [(13, .p (.int .i64 i))]) (fun _ => []) (fun i => i ≤ l.length ∧ l.take i = m.take i) (fun i => l.length - i) 0 ?_ ?_ ?_
    · rfl
    · simp
    · rintro i ⟨hi, hd⟩
      by_cases h : (i : Int) < m.length
      · have h1 : i < l.length := by omega
        have h2 : i < m.length := by omega
        simp only [seval, go_sem, h, hlen, getD_map Hold.p l i h1, getD_map Hold.p m i h2, wrap_succ i (by omega), Hold.p]
        repeat' (first
         | ((with_reducible_and_instances first | refine go_br (fun hc => ?_) (fun hc => ?_) | refine go_grd (fun hc => ?_) (fun hc => ?_) | refine go_dgrd (fun hc => ?_) (fun hc => ?_)) <;> (try simp only [decide_eq_true_eq, decide_eq_false_iff_not, Bool.not_eq_true', Bool.not_eq_false'] at hc) <;> simp only [seval, go_sem, hc, h, hlen, getD_map Hold.p l i h1, getD_map Hold.p m i h2, wrap_succ i (by omega), Hold.p]))
        all_goals first
          | exact ⟨i + 1, rfl, ⟨h1, take_eq h1 h2 hd (by have g := hc; simp only [Bool.and_eq_true, decide_eq_true_eq] at g; exact hold_ext g.1 g.2.1 g.2.2)⟩, by (try dsimp only); omega⟩
          | exact oB_f (fun (e : l = m) => by subst e; simp_all)
      · simp only [seval, go_sem, h]
        exact oB_t (by rw [List.take_of_length_le (by omega), List.take_of_length_le (by omega)] at hd; exact hd)
  · refine exact_of (p_slices_Equal_impl_Hold_impl_Hold rfl rfl ?_)
    simp only [seval, go_sem, i_slices_Equal_impl_Hold_impl_Hold, hlen]
    exact oB_f (fun e => hlen (by rw [e]))
theorem iSlotsSame1_ret (a b : Slot) (h : a.reply.length < 4294967296) : Ret PG f_impl_SlotsSame_1 [.v a.p, .v b.p] (oB (tf (a = b))) [] := by
  refine exact_of (p_impl_SlotsSame_1 rfl rfl ?_)
  simp only [seval, go_sem, i_impl_SlotsSame_1, Slot.p]
  repeat' (first
   | ((with_reducible_and_instances first | refine go_br (fun hc => ?_) (fun hc => ?_) | refine go_grd (fun hc => ?_) (fun hc => ?_) | refine go_dgrd (fun hc => ?_) (fun hc => ?_)) <;> (try simp only [decide_eq_true_eq, decide_eq_false_iff_not, Bool.not_eq_true', Bool.not_eq_false'] at hc) <;> simp only [seval, go_sem, hc])
   | ((with_reducible_and_instances first | refine go_use (eqBytes_ret _ _ h) ?_); simp only [seval, go_sem]))
  all_goals ((try simp only [tf_iff, tf_not] at *); first | (refine oB_f ?_; simp_all [slot_eq]; done) | (refine oB_tf ?_; simp_all [slot_eq]; done) | (refine oB_d ?_; simp_all [slot_eq]; done) | (refine oB_t ?_; simp_all [slot_eq]; done) | (refine oB_f ?_; simp only [slot_eq]; grind) | (refine oB_tf ?_; simp only [slot_eq]; grind) | (refine oB_d ?_; simp only [slot_eq]; grind) | (refine oB_t ?_; simp only [slot_eq]; grind))
theorem eqSlots_ret (l m : List Slot) (hl : l.length < 4294967296) (hx : ∀ x ∈ l, ∀ y ∈ m, Ret PG f_impl_SlotsSame_1 [.v x.p, .v y.p] (oB (tf (x = y))) []) : Ret PG f_slices_EqualFunc_impl_Slot_impl_Slot_impl_Slot_impl_Slot [.v (.sl 3 (l.map Slot.p)), .v (.sl 3 (m.map Slot.p)), .v (.clo f_impl_SlotsSame_1 [])] (oB (tf (l = m))) [] := by
  by_cases hlen : (l.length : Int) = m.length
  · refine exact_of (p_slices_EqualFunc_impl_Slot_impl_Slot_impl_Slot_impl_Slot rfl rfl ?_)
    simp only [seval, go_sem, i_slices_EqualFunc_impl_Slot_impl_Slot_impl_Slot_impl_Slot, hlen]
    refine go_lp (β := Nat) (fun i => [(17, .p (.int .i64 i))]) (fun _ => []) (fun i => i ≤ l.length ∧ l.take i = m.take i) (fun i => l.length - i) 0 ?_ ?_ ?_
    · rfl
    · simp
    · rintro i ⟨hi, hd⟩
      by_cases h : (i : Int) < m.length
      · have h1 : i < l.length := by omega
        have h2 : i < m.length := by omega
        have hr := hx _ (at_mem h1) _ (at_mem h2)
        unfold Slot.p at hr
        simp only [seval, go_sem, h, hlen, getD_map Slot.p l i h1, getD_map Slot.p m i h2, wrap_succ i (by omega), Slot.p]
        repeat' (first
         | ((with_reducible_and_instances first | refine go_br (fun hc => ?_) (fun hc => ?_) | refine go_grd (fun hc => ?_) (fun hc => ?_) | refine go_dgrd (fun hc => ?_) (fun hc => ?_)) <;> (try simp only [decide_eq_true_eq, decide_eq_false_iff_not, Bool.not_eq_true', Bool.not_eq_false'] at hc) <;> simp only [seval, go_sem, hc, h, hlen, getD_map Slot.p l i h1, getD_map Slot.p m i h2, wrap_succ i (by omega), Slot.p])
         | ((with_reducible_and_instances first | refine go_use (hr) ?_); simp only [seval, go_sem, h, hlen, getD_map Slot.p l i h1, getD_map Slot.p m i h2, wrap_succ i (by omega), Slot.p]))
        all_goals first
          | exact ⟨i + 1, rfl, ⟨h1, take_eq h1 h2 hd (tf_iff.1 hc)⟩, by (try dsimp only); omega⟩
          | exact oB_f (fun (e : l = m) => by subst e; exact tf_not.1 hc rfl)
      · simp only [seval, go_sem, h]
        exact oB_t (by rw [List.take_of_length_le (by omega), List.take_of_length_le (by omega)] at hd; exact hd)
  · refine exact_of (p_slices_EqualFunc_impl_Slot_impl_Slot_impl_Slot_impl_Slot rfl rfl ?_)
    simp only [seval, go_sem, i_slices_EqualFunc_impl_Slot_impl_Slot_impl_Slot_impl_Slot, hlen]
    exact oB_f (fun e => hlen (by rw [e]))
theorem iSlotsSame_ret (a b : List Slot) (h0 : a.length < 4294967296) (h : ∀ s ∈ a, s.reply.length < 4294967296) : Ret PG f_impl_SlotsSame [aSlots a, aSlots b] (oB (tf (a = b))) [] := by
  refine exact_of (p_impl_SlotsSame rfl rfl ?_)
  simp only [seval, go_sem, i_impl_SlotsSame]
  with_reducible_and_instances refine go_use (eqSlots_ret a b h0 fun x hx y hy => iSlotsSame1_ret x y (h x hx)) ?_
  simp only [seval, go_sem]
theorem iringSame_ret (a b : Ring) (h1 : a.counts.length < 4294967296) (h2 : a.sums.length < 4294967296) : Ret PG f_impl_ringSame [.v a.p, .v b.p] (oB (tf (a = b))) [] := by
  refine exact_of (p_impl_ringSame rfl rfl ?_)
  simp only [seval, go_sem, i_impl_ringSame, Ring.p]
  repeat' (first
   | ((with_reducible_and_instances first | refine go_br (fun hc => ?_) (fun hc => ?_) | refine go_grd (fun hc => ?_) (fun hc => ?_) | refine go_dgrd (fun hc => ?_) (fun hc => ?_)) <;> (try simp only [decide_eq_true_eq, decide_eq_false_iff_not, Bool.not_eq_true', Bool.not_eq_false'] at hc) <;> simp only [seval, go_sem, hc])
   | ((with_reducible_and_instances first | refine go_use (eqInts_ret _ _ h1) ?_ | refine go_use (eqInts_ret _ _ h2) ?_); simp only [seval, go_sem]))
  all_goals ((try simp only [tf_iff, tf_not] at *); first | (refine oB_f ?_; simp_all [ring_eq]; done) | (refine oB_tf ?_; simp_all [ring_eq]; done) | (refine oB_d ?_; simp_all [ring_eq]; done) | (refine oB_t ?_; simp_all [ring_eq]; done) | (refine oB_f ?_; simp only [ring_eq]; grind) | (refine oB_tf ?_; simp only [ring_eq]; grind) | (refine oB_d ?_; simp only [ring_eq]; grind) | (refine oB_t ?_; simp only [ring_eq]; grind))
/-- sizes that every account keeps -/
structure Acct.Fit (a : Acct) : Prop where
  id : a.id.length < 4294967296
  holds : a.holds.length < 4294967296
  hid : ∀ h ∈ a.holds, h.id.length < 4294967296
  counts : a.ring.counts.length < 2147483648
  sums : a.ring.sums.length < 2147483648
  slots : a.slots.length < 4294967296
  trace : ∀ s ∈ a.slots, s.trace.length < 4294967296
  mti : ∀ s ∈ a.slots, s.mti.length < 4294967296
  reply : ∀ s ∈ a.slots, s.reply.length < 4294967296
theorem iAcctSame_ret (a b : Acct) (h : a.Fit) : Ret PG f_impl_AcctSame [.v a.p, .v b.p] (oB (tf (a = b))) [] := by
  have hr := iringSame_ret a.ring b.ring (Nat.lt_trans h.counts (by decide)) (Nat.lt_trans h.sums (by decide))
  unfold Ring.p at hr
  refine exact_of (p_impl_AcctSame rfl rfl ?_)
  simp only [seval, go_sem, i_impl_AcctSame, Acct.p]
  repeat' (first
   | ((with_reducible_and_instances first | refine go_br (fun hc => ?_) (fun hc => ?_) | refine go_grd (fun hc => ?_) (fun hc => ?_) | refine go_dgrd (fun hc => ?_) (fun hc => ?_)) <;> (try simp only [decide_eq_true_eq, decide_eq_false_iff_not, Bool.not_eq_true', Bool.not_eq_false'] at hc) <;> simp only [seval, go_sem, hc])
   | ((with_reducible_and_instances first | refine go_use (eqHolds_ret _ _ h.holds) ?_ | refine go_use (hr) ?_ | refine go_use (iSlotsSame_ret _ _ h.slots h.reply) ?_); simp only [seval, go_sem]))
  all_goals ((try simp only [tf_iff, tf_not] at *); first | (refine oB_f ?_; simp_all [acct_eq]; done) | (refine oB_tf ?_; simp_all [acct_eq]; done) | (refine oB_d ?_; simp_all [acct_eq]; done) | (refine oB_t ?_; simp_all [acct_eq]; done) | (refine oB_f ?_; simp only [acct_eq]; grind) | (refine oB_tf ?_; simp only [acct_eq]; grind) | (refine oB_d ?_; simp only [acct_eq]; grind) | (refine oB_t ?_; simp only [acct_eq]; grind))
theorem eqAccts_ret (l m : List Acct) (hl : l.length < 4294967296) (hx : ∀ x ∈ l, ∀ y ∈ m, Ret PG f_impl_AcctSame [.v x.p, .v y.p] (oB (tf (x = y))) []) : Ret PG f_slices_EqualFunc_impl_Acct_impl_Acct_impl_Acct_impl_Acct [.v (.sl 11 (l.map Acct.p)), .v (.sl 11 (m.map Acct.p)), .v (.clo f_impl_AcctSame [])] (oB (tf (l = m))) [] := by
  by_cases hlen : (l.length : Int) = m.length
  · refine exact_of (p_slices_EqualFunc_impl_Acct_impl_Acct_impl_Acct_impl_Acct rfl rfl ?_)
    simp only [seval, go_sem, i_slices_EqualFunc_impl_Acct_impl_Acct_impl_Acct_impl_Acct, hlen]
    refine go_lp (β := Nat) (fun i => [(17, .p (.int .i64 i))]) (fun _ => []) (fun i => i ≤ l.length ∧ l.take i = m.take i) (fun i => l.length - i) 0 ?_ ?_ ?_
    · rfl
    · simp
    · rintro i ⟨hi, hd⟩
      by_cases h : (i : Int) < m.length
      · have h1 : i < l.length := by omega
        have h2 : i < m.length := by omega
        have hr := hx _ (at_mem h1) _ (at_mem h2)
        unfold Acct.p at hr
        simp only [seval, go_sem, h, hlen, getD_map Acct.p l i h1, getD_map Acct.p m i h2, wrap_succ i (by omega), Acct.p]
        repeat' (first
         | ((with_reducible_and_instances first | refine go_br (fun hc => ?_) (fun hc => ?_) | refine go_grd (fun hc => ?_) (fun hc => ?_) | refine go_dgrd (fun hc => ?_) (fun hc => ?_)) <;> (try simp only [decide_eq_true_eq, decide_eq_false_iff_not, Bool.not_eq_true', Bool.not_eq_false'] at hc) <;> simp only [seval, go_sem, hc, h, hlen, getD_map Acct.p l i h1, getD_map Acct.p m i h2, wrap_succ i (by omega), Acct.p])
         | ((with_reducible_and_instances first | refine go_use (hr) ?_); simp only [seval, go_sem, h, hlen, getD_map Acct.p l i h1, getD_map Acct.p m i h2, wrap_succ i (by omega), Acct.p]))
        all_goals first
          | exact ⟨i + 1, rfl, ⟨h1, take_eq h1 h2 hd (tf_iff.1 hc)⟩, by (try dsimp only); omega⟩
          | exact oB_f (fun (e : l = m) => by subst e; exact tf_not.1 hc rfl)
      · simp only [seval, go_sem, h]
        exact oB_t (by rw [List.take_of_length_le (by omega), List.take_of_length_le (by omega)] at hd; exact hd)
  · refine exact_of (p_slices_EqualFunc_impl_Acct_impl_Acct_impl_Acct_impl_Acct rfl rfl ?_)
    simp only [seval, go_sem, i_slices_EqualFunc_impl_Acct_impl_Acct_impl_Acct_impl_Acct, hlen]
    exact oB_f (fun e => hlen (by rw [e]))
structure BFit (b : Book) : Prop where
  len : b.length < 4294967296
  all : ∀ a ∈ b, Acct.Fit a
theorem iBookSame_ret (a b : Book) (h : BFit a) : Ret PG f_impl_BookSame [.v (bookP a), .v (bookP b)] (oB (tf (a = b))) [] := by
  refine exact_of (p_impl_BookSame rfl rfl ?_)
  simp only [seval, go_sem, i_impl_BookSame, bookP]
  with_reducible_and_instances refine go_use (eqAccts_ret a b h.len fun x hx y hy => iAcctSame_ret x y (h.all x hx)) ?_
  simp only [seval, go_sem]
end Go.AW
namespace Go.AW
open IntWalk
theorem Ret.wkO {f : FuncId} {args : List A} {x : O} {outs : List (List O)} (h : Ret PG f args (.o x) outs) : Ret PG f args (.o x.wk) outs := h.wk rfl
theorem Ret.wkA {f : FuncId} {args : List A} {x : List O} {outs : List (List O)} (h : Ret PG f args (.agg x) outs) : Ret PG f args (.agg (x.map O.wk)) outs := h.wk rfl
theorem bne_false' (b : Bool) : (false != b) = b := by cases b <;> rfl
theorem ret_empty {f : FuncId} {n : Nat} {res : R} {outs : List (List O)} (h : ∀ a c, Ret PG f [.v (.lit (.slice a 0 c))] res outs) : Ret PG f [.v (.sl n [])] res outs := by
  refine ⟨(h none 0).1, fun w M vals D ha hn hD hM => ?_⟩
  simp only [ARels, ARel] at ha
  obtain ⟨v, rest, b1, b2, rfl, rfl, ⟨rfl, hv⟩, rfl, rfl⟩ := ha
  simp only [PRel] at hv
  obtain ⟨a, cap, vs, rfl, _⟩ := hv
  refine ((h a cap).2 w M [.slice a 0 cap] [] ?_ (by simp) (by simp) hM).mono ?_
  · simp only [ARels, ARel, PRel]; exact ⟨_, [], [], [], rfl, rfl, ⟨rfl, rfl⟩, rfl, rfl⟩
  · rintro e w' ⟨v, D1, D2, rfl, hk, ho, h5⟩
    simp only [OutRel] at ho
    exact ⟨v, D1, D2, rfl, hk, by simp only [OutRel]; exact ho, h5⟩
theorem cloneOwn_byte (x : UInt8) (r : List UInt8) (hl : r.length < 4294967296) : Ret PG f_slices_Clone_byte_byte [.v (.sl 1 ((x :: r).map eb))] (.o (.own 1 ((x :: r).map eb))) [] := by
  refine exact_of (p_slices_Clone_byte_byte rfl rfl ?_)
  simp only [seval, go_sem, i_slices_Clone_byte_byte]
  omega
theorem cloneNil_byte (c : Nat) : Ret PG f_slices_Clone_byte_byte [.v (.lit (.slice none 0 c))] (.o (.p (.z 1))) [] := by
  refine exact_of (p_slices_Clone_byte_byte rfl rfl ?_)
  simp only [seval, go_sem, i_slices_Clone_byte_byte, Option.isNone, bne_false']
theorem cloneSome_byte (ad : Addr) (c : Nat) : Ret PG f_slices_Clone_byte_byte [.v (.lit (.slice (some ad) 0 c))] (.o (.own 1 [])) [] := by
  refine exact_of (p_slices_Clone_byte_byte rfl rfl ?_)
  simp only [seval, go_sem, i_slices_Clone_byte_byte, Option.isNone, bne_false']
theorem clone_byte (l : List UInt8) (hl : l.length < 4294967296) : Ret PG f_slices_Clone_byte_byte [.v (.sl 1 (l.map eb))] (.o (.p (.sl 1 (l.map eb)))) [] := by
  cases l with
  | nil =>
    refine ret_empty fun a c => ?_
    cases a with
    | none => exact (cloneNil_byte c).wk rfl
    | some ad => exact (cloneSome_byte ad c).wk rfl
  | cons x r => exact (cloneOwn_byte x r (by simp at hl; omega)).wk rfl
theorem cloneOwn_int (x : Int) (r : List Int) (hl : r.length < 4294967296) : Ret PG f_slices_Clone_int_int [.v (.sl 1 ((x :: r).map ei))] (.o (.own 1 ((x :: r).map ei))) [] := by
  refine exact_of (p_slices_Clone_int_int rfl rfl ?_)
  simp only [seval, go_sem, i_slices_Clone_int_int]
  omega
theorem cloneNil_int (c : Nat) : Ret PG f_slices_Clone_int_int [.v (.lit (.slice none 0 c))] (.o (.p (.z 1))) [] := by
  refine exact_of (p_slices_Clone_int_int rfl rfl ?_)
  simp only [seval, go_sem, i_slices_Clone_int_int, Option.isNone, bne_false']
theorem cloneSome_int (ad : Addr) (c : Nat) : Ret PG f_slices_Clone_int_int [.v (.lit (.slice (some ad) 0 c))] (.o (.own 1 [])) [] := by
  refine exact_of (p_slices_Clone_int_int rfl rfl ?_)
  simp only [seval, go_sem, i_slices_Clone_int_int, Option.isNone, bne_false']
theorem clone_int (l : List Int) (hl : l.length < 4294967296) : Ret PG f_slices_Clone_int_int [.v (.sl 1 (l.map ei))] (.o (.p (.sl 1 (l.map ei)))) [] := by
  cases l with
  | nil =>
    refine ret_empty fun a c => ?_
    cases a with
    | none => exact (cloneNil_int c).wk rfl
    | some ad => exact (cloneSome_int ad c).wk rfl
  | cons x r => exact (cloneOwn_int x r (by simp at hl; omega)).wk rfl
theorem cloneOwn_Hold (x : Hold) (r : List Hold) (hl : r.length < 4294967296) : Ret PG f_slices_Clone_impl_Hold_impl_Hold [.v (.sl 3 ((x :: r).map Hold.p))] (.o (.own 3 ((x :: r).map Hold.p))) [] := by
  refine exact_of (p_slices_Clone_impl_Hold_impl_Hold rfl rfl ?_)
  simp only [seval, go_sem, i_slices_Clone_impl_Hold_impl_Hold]
  omega
theorem cloneNil_Hold (c : Nat) : Ret PG f_slices_Clone_impl_Hold_impl_Hold [.v (.lit (.slice none 0 c))] (.o (.p (.z 3))) [] := by
  refine exact_of (p_slices_Clone_impl_Hold_impl_Hold rfl rfl ?_)
  simp only [seval, go_sem, i_slices_Clone_impl_Hold_impl_Hold, Option.isNone, bne_false']
theorem cloneSome_Hold (ad : Addr) (c : Nat) : Ret PG f_slices_Clone_impl_Hold_impl_Hold [.v (.lit (.slice (some ad) 0 c))] (.o (.own 3 [])) [] := by
  refine exact_of (p_slices_Clone_impl_Hold_impl_Hold rfl rfl ?_)
  simp only [seval, go_sem, i_slices_Clone_impl_Hold_impl_Hold, Option.isNone, bne_false']
theorem clone_Hold (l : List Hold) (hl : l.length < 4294967296) : Ret PG f_slices_Clone_impl_Hold_impl_Hold [.v (.sl 3 (l.map Hold.p))] (.o (.p (.sl 3 (l.map Hold.p)))) [] := by
  cases l with
  | nil =>
    refine ret_empty fun a c => ?_
    cases a with
    | none => exact (cloneNil_Hold c).wk rfl
    | some ad => exact (cloneSome_Hold ad c).wk rfl
  | cons x r => exact (cloneOwn_Hold x r (by simp at hl; omega)).wk rfl
theorem cloneOwn_Slot (x : Slot) (r : List Slot) (hl : r.length < 4294967296) : Ret PG f_slices_Clone_impl_Slot_impl_Slot [.v (.sl 3 ((x :: r).map Slot.p))] (.o (.own 3 ((x :: r).map Slot.p))) [] := by
  refine exact_of (p_slices_Clone_impl_Slot_impl_Slot rfl rfl ?_)
  simp only [seval, go_sem, i_slices_Clone_impl_Slot_impl_Slot]
  omega
theorem cloneNil_Slot (c : Nat) : Ret PG f_slices_Clone_impl_Slot_impl_Slot [.v (.lit (.slice none 0 c))] (.o (.p (.z 3))) [] := by
  refine exact_of (p_slices_Clone_impl_Slot_impl_Slot rfl rfl ?_)
  simp only [seval, go_sem, i_slices_Clone_impl_Slot_impl_Slot, Option.isNone, bne_false']
theorem cloneSome_Slot (ad : Addr) (c : Nat) : Ret PG f_slices_Clone_impl_Slot_impl_Slot [.v (.lit (.slice (some ad) 0 c))] (.o (.own 3 [])) [] := by
  refine exact_of (p_slices_Clone_impl_Slot_impl_Slot rfl rfl ?_)
  simp only [seval, go_sem, i_slices_Clone_impl_Slot_impl_Slot, Option.isNone, bne_false']
theorem clone_Slot (l : List Slot) (hl : l.length < 4294967296) : Ret PG f_slices_Clone_impl_Slot_impl_Slot [.v (.sl 3 (l.map Slot.p))] (.o (.p (.sl 3 (l.map Slot.p)))) [] := by
  cases l with
  | nil =>
    refine ret_empty fun a c => ?_
    cases a with
    | none => exact (cloneNil_Slot c).wk rfl
    | some ad => exact (cloneSome_Slot ad c).wk rfl
  | cons x r => exact (cloneOwn_Slot x r (by simp at hl; omega)).wk rfl

def Ring.c (r : Ring) : List P := [.int .i64 r.span, .int .i64 r.head, .sl 1 (r.counts.map ei), .sl 1 (r.sums.map ei)]
def Acct.c (a : Acct) : List P := [.str a.id, .int .i64 a.limit, .int .i64 a.posted, .int .i64 a.most, .int .i64 a.mostSum, .sl 3 (a.holds.map Hold.p),
  .int .i64 a.ring.span, .int .i64 a.ring.head, .sl 1 (a.ring.counts.map ei), .sl 1 (a.ring.sums.map ei), .sl 3 (a.slots.map Slot.p)]
abbrev rR (c : List P) : R := .agg (c.map .p)
theorem iRingCopied_ret (r : Ring) (h1 : r.counts.length < 4294967296) (h2 : r.sums.length < 4294967296) : Ret PG f_impl_Ring_copied [.v r.p] (rR r.c) [] := by
  refine exact_of (p_impl_Ring_copied rfl rfl ?_)
  simp only [seval, go_sem, i_impl_Ring_copied, Ring.p]
  repeat' (first
   | ((with_reducible_and_instances first | refine go_br (fun hc => ?_) (fun hc => ?_) | refine go_grd (fun hc => ?_) (fun hc => ?_) | refine go_dgrd (fun hc => ?_) (fun hc => ?_)) <;> (try simp only [decide_eq_true_eq, decide_eq_false_iff_not, Bool.not_eq_true', Bool.not_eq_false'] at hc) <;> simp only [seval, go_sem, hc])
   | ((with_reducible_and_instances first | refine go_use (clone_int _ h1) ?_ | refine go_use (clone_int _ h2) ?_); simp only [seval, go_sem]))
  rfl
def copyW (l : List Slot) (i : Nat) : List (Nat × Nat × Blk) := [(6, i, .arr 3 ((l.take i).map Slot.p) false)]
theorem icopySlots_ret (l : List Slot) (h1 : l.length < 4294967296) (h2 : ∀ s ∈ l, s.reply.length < 4294967296) : Ret PG f_impl_copySlots [aSlots l] (.o (.own 3 (l.map Slot.p))) [] := by
  refine exact_of (p_impl_copySlots rfl rfl ?_)
  simp only [seval, go_sem, i_impl_copySlots]
  refine go_lp (β := Nat) (fun i => [(3, .sl 6 i 0 i), (9, .p (.int .i64 i))]) (copyW l) (fun i => i ≤ l.length) (fun i => l.length - i) 0 ?_ ?_ ?_
  · rfl
  · simp
  · intro i hi
    have hm : (l.take i).length = i := by simp; omega
    by_cases h : (i : Int) < l.length
    · have h' : i < l.length := by omega
      simp only [seval, go_sem, h, copyW, getD_map Slot.p l i h', Slot.p, wrap_succ i (by omega), hm]
      repeat' (first
       | ((with_reducible_and_instances first | refine go_br (fun hc => ?_) (fun hc => ?_) | refine go_grd (fun hc => ?_) (fun hc => ?_) | refine go_dgrd (fun hc => ?_) (fun hc => ?_)) <;> (try simp only [decide_eq_true_eq, decide_eq_false_iff_not, Bool.not_eq_true', Bool.not_eq_false'] at hc) <;> simp only [seval, go_sem, hc, h, copyW, getD_map Slot.p l i h', Slot.p, wrap_succ i (by omega), hm])
       | ((with_reducible_and_instances first | refine go_use (clone_byte _ (h2 _ (at_mem h'))) ?_); simp only [seval, go_sem, h, copyW, getD_map Slot.p l i h', Slot.p, wrap_succ i (by omega), hm]))
      refine ⟨by omega, i + 1, ?_, h', by (try dsimp only); omega⟩
      have e : ((l.take (i + 1)).map Slot.p) = (l.take i).map Slot.p ++ [Slot.p l[i]] := by rw [take_at l i h', List.map_append]; rfl
      rw [e]; rfl
    · have e : i = l.length := by omega
      subst e
      simp only [seval, go_sem, h, copyW, List.take_length]
theorem iAcctCopied_ret (a : Acct) (h : a.Fit) : Ret PG f_impl_Acct_copied [.v a.p] (rR a.c) [] := by
  have hr := iRingCopied_ret a.ring (Nat.lt_trans h.counts (by decide)) (Nat.lt_trans h.sums (by decide))
  unfold Ring.p at hr
  refine exact_of (p_impl_Acct_copied rfl rfl ?_)
  simp only [seval, go_sem, i_impl_Acct_copied, Acct.p]
  repeat' (first
   | ((with_reducible_and_instances first | refine go_br (fun hc => ?_) (fun hc => ?_) | refine go_grd (fun hc => ?_) (fun hc => ?_) | refine go_dgrd (fun hc => ?_) (fun hc => ?_)) <;> (try simp only [decide_eq_true_eq, decide_eq_false_iff_not, Bool.not_eq_true', Bool.not_eq_false'] at hc) <;> simp only [seval, go_sem, hc, rR, Ring.c, O.wk])
   | ((with_reducible_and_instances first | refine go_use (clone_Hold _ h.holds) ?_ | refine go_use (hr) ?_ | refine go_use ((icopySlots_ret _ h.slots h.reply).wkO) ?_); simp only [seval, go_sem, rR, Ring.c, O.wk]))
  rfl
end Go.AW
namespace Go.AW
open IntWalk
theorem bytesLess_eq : ∀ (x y : Str), Op.bytesLess x y = decide (x < y)
  | [], [] => by simp [Op.bytesLess]
  | _ :: _, [] => by simp [Op.bytesLess]
  | [], _ :: _ => by simp [Op.bytesLess]
  | a :: x, b :: y => by
    rw [Op.bytesLess, bytesLess_eq x y]
    simp only [List.cons_lt_cons_iff]
    by_cases h1 : a < b <;> by_cases h2 : a = b <;> by_cases h3 : x < y <;> simp [h1, h2, h3]
theorem sLt_irrefl : ∀ (x : Str), ¬ x < x
  | [] => by simp
  | a :: x => by simp only [List.cons_lt_cons_iff, UInt8.lt_irrefl, true_and, false_or]; exact sLt_irrefl x
theorem sLt_asymm : ∀ {x y : Str}, x < y → ¬ y < x
  | [], [], h => by simp at h
  | _ :: _, [], h => by simp at h
  | [], _ :: _, h => by simp
  | a :: x, b :: y, h => by
    simp only [List.cons_lt_cons_iff] at h ⊢
    rintro (h' | ⟨e, h'⟩)
    · rcases h with h | ⟨e, h⟩
      · exact absurd h' (UInt8.lt_asymm h)
      · subst e; exact UInt8.lt_irrefl _ h'
    · subst e
      rcases h with h | ⟨_, h⟩
      · exact UInt8.lt_irrefl _ h
      · exact sLt_asymm h h'
theorem sLt_total : ∀ (x y : Str), x < y ∨ x = y ∨ y < x
  | [], [] => by simp
  | _ :: _, [] => by simp
  | [], _ :: _ => by simp
  | a :: x, b :: y => by
    simp only [List.cons_lt_cons_iff, List.cons.injEq]
    rcases Nat.lt_trichotomy a.toNat b.toNat with h | h | h
    · exact .inl (.inl (UInt8.lt_iff_toNat_lt.2 h))
    · have e : a = b := UInt8.toNat_inj.1 h
      rcases sLt_total x y with h1 | h1 | h1
      · exact .inl (.inr ⟨e, h1⟩)
      · exact .inr (.inl ⟨e, h1⟩)
      · exact .inr (.inr (.inr ⟨e.symm, h1⟩))
    · exact .inr (.inr (.inl (UInt8.lt_iff_toNat_lt.2 h)))
theorem less_or_eq (x y : Str) : (Op.bytesLess x y || decide (x = y)) = tf (¬ y < x) := by
  rw [bytesLess_eq, ← Bool.decide_or, tf_dec]
  congr 1; apply propext
  constructor
  · rintro (h | rfl)
    · exact sLt_asymm h
    · exact sLt_irrefl _
  · intro h; rcases sLt_total x y with h1 | h1 | h1
    · exact .inl h1
    · exact .inr h1
    · exact absurd h1 h
theorem less_not (x y : Str) : (!Op.bytesLess x y) = tf (¬ x < y) := by
  rw [bytesLess_eq, ← decide_not, tf_dec]
theorem less_tf (x y : Str) : Op.bytesLess x y = tf (x < y) := by rw [bytesLess_eq, tf_dec]

/-- in ascending order, by a key -/
def asc {α : Type} (key : α → Str) (l : List α) : Prop := ∀ i (h : i + 1 < l.length), key l[i] < key l[i + 1]
theorem asc_take {α : Type} {key : α → Str} {l : List α} {i : Nat} (h : i < l.length) (h1 : asc key (l.take i)) (h2 : ∀ h0 : 0 < i, key (l[i - 1]'(by omega)) < key l[i]) : asc key (l.take (i + 1)) := by
  intro j hj
  simp only [List.length_take] at hj
  rcases Nat.lt_or_ge (j + 1) i with h3 | h3
  · have := h1 j (by simp; omega)
    simpa using this
  · obtain rfl : i = j + 1 := by omega
    have := h2 (by omega)
    simpa using this

def holdsOk (l : List Hold) : Prop := (l.length : Int) ≤ 4 ∧ (∀ h ∈ l, holdOk h) ∧ asc Hold.id l
theorem iHoldsOk_ret (l : List Hold) (hl : l.length < 4294967296) (hid : ∀ h ∈ l, h.id.length < 4294967296) : Ret PG f_impl_HoldsOk [aHolds l] (oB (tf (holdsOk l))) [] := by
  refine exact_of (p_impl_HoldsOk rfl rfl ?_)
  simp only [seval, go_sem, i_impl_HoldsOk]
  refine go_lp (β := Nat) (fun i => [(7, .p (.int .i64 i))]) (fun _ => []) (fun i => i ≤ l.length ∧ (∀ x ∈ l.take i, holdOk x) ∧ asc Hold.id (l.take i)) (fun i => l.length - i) 0 ?_ ?_ ?_
  · rfl
  · simp [asc]
  · rintro i ⟨hi, hd, ha⟩
    by_cases h : (i : Int) < l.length
    · have h' : i < l.length := by omega
      have hx := iHoldOk_ret l[i] (hid _ (at_mem h'))
      unfold Hold.p at hx
      by_cases h0 : (0 : Int) < i
      · have hj : i - 1 < l.length := by omega
        have e1 : IntKind.i64.wrap ((i : Int) - 1) = ((i - 1 : Nat) : Int) := by rw [i64_in _ (by omega)]; omega
        have e2 : ((i - 1 : Nat) : Int) < l.length := by omega
        simp only [seval, go_sem, h, h0, e1, e2, getD_map Hold.p l i h', getD_map Hold.p l (i - 1) hj, Hold.p, wrap_succ i (by omega), less_or_eq]
        repeat' (first
         | ((with_reducible_and_instances first | refine go_br (fun hc => ?_) (fun hc => ?_) | refine go_grd (fun hc => ?_) (fun hc => ?_) | refine go_dgrd (fun hc => ?_) (fun hc => ?_)) <;> (try simp only [decide_eq_true_eq, decide_eq_false_iff_not, Bool.not_eq_true', Bool.not_eq_false'] at hc) <;> simp only [seval, go_sem, hc, h, h0, e1, e2, getD_map Hold.p l i h', getD_map Hold.p l (i - 1) hj, Hold.p, wrap_succ i (by omega), less_or_eq])
         | ((with_reducible_and_instances first | refine go_use (hx) ?_); simp only [seval, go_sem, h, h0, e1, e2, getD_map Hold.p l i h', getD_map Hold.p l (i - 1) hj, Hold.p, wrap_succ i (by omega), less_or_eq]))
        · exact oB_f (fun (g : holdsOk l) => (tf_iff.1 hc) (by have := g.2.2 (i - 1) (by omega); simpa [show i - 1 + 1 = i by omega] using this))
        · rename_i hh
          exact ⟨i + 1, rfl, ⟨h', take_all h' hd (tf_iff.1 hh), asc_take h' ha fun _ => Classical.not_not.1 (tf_not.1 hc)⟩, by (try dsimp only); omega⟩
        · exact oB_f (fun (g : holdsOk l) => tf_not.1 hc (g.2.1 _ (at_mem h')))
      · obtain rfl : i = 0 := by omega
        have h00 : (0 : Int) < l.length := by omega
        simp only [seval, go_sem, h, h0, h00, getD_map Hold.p l 0 h', Hold.p, wrap_succ 0 (by omega)]
        repeat' (first
         | ((with_reducible_and_instances first | refine go_br (fun hc => ?_) (fun hc => ?_) | refine go_grd (fun hc => ?_) (fun hc => ?_) | refine go_dgrd (fun hc => ?_) (fun hc => ?_)) <;> (try simp only [decide_eq_true_eq, decide_eq_false_iff_not, Bool.not_eq_true', Bool.not_eq_false'] at hc) <;> simp only [seval, go_sem, hc, h, h0, h00, getD_map Hold.p l 0 h', Hold.p, wrap_succ 0 (by omega)])
         | ((with_reducible_and_instances first | refine go_use (hx) ?_); simp only [seval, go_sem, h, h0, h00, getD_map Hold.p l 0 h', Hold.p, wrap_succ 0 (by omega)]))
        · exact ⟨1, rfl, ⟨h', take_all h' hd (tf_iff.1 hc), asc_take h' ha fun h00 => absurd h00 (by omega)⟩, by (try dsimp only); omega⟩
        · exact oB_f (fun (g : holdsOk l) => tf_not.1 hc (g.2.1 _ (at_mem h')))
    · simp only [seval, go_sem, h]
      have e : l.take i = l := List.take_of_length_le (by omega)
      rw [e] at hd ha
      exact oB_d ⟨fun g => ⟨g, hd, ha⟩, fun g => g.1⟩
theorem sHoldsOk_ret (l : List Hold) (hl : l.length < 4294967296) (hid : ∀ h ∈ l, h.id.length < 4294967296) : Ret PG f_spec_HoldsOk [aHolds l] (oB (tf (holdsOk l))) [] := by
  refine exact_of (p_spec_HoldsOk rfl rfl ?_)
  simp only [seval, go_sem, i_spec_HoldsOk]
  refine go_lp (β := Nat) (fun i => [(7, .p (.int .i64 i))]) (fun _ => []) (fun i => i ≤ l.length ∧ (∀ x ∈ l.take i, holdOk x) ∧ asc Hold.id (l.take i)) (fun i => l.length - i) 0 ?_ ?_ ?_
  · rfl
  · simp [asc]
  · rintro i ⟨hi, hd, ha⟩
    by_cases h : (i : Int) < l.length
    · have h' : i < l.length := by omega
      have hx := sHoldOk_ret l[i] (hid _ (at_mem h'))
      unfold Hold.p at hx
      by_cases h0 : (0 : Int) < i
      · have hj : i - 1 < l.length := by omega
        have e1 : IntKind.i64.wrap ((i : Int) - 1) = ((i - 1 : Nat) : Int) := by rw [i64_in _ (by omega)]; omega
        have e2 : ((i - 1 : Nat) : Int) < l.length := by omega
        simp only [seval, go_sem, h, h0, e1, e2, getD_map Hold.p l i h', getD_map Hold.p l (i - 1) hj, Hold.p, wrap_succ i (by omega), less_not]
        repeat' (first
         | ((with_reducible_and_instances first | refine go_br (fun hc => ?_) (fun hc => ?_) | refine go_grd (fun hc => ?_) (fun hc => ?_) | refine go_dgrd (fun hc => ?_) (fun hc => ?_)) <;> (try simp only [decide_eq_true_eq, decide_eq_false_iff_not, Bool.not_eq_true', Bool.not_eq_false'] at hc) <;> simp only [seval, go_sem, hc, h, h0, e1, e2, getD_map Hold.p l i h', getD_map Hold.p l (i - 1) hj, Hold.p, wrap_succ i (by omega), less_not])
         | ((with_reducible_and_instances first | refine go_use (hx) ?_); simp only [seval, go_sem, h, h0, e1, e2, getD_map Hold.p l i h', getD_map Hold.p l (i - 1) hj, Hold.p, wrap_succ i (by omega), less_not]))
        · exact oB_f (fun (g : holdsOk l) => (tf_iff.1 hc) (by have := g.2.2 (i - 1) (by omega); simpa [show i - 1 + 1 = i by omega] using this))
        · rename_i hh
          exact ⟨i + 1, rfl, ⟨h', take_all h' hd (tf_iff.1 hh), asc_take h' ha fun _ => Classical.not_not.1 (tf_not.1 hc)⟩, by (try dsimp only); omega⟩
        · exact oB_f (fun (g : holdsOk l) => tf_not.1 hc (g.2.1 _ (at_mem h')))
      · obtain rfl : i = 0 := by omega
        have h00 : (0 : Int) < l.length := by omega
        simp only [seval, go_sem, h, h0, h00, getD_map Hold.p l 0 h', Hold.p, wrap_succ 0 (by omega)]
        repeat' (first
         | ((with_reducible_and_instances first | refine go_br (fun hc => ?_) (fun hc => ?_) | refine go_grd (fun hc => ?_) (fun hc => ?_) | refine go_dgrd (fun hc => ?_) (fun hc => ?_)) <;> (try simp only [decide_eq_true_eq, decide_eq_false_iff_not, Bool.not_eq_true', Bool.not_eq_false'] at hc) <;> simp only [seval, go_sem, hc, h, h0, h00, getD_map Hold.p l 0 h', Hold.p, wrap_succ 0 (by omega)])
         | ((with_reducible_and_instances first | refine go_use (hx) ?_); simp only [seval, go_sem, h, h0, h00, getD_map Hold.p l 0 h', Hold.p, wrap_succ 0 (by omega)]))
        · exact ⟨1, rfl, ⟨h', take_all h' hd (tf_iff.1 hc), asc_take h' ha fun h00 => absurd h00 (by omega)⟩, by (try dsimp only); omega⟩
        · exact oB_f (fun (g : holdsOk l) => tf_not.1 hc (g.2.1 _ (at_mem h')))
    · simp only [seval, go_sem, h]
      have e : l.take i = l := List.take_of_length_le (by omega)
      rw [e] at hd ha
      exact oB_d ⟨fun g => ⟨g, hd, ha⟩, fun g => g.1⟩

def slotsOk (l : List Slot) : Prop := (l.length : Int) ≤ 6 ∧ (∀ s ∈ l, slotOk s) ∧ ∀ i (h : i < l.length), ∀ s ∈ l.take i, ¬ (s.trace = l[i].trace ∧ s.mti = l[i].mti)
structure SFit (l : List Slot) : Prop where
  len : l.length < 4294967296
  trace : ∀ s ∈ l, s.trace.length < 4294967296
  mti : ∀ s ∈ l, s.mti.length < 4294967296
  reply : ∀ s ∈ l, s.reply.length < 4294967296
theorem idx_self {l : List Slot} {i : Nat} (h : i < l.length) : (idx (fun s => s.trace = l[i].trace ∧ s.mti = l[i].mti) l = i) ↔ ∀ s ∈ l.take i, ¬ (s.trace = l[i].trace ∧ s.mti = l[i].mti) := by
  constructor
  · intro e
    rcases idx_cases (fun s : Slot => s.trace = l[i].trace ∧ s.mti = l[i].mti) l with ⟨h1, h2⟩ | ⟨j, hj, h1, h2, h3⟩
    · omega
    · obtain rfl : i = j := by omega
      exact h3
  · intro g; exact idx_at h g ⟨rfl, rfl⟩
theorem islotsOk_ret (l : List Slot) (f : SFit l) : Ret PG f_impl_SlotsOk [aSlots l] (oB (tf (slotsOk l))) [] := by
  have hl := f.len
  refine exact_of (p_impl_SlotsOk rfl rfl ?_)
  simp only [seval, go_sem, i_impl_SlotsOk]
  refine go_lp (β := Nat) (fun i => [(7, .p (.int .i64 i))]) (fun _ => []) (fun i => i ≤ l.length ∧ (∀ x ∈ l.take i, slotOk x) ∧ ∀ j (h : j < l.length), j < i → ∀ s ∈ l.take j, ¬ (s.trace = l[j].trace ∧ s.mti = l[j].mti)) (fun i => l.length - i) 0 ?_ ?_ ?_
  · rfl
  · simp
  · rintro i ⟨hi, hd, ha⟩
    by_cases h : (i : Int) < l.length
    · have h' : i < l.length := by omega
      have hx := iSlotOk_ret l[i] (f.trace _ (at_mem h')) (f.mti _ (at_mem h')) (f.reply _ (at_mem h'))
      unfold Slot.p at hx
      simp only [seval, go_sem, h, getD_map Slot.p l i h', Slot.p, wrap_succ i (by omega)]
      repeat' (first
       | ((with_reducible_and_instances first | refine go_br (fun hc => ?_) (fun hc => ?_) | refine go_grd (fun hc => ?_) (fun hc => ?_) | refine go_dgrd (fun hc => ?_) (fun hc => ?_)) <;> (try simp only [decide_eq_true_eq, decide_eq_false_iff_not, Bool.not_eq_true', Bool.not_eq_false'] at hc) <;> simp only [seval, go_sem, hc, h, getD_map Slot.p l i h', Slot.p, wrap_succ i (by omega)])
       | ((with_reducible_and_instances first | refine go_use (hx) ?_ | refine go_use (islotAt_ret l _ _ hl) ?_); simp only [seval, go_sem, h, getD_map Slot.p l i h', Slot.p, wrap_succ i (by omega)]))
      · exact oB_f (fun (g : slotsOk l) => hc ((idx_self h').2 (g.2.2 i h')))
      · rename_i hh
        refine ⟨i + 1, rfl, ⟨h', take_all h' hd (tf_iff.1 hh), fun j hj hji => ?_⟩, by (try dsimp only); omega⟩
        rcases Nat.lt_or_ge j i with g | g
        · exact ha j hj g
        · obtain rfl : j = i := by omega
          exact (idx_self hj).1 (Classical.not_not.1 hc)
      · exact oB_f (fun (g : slotsOk l) => tf_not.1 hc (g.2.1 _ (at_mem h')))
    · simp only [seval, go_sem, h]
      have e : l.take i = l := List.take_of_length_le (by omega)
      rw [e] at hd
      exact oB_d ⟨fun g => ⟨g, hd, fun j hj => ha j hj (by omega)⟩, fun g => g.1⟩
theorem take_take' {α : Type} (l : List α) (i j : Nat) (h : j ≤ i) : (l.take i).take j = l.take j := by rw [List.take_take, Nat.min_eq_left h]
theorem sslotsOk_ret (l : List Slot) (f : SFit l) : Ret PG f_spec_SlotsOk [aSlots l] (oB (tf (slotsOk l))) [] := by
  have hl := f.len
  refine exact_of (p_spec_SlotsOk rfl rfl ?_)
  simp only [seval, go_sem, i_spec_SlotsOk]
  refine go_lp (β := Nat) (fun i => [(9, .p (.int .i64 i))]) (fun _ => []) (fun i => i ≤ l.length ∧ (∀ x ∈ l.take i, slotOk x) ∧ ∀ j (h : j < l.length), j < i → ∀ s ∈ l.take j, ¬ (s.trace = l[j].trace ∧ s.mti = l[j].mti)) (fun i => l.length - i) 0 ?_ ?_ ?_
  · rfl
  · simp
  · rintro i ⟨hi, hd, ha⟩
    by_cases h : (i : Int) < l.length
    · have h' : i < l.length := by omega
      have hx := sSlotOk_ret l[i] (f.trace _ (at_mem h')) (f.mti _ (at_mem h')) (f.reply _ (at_mem h'))
      unfold Slot.p at hx
      have e2 : (i : Int) ≤ l.length := by omega
      have e3 : (l.map Slot.p).take i = (l.take i).map Slot.p := by rw [List.map_take]
      have el : (l.take i).length = i := by simp; omega
      simp only [seval, go_sem, h, getD_map Slot.p l i h', Slot.p, wrap_succ i (by omega), e2, e3, el]
      repeat' (first
       | ((with_reducible_and_instances first | refine go_br (fun hc => ?_) (fun hc => ?_) | refine go_grd (fun hc => ?_) (fun hc => ?_) | refine go_dgrd (fun hc => ?_) (fun hc => ?_)) <;> (try simp only [decide_eq_true_eq, decide_eq_false_iff_not, Bool.not_eq_true', Bool.not_eq_false'] at hc) <;> simp only [seval, go_sem, hc, h, getD_map Slot.p l i h', Slot.p, wrap_succ i (by omega), e2, e3, el])
       | ((with_reducible_and_instances first | refine go_use (hx) ?_); simp only [seval, go_sem, h, getD_map Slot.p l i h', Slot.p, wrap_succ i (by omega), e2, e3, el]))
      · exact oB_f (fun (g : slotsOk l) => tf_not.1 hc (g.2.1 _ (at_mem h')))
      · have hso := tf_iff.1 hc
        refine go_lp (β := Nat) (fun j => [(21, .p (.int .i64 j))]) (fun _ => []) (fun j => j ≤ i ∧ ∀ x ∈ (l.take i).take j, ¬ (x.trace = l[i].trace ∧ x.mti = l[i].mti)) (fun j => i - j) 0 ?_ ?_ ?_
        · rfl
        · simp
        · rintro j ⟨hj, hx2⟩
          by_cases hji : (j : Int) < i
          · have hj' : j < (l.take i).length := by omega
            simp only [seval, go_sem, hji, getD_map Slot.p (l.take i) j hj', Slot.p, wrap_succ j (by omega), wrap_succ i (by omega), el]
            repeat' (first
             | ((with_reducible_and_instances first | refine go_br (fun hc => ?_) (fun hc => ?_) | refine go_grd (fun hc => ?_) (fun hc => ?_) | refine go_dgrd (fun hc => ?_) (fun hc => ?_)) <;> (try simp only [decide_eq_true_eq, decide_eq_false_iff_not, Bool.not_eq_true', Bool.not_eq_false'] at hc) <;> simp only [seval, go_sem, hc, hji, getD_map Slot.p (l.take i) j hj', Slot.p, wrap_succ j (by omega), wrap_succ i (by omega), el]))
            · rename_i hc0
              exact oB_f (fun (g : slotsOk l) => g.2.2 i h' _ (at_mem hj') ⟨hc0, hc⟩)
            · exact ⟨j + 1, rfl, ⟨by omega, take_all hj' hx2 (fun g => hc g.2)⟩, by (try dsimp only); omega⟩
            · exact ⟨j + 1, rfl, ⟨by omega, take_all hj' hx2 (fun g => hc g.1)⟩, by (try dsimp only); omega⟩
          · simp only [seval, go_sem, hji, wrap_succ i (by omega)]
            repeat' (first
             | ((with_reducible_and_instances first | refine go_br (fun hc => ?_) (fun hc => ?_) | refine go_grd (fun hc => ?_) (fun hc => ?_) | refine go_dgrd (fun hc => ?_) (fun hc => ?_)) <;> (try simp only [decide_eq_true_eq, decide_eq_false_iff_not, Bool.not_eq_true', Bool.not_eq_false'] at hc) <;> simp only [seval, go_sem, hc, hji, wrap_succ i (by omega)]))
            refine ⟨i + 1, rfl, ⟨h', take_all h' hd hso, fun k hk hki => ?_⟩, by (try dsimp only); omega⟩
            rcases Nat.lt_or_ge k i with g | g
            · exact ha k hk g
            · obtain rfl : k = i := by omega
              rwa [take_take' l k j hj, show j = k by omega] at hx2
    · simp only [seval, go_sem, h]
      have e : l.take i = l := List.take_of_length_le (by omega)
      rw [e] at hd
      exact oB_d ⟨fun g => ⟨g, hd, fun j hj => ha j hj (by omega)⟩, fun g => g.1⟩
end Go.AW
namespace Go.AW
open IntWalk
structure RFit (r : Ring) : Prop where
  counts : r.counts.length < 2147483648
  sums : r.sums.length < 2147483648
def ringOk (r : Ring) : Prop := inr r.span 1 1000 ∧ inr r.counts.length 1 8 ∧ r.sums.length = r.counts.length ∧ time r.head ∧ (∀ x ∈ r.counts, money x) ∧ ∀ x ∈ r.sums, money x
theorem sringOk_ret (r : Ring) (f : RFit r) : Ret PG f_spec_RingOk [.v r.p] (oB (tf (ringOk r))) [] := by
  have hc1 := f.counts
  by_cases hlen : (r.sums.length : Int) = r.counts.length
  · have hn : r.sums.length = r.counts.length := by omega
    refine exact_of (p_spec_RingOk rfl rfl ?_)
    simp only [seval, go_sem, i_spec_RingOk, Ring.p]
    repeat' (first
     | ((with_reducible_and_instances first | refine go_br (fun hc => ?_) (fun hc => ?_) | refine go_grd (fun hc => ?_) (fun hc => ?_) | refine go_dgrd (fun hc => ?_) (fun hc => ?_)) <;> (try simp only [decide_eq_true_eq, decide_eq_false_iff_not, Bool.not_eq_true', Bool.not_eq_false'] at hc) <;> simp only [seval, go_sem, hc, hlen])
     | ((with_reducible_and_instances first | refine go_use (sIn_ret _ _ _) ?_ | refine go_use (sTime_ret _) ?_); simp only [seval, go_sem, hlen]))
    · exact oB_f (fun (g : ringOk r) => tf_not.1 hc g.2.2.2.1)
    · rename_i h1 h2
      rw [tf_iff] at h1 h2 hc
      refine go_lp (β := Nat) (fun i => [(33, .p (.int .i64 i))]) (fun _ => []) (fun i => i ≤ r.counts.length ∧ (∀ x ∈ r.counts.take i, money x) ∧ ∀ x ∈ r.sums.take i, money x) (fun i => r.counts.length - i) 0 ?_ ?_ ?_
      · rfl
      · simp
      · rintro i ⟨hi, hd, ha⟩
        by_cases h : (i : Int) < r.counts.length
        · have h' : i < r.counts.length := by omega
          have h'' : i < r.sums.length := by omega
          simp only [seval, go_sem, h, hlen, getD_map ei r.counts i h', getD_map ei r.sums i h'', ei, wrap_succ i (by omega)]
          repeat' (first
           | ((with_reducible_and_instances first | refine go_br (fun hc => ?_) (fun hc => ?_) | refine go_grd (fun hc => ?_) (fun hc => ?_) | refine go_dgrd (fun hc => ?_) (fun hc => ?_)) <;> (try simp only [decide_eq_true_eq, decide_eq_false_iff_not, Bool.not_eq_true', Bool.not_eq_false'] at hc) <;> simp only [seval, go_sem, hc, h, hlen, getD_map ei r.counts i h', getD_map ei r.sums i h'', ei, wrap_succ i (by omega)])
           | ((with_reducible_and_instances first | refine go_use (sMoney_ret _) ?_); simp only [seval, go_sem, h, hlen, getD_map ei r.counts i h', getD_map ei r.sums i h'', ei, wrap_succ i (by omega)]))
          · exact oB_f (fun (g : ringOk r) => tf_not.1 hc (g.2.2.2.2.2 _ (at_mem h'')))
          · rename_i hh
            exact ⟨i + 1, rfl, ⟨h', take_all h' hd (tf_iff.1 hh), take_all h'' ha (tf_iff.1 hc)⟩, by (try dsimp only); omega⟩
          · exact oB_f (fun (g : ringOk r) => tf_not.1 hc (g.2.2.2.2.1 _ (at_mem h')))
        · simp only [seval, go_sem, h]
          rw [List.take_of_length_le (by omega)] at hd ha
          exact oB_t ⟨h1, h2, hn, hc, hd, ha⟩
    all_goals (rw [tf_not] at hc; exact oB_f (fun (g : ringOk r) => hc (by first | exact g.1 | exact g.2.1 | exact g.2.2.2.1)))
  · refine exact_of (p_spec_RingOk rfl rfl ?_)
    simp only [seval, go_sem, i_spec_RingOk, Ring.p]
    repeat' (first
     | ((with_reducible_and_instances first | refine go_br (fun hc => ?_) (fun hc => ?_) | refine go_grd (fun hc => ?_) (fun hc => ?_) | refine go_dgrd (fun hc => ?_) (fun hc => ?_)) <;> (try simp only [decide_eq_true_eq, decide_eq_false_iff_not, Bool.not_eq_true', Bool.not_eq_false'] at hc) <;> simp only [seval, go_sem, hc, hlen])
     | ((with_reducible_and_instances first | refine go_use (sIn_ret _ _ _) ?_); simp only [seval, go_sem, hlen]))
    all_goals exact oB_f (fun (g : ringOk r) => hlen (by rw [g.2.2.1]))

theorem iBookAt1_ret (a : Acct) (id : Str) : Ret PG f_impl_BookAt_1 [.v a.p, .v (.ptr [.str id])] (oB (tf (a.id = id))) [] := by
  refine exact_of (p_impl_BookAt_1 rfl rfl ?_)
  simp only [seval, go_sem, i_impl_BookAt_1, Acct.p]
  exact oB_d Iff.rfl
theorem idxAcct_ret (l : Book) (id : Str) (hl : l.length < 4294967296) : Ret PG f_slices_IndexFunc_impl_Acct_impl_Acct [.v (.sl 11 (l.map Acct.p)), .v (.clo f_impl_BookAt_1 [.ptr [.str id]])] (oI (idx (fun a => a.id = id) l)) [] := by
  refine exact_of (p_slices_IndexFunc_impl_Acct_impl_Acct rfl rfl ?_)
  simp only [seval, go_sem, i_slices_IndexFunc_impl_Acct_impl_Acct]
  refine go_lp (β := Nat) (fun i => [(8, .p (.int .i64 i))]) (fun _ => []) (fun i => i ≤ l.length ∧ ∀ x ∈ l.take i, ¬ (x.id = id)) (fun i => l.length - i) 0 ?_ ?_ ?_
  · rfl
  · simp
  · rintro i ⟨hi, hd⟩
    by_cases h : (i : Int) < l.length
    · have h' : i < l.length := by omega
      have hx := iBookAt1_ret l[i] id
      unfold Acct.p at hx
      simp only [seval, go_sem, h, getD_map Acct.p l i h', Acct.p, wrap_succ i (by omega)]
      repeat' (first
       | ((with_reducible_and_instances first | refine go_br (fun hc => ?_) (fun hc => ?_) | refine go_grd (fun hc => ?_) (fun hc => ?_) | refine go_dgrd (fun hc => ?_) (fun hc => ?_)) <;> (try simp only [decide_eq_true_eq, decide_eq_false_iff_not, Bool.not_eq_true', Bool.not_eq_false'] at hc) <;> simp only [seval, go_sem, hc, h, getD_map Acct.p l i h', Acct.p, wrap_succ i (by omega)])
       | ((with_reducible_and_instances first | refine go_use (hx) ?_); simp only [seval, go_sem, h, getD_map Acct.p l i h', Acct.p, wrap_succ i (by omega)]))
      · rw [idx_at h' hd (tf_iff.1 hc)]
      · exact ⟨i + 1, rfl, ⟨h', take_all h' hd (tf_not.1 hc)⟩, by (try dsimp only); omega⟩
    · simp only [seval, go_sem, h]
      rw [idx_none (all_of_take h hd)]
theorem iBookAt_ret (l : Book) (id : Str) (hl : l.length < 4294967296) : Ret PG f_impl_BookAt [.v (bookP l), aS id] (oI (idx (fun a => a.id = id) l)) [] := by
  refine exact_of (p_impl_BookAt rfl rfl ?_)
  simp only [seval, go_sem, i_impl_BookAt, bookP]
  with_reducible_and_instances refine go_use (idxAcct_ret l id hl) ?_
  simp only [seval, go_sem]

theorem iSlotOf_none (l : List Slot) (tr mti : Str) (hl : l.length < 4294967296) (h : ∀ s ∈ l, ¬ (s.trace = tr ∧ s.mti = mti)) : Ret PG f_impl_SlotOf [aSlots l, aS tr, aS mti] (.tup [.o (.p (.z 1)), oB false]) [] := by
  refine exact_of (p_impl_SlotOf rfl rfl ?_)
  simp only [seval, go_sem, i_impl_SlotOf]
  with_reducible_and_instances refine go_use (islotAt_ret l tr mti hl) ?_
  simp only [seval, go_sem, idx_none h]
theorem iSlotOf_some (l : List Slot) (tr mti : Str) (i : Nat) (hl : l.length < 4294967296) (h : i < l.length) (h1 : ∀ s ∈ l.take i, ¬ (s.trace = tr ∧ s.mti = mti)) (h2 : l[i].trace = tr ∧ l[i].mti = mti) (h3 : l[i].reply.length < 4294967296) :
    Ret PG f_impl_SlotOf [aSlots l, aS tr, aS mti] (.tup [.o (.p (.sl 1 (l[i].reply.map eb))), oB true]) [] := by
  have e1 : ¬ ((i : Int) < 0) := by omega
  have e2 : ((i : Int) < l.length) := by omega
  refine exact_of (p_impl_SlotOf rfl rfl ?_)
  simp only [seval, go_sem, i_impl_SlotOf]
  with_reducible_and_instances refine go_use (islotAt_ret l tr mti hl) ?_
  simp only [seval, go_sem, idx_at h h1 h2, e1, e2, getD_map Slot.p l i h, Slot.p]
  with_reducible_and_instances refine go_use (clone_byte _ h3) ?_
  simp only [seval, go_sem]
def eachW (g : Acct → Acct) (b : Book) : Nat → List (Nat × Nat × Blk)
  | 0 => []
  | j + 1 => [(5, 0, .box [.sl 22 j 0 (j + 1)] false), (22, j, .arr 11 (((b.take (j + 1)).map g).map Acct.p) false)]
noncomputable def eachO (b : Book) : O := if tf (b = []) = true then .p (.z 11) else .own 11 (b.map Acct.p)
theorem eachO_nil : eachO [] = .p (.z 11) := by simp [eachO, tf_true]
theorem eachO_cons {b : Book} (h : b ≠ []) : eachO b = .own 11 (b.map Acct.p) := by simp [eachO, tf_false h]
theorem each_ret (b : Book) (f : FuncId) (g : Acct → Acct) (hb : b.length < 4294967296) (h : ∀ a ∈ b, Ret PG f [.v a.p] (rR (g a).c) []) : Ret PG f_impl_Book_each [.v (bookP b), .v (.clo f [])] (.agg [eachO (b.map g)]) [] := by
  refine exact_of (p_impl_Book_each rfl rfl ?_)
  simp only [seval, go_sem, i_impl_Book_each, bookP]
  refine go_lp (β := Nat) (fun i => [(12, .p (.int .i64 i))]) (eachW g b) (fun i => i ≤ b.length) (fun i => b.length - i) 0 ?_ ?_ ?_
  · rfl
  · simp
  · intro i hi
    have el : (b.take i).length = i := by simp; omega
    by_cases h1 : (i : Int) < b.length
    · have h' : i < b.length := by omega
      have hx := h _ (at_mem h')
      unfold Acct.p at hx
      have et : ((b.take (i + 1)).map g).map Acct.p = ((b.take i).map g).map Acct.p ++ [(g b[i]).p] := by rw [take_at b i h']; simp only [List.map_append, List.map_cons, List.map_nil]
      cases i with
      | zero =>
        have h0 : (0 : Int) < b.length := by omega
        simp only [seval, go_sem, h1, h0, eachW, getD_map Acct.p b 0 h', Acct.p, Acct.c, wrap_succ 0 (by omega)]
        repeat' (first
         | ((with_reducible_and_instances first | refine go_br (fun hc => ?_) (fun hc => ?_) | refine go_grd (fun hc => ?_) (fun hc => ?_) | refine go_dgrd (fun hc => ?_) (fun hc => ?_)) <;> (try simp only [decide_eq_true_eq, decide_eq_false_iff_not, Bool.not_eq_true', Bool.not_eq_false'] at hc) <;> simp only [seval, go_sem, hc, h1, h0, eachW, getD_map Acct.p b 0 h', Acct.p, Acct.c, wrap_succ 0 (by omega)])
         | ((with_reducible_and_instances first | refine go_use (hx) ?_); simp only [seval, go_sem, h1, h0, eachW, getD_map Acct.p b 0 h', Acct.p, Acct.c, wrap_succ 0 (by omega)]))
        refine ⟨1, ?_, h', by (try dsimp only); omega⟩
        simp only [eachW, et]; rfl
      | succ j =>
        simp only [seval, go_sem, h1, eachW, getD_map Acct.p b (j + 1) h', Acct.p, Acct.c, wrap_succ (j + 1) (by omega), el]
        repeat' (first
         | ((with_reducible_and_instances first | refine go_br (fun hc => ?_) (fun hc => ?_) | refine go_grd (fun hc => ?_) (fun hc => ?_) | refine go_dgrd (fun hc => ?_) (fun hc => ?_)) <;> (try simp only [decide_eq_true_eq, decide_eq_false_iff_not, Bool.not_eq_true', Bool.not_eq_false'] at hc) <;> simp only [seval, go_sem, hc, h1, eachW, getD_map Acct.p b (j + 1) h', Acct.p, Acct.c, wrap_succ (j + 1) (by omega), el])
         | ((with_reducible_and_instances first | refine go_use (hx) ?_); simp only [seval, go_sem, h1, eachW, getD_map Acct.p b (j + 1) h', Acct.p, Acct.c, wrap_succ (j + 1) (by omega), el]))
        refine ⟨by omega, j + 2, ?_, h', by (try dsimp only); omega⟩
        simp only [eachW, et]; rfl
    · have e : i = b.length := by omega
      subst e
      cases hb0 : b with
      | nil => subst hb0; simp only [seval, go_sem, eachW, List.map_nil, eachO_nil, Int.lt_irrefl]
      | cons x r =>
        simp only [seval, go_sem, eachW, List.length_cons, List.take_length, Int.lt_irrefl]
        rw [eachO_cons (by simp)]
        simp only [List.map_cons, List.map_map]
        rw [List.take_of_length_le (by simp)]
theorem eachO_wk (b : Book) : (eachO b).wk = .p (.sl 11 (b.map Acct.p)) := by
  cases b with
  | nil => rw [eachO_nil]; rfl
  | cons x r => rw [eachO_cons (by simp)]; rfl
theorem iBookCopied_ret (b : Book) (f : BFit b) : Ret PG f_impl_Book_copied [.v (bookP b)] (.agg [eachO b]) [] := by
  have hx := each_ret b f_impl_Acct_copied id f.len fun a ha => iAcctCopied_ret a (f.all a ha)
  rw [List.map_id] at hx
  cases b with
  | nil =>
    rw [eachO_nil] at hx ⊢
    simp only [bookP, List.map_nil] at hx
    refine exact_of (p_impl_Book_copied rfl rfl ?_)
    simp only [seval, go_sem, i_impl_Book_copied, bookP]
    with_reducible_and_instances refine go_use (hx) ?_
    simp only [seval, go_sem]
  | cons x r =>
    rw [eachO_cons (by simp)] at hx ⊢
    simp only [bookP, List.map_cons] at hx
    refine exact_of (p_impl_Book_copied rfl rfl ?_)
    simp only [seval, go_sem, i_impl_Book_copied, bookP]
    with_reducible_and_instances refine go_use (hx) ?_
    simp only [seval, go_sem]
theorem iBookCopied_wk (b : Book) (f : BFit b) : Ret PG f_impl_Book_copied [.v (bookP b)] (.agg [.p (.sl 11 (b.map Acct.p))]) [] := by
  have := (iBookCopied_ret b f).wkA
  rwa [List.map_cons, List.map_nil, eachO_wk] at this
end Go.AW
