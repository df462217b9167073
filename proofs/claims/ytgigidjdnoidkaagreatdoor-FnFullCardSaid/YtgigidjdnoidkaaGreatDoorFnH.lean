/- Part 8 of the proof that laws.FnFull answers true at every input and leaves it as it was: an own small semantics of the translated code, contracts of the functions, the plain law. No condition. -/
import Derived.Test.YtgigidjdnoidkaaGreatDoorFnG
set_option linter.unusedVariables false
set_option linter.unusedSimpArgs false
set_option linter.unnecessarySimpa false
namespace Go.AW
open IntWalk
set_option maxRecDepth 20000
section
variable {Pg : Program} {post : IE → AS → Prop} {k : List Fr} {n : Nat} {E : List (Nat × L)} {m : Mem}
/-- a loop at its head, where the memory is told whole -/
theorem go_lm {β : Type} {live sites : List Nat} {c : IC} (V : β → List (Nat × L)) (M : β → Mem) (I : β → Prop) (μ : β → Nat) (b0 : β) (h0 : st n E m = st n (V b0 ++ E) (M b0)) (hI : I b0)
    (round : ∀ b, I b → den Pg post (.code c :: .inv (fun s' => ∃ b', clean live sites s' = some (st n (V b' ++ E) (M b')) ∧ I b' ∧ μ b' < μ b) :: k) .norm (st n (V b ++ E) (M b))) :
    den Pg post (.lp live sites c :: k) .norm (st n E m) := by
  have key : ∀ (j : Nat) (b : β), μ b < j → I b → ∃ n', awp Pg c (fun e t => match e with | .norm => iter (awp Pg c) live sites (den Pg post k) n' t | e => den Pg post k e t) (st n (V b ++ E) (M b)) := by
    intro j
    induction j with
    | zero => intro b hb; omega
    | succ j ih =>
      intro b hb hI
      have := round b hI
      simp only [den] at this
      obtain ⟨e1, s1, h1, h2⟩ := awp_split0 c _ _ this
      cases e1 with
      | norm =>
        obtain ⟨b', h3, h4, h5⟩ := h1
        obtain ⟨n', h6⟩ := ih b' (by omega) h4
        refine ⟨n' + 1, awp_mono c _ _ ?_ _ h2⟩
        rintro e t ⟨rfl, rfl⟩
        exact ⟨_, h3, h6⟩
      | exit id =>
        refine ⟨0, awp_mono c _ _ ?_ _ h2⟩
        rintro e t ⟨rfl, rfl⟩
        exact h1
      | ret =>
        refine ⟨0, awp_mono c _ _ ?_ _ h2⟩
        rintro e t ⟨rfl, rfl⟩
        exact h1
  rw [h0]
  simp only [den]
  exact key _ b0 (Nat.lt_succ_self _) hI
end
theorem app_all {α : Type} {G : α → Prop} {l : List α} {x : α} (h : ∀ y ∈ l, G y) (hx : G x) : ∀ y ∈ l ++ [x], G y := by
  intro y hy; rcases List.mem_append.1 hy with h1 | h1
  · exact h y h1
  · rw [List.mem_singleton.1 h1]; exact hx
theorem sHoldPut_ex (l : List Hold) (h : Hold) (hl : holdsOk l) (G : Hold → Prop) (hG : ∀ x, G x → x.id.length < 4294967296) (g1 : ∀ x ∈ l, G x) (g2 : G h) :
    ∃ x : List Hold × Bool, Ret PG f_spec_HoldPut [aHolds l, .v h.p] (.tup [.o (.p (.sl 3 (x.1.map Hold.p))), oB x.2]) [] ∧ (x.2 = true → holdsOk x.1 ∧ ∀ y ∈ x.1, G y) := by
  refine exw_of ?_
  have hl4 := hl.1
  have c1 := sHoldsOk_ret l (by omega) (fun x hx => hG x (g1 x hx))
  rw [tf_true hl] at c1
  have hfin := fun (acc : List Hold) (ha : acc.length < 100) (hg : ∀ y ∈ acc, G y) => sHoldsOk_ret acc (by omega) (fun x hx => hG x (hg x hx))
  refine p_spec_HoldPut rfl rfl ?_
  simp only [seval, go_sem, i_spec_HoldPut, Hold.p]
  repeat' (first
   | ((with_reducible_and_instances first | refine go_br (fun hc => ?_) (fun hc => ?_) | refine go_grd (fun hc => ?_) (fun hc => ?_) | refine go_dgrd (fun hc => ?_) (fun hc => ?_)) <;> (try simp only [decide_eq_true_eq, decide_eq_false_iff_not, Bool.not_eq_true', Bool.not_eq_false'] at hc) <;> simp only [seval, go_sem, hc])
   | ((with_reducible_and_instances first | refine go_use (c1) ?_); simp only [seval, go_sem]))
  refine go_lp (β := Nat × List Hold × Bool) (fun b => [(6, .sl 13 b.2.1.length 0 b.2.1.length), (7, .p (.bool b.2.2)), (16, .p (.int .i64 b.1))])
    (fun b => [(13, b.2.1.length, .arr 3 (b.2.1.map Hold.p) false)]) (fun b => b.1 ≤ l.length ∧ b.2.1.length ≤ 2 * b.1 ∧ ∀ y ∈ b.2.1, G y) (fun b => l.length - b.1) (0, [], false) ?_ ?_ ?_
  · rfl
  · simp
  · rintro ⟨i, acc, d⟩ ⟨hi, hal, hg⟩
    simp only at hi hal hg
    by_cases h1 : (i : Int) < l.length
    · have h1' : i < l.length := by omega
      have hgi := g1 _ (at_mem h1')
      have hgd := getD_map Hold.p l i h1'
      generalize l[i] = x at *
      have hd : l.length - (i + 1) < l.length - i := by omega
      cases d
      all_goals
        simp only [seval, go_sem, h1, hgd, Hold.p, wrap_succ i (by omega), List.length_append, List.length_cons, List.length_nil, List.length_map]
        repeat' (first
         | ((with_reducible_and_instances first | refine go_br (fun hc => ?_) (fun hc => ?_) | refine go_grd (fun hc => ?_) (fun hc => ?_) | refine go_dgrd (fun hc => ?_) (fun hc => ?_)) <;> (try simp only [decide_eq_true_eq, decide_eq_false_iff_not, Bool.not_eq_true', Bool.not_eq_false'] at hc) <;> simp only [seval, go_sem, hc, h1, hgd, Hold.p, wrap_succ i (by omega), List.length_append, List.length_cons, List.length_nil, List.length_map])
         | ((with_reducible refine And.intro ?_ ?_); focus omega))
        all_goals first
          | exact ⟨(i + 1, acc, _), rfl, ⟨h1', by simp; omega, hg⟩, hd⟩
          | exact ⟨(i + 1, acc ++ [h], _), by simp only [List.length_append, List.length_cons, List.length_nil, List.map_append, List.map_cons, List.map_nil]; rfl, ⟨h1', by simp; omega, app_all hg g2⟩, hd⟩
          | exact ⟨(i + 1, acc ++ [x], _), by simp only [List.length_append, List.length_cons, List.length_nil, List.map_append, List.map_cons, List.map_nil]; rfl, ⟨h1', by simp; omega, app_all hg hgi⟩, hd⟩
          | exact ⟨(i + 1, acc ++ [h] ++ [x], _), by simp only [List.append_assoc, List.length_append, List.length_cons, List.length_nil, List.map_append, List.map_cons, List.map_nil]; rfl, ⟨h1', by simp; omega, app_all (app_all hg g2) hgi⟩, hd⟩
    · cases d
      · have hf := hfin (acc ++ [h]) (by simp; omega) (app_all hg g2)
        simp only [aHolds, List.map_append, List.map_cons, List.map_nil, Hold.p] at hf
        have ht : List.take (acc.length + 1) (acc.map Hold.p ++ [P.agg [P.str h.id, P.int .i64 h.amount, P.int .i64 h.due]]) = acc.map Hold.p ++ [P.agg [P.str h.id, P.int .i64 h.amount, P.int .i64 h.due]] := List.take_of_length_le (by simp)
        simp only [seval, go_sem, h1, ht, Hold.p, List.length_map]
        repeat' (first
         | ((with_reducible_and_instances first | refine go_br (fun hc => ?_) (fun hc => ?_) | refine go_grd (fun hc => ?_) (fun hc => ?_) | refine go_dgrd (fun hc => ?_) (fun hc => ?_)) <;> (try simp only [decide_eq_true_eq, decide_eq_false_iff_not, Bool.not_eq_true', Bool.not_eq_false'] at hc) <;> simp only [seval, go_sem, hc, h1, ht, Hold.p, List.length_map])
         | ((with_reducible_and_instances first | refine go_use (hf) ?_); simp only [seval, go_sem, h1, ht, Hold.p, List.length_map])
         | ((with_reducible refine And.intro ?_ ?_); focus omega))
        · exact ⟨([], false), rfl, rfl, fun g => by simp at g⟩
        · rw [tf_iff] at hc
          exact ⟨(acc ++ [h], true), rfl, by simp only [R.wk, R.wks, O.wk, List.map_append, List.map_cons, List.map_nil, Hold.p], fun _ => ⟨hc, app_all hg g2⟩⟩
      · have hf := hfin acc (by omega) hg
        simp only [seval, go_sem, h1, Hold.p, List.length_map]
        repeat' (first
         | ((with_reducible_and_instances first | refine go_br (fun hc => ?_) (fun hc => ?_) | refine go_grd (fun hc => ?_) (fun hc => ?_) | refine go_dgrd (fun hc => ?_) (fun hc => ?_)) <;> (try simp only [decide_eq_true_eq, decide_eq_false_iff_not, Bool.not_eq_true', Bool.not_eq_false'] at hc) <;> simp only [seval, go_sem, hc, h1, Hold.p, List.length_map])
         | ((with_reducible_and_instances first | refine go_use (hf) ?_); simp only [seval, go_sem, h1, Hold.p, List.length_map])
         | ((with_reducible refine And.intro ?_ ?_); focus omega))
        · exact ⟨([], false), rfl, rfl, fun g => by simp at g⟩
        · rw [tf_iff] at hc
          exact ⟨(acc, true), rfl, rfl, fun _ => ⟨hc, hg⟩⟩
theorem sHoldId_ex (c : Cur) : ∃ r : Str × Cur, Ret PG f_spec_l07Id [c.a] (oS r.1) [r.2.o] ∧ (holdIdOk r.1 ∧ 1 ≤ r.1.length ∧ r.1.length ≤ 2) := by
  refine ex_of ?_
  have h1 := sStr_ret c [[97], [98], [99], [104, 49], [122, 57]] (by simp)
  have h2 := strV_in c [[97], [98], [99], [104, 49], [122, 57]] (by simp)
  generalize strV c [[97], [98], [99], [104, 49], [122, 57]] (by simp) = v at *
  simp only [List.map_cons, List.map_nil, es] at h1
  refine p_spec_l07Id rfl rfl ?_
  simp only [seval, go_sem, i_spec_l07Id]
  repeat' (first
   | ((with_reducible_and_instances first | refine go_br (fun hc => ?_) (fun hc => ?_) | refine go_grd (fun hc => ?_) (fun hc => ?_) | refine go_dgrd (fun hc => ?_) (fun hc => ?_)) <;> (try simp only [decide_eq_true_eq, decide_eq_false_iff_not, Bool.not_eq_true', Bool.not_eq_false'] at hc) <;> simp only [seval, go_sem, hc])
   | ((with_reducible_and_instances first | refine go_use (h1) ?_); simp only [seval, go_sem]))
  refine ⟨v, rfl, rfl, ?_⟩
  have : ∀ s ∈ ([[97], [98], [99], [104, 49], [122, 57]] : List Str), holdIdOk s ∧ 1 ≤ s.length ∧ s.length ≤ 2 := by unfold holdIdOk idByte digit inr; decide
  exact this _ h2
def gHold (x : Hold) : Prop := x.id.length ≤ 6 ∧ 1 ≤ x.amount ∧ x.amount ≤ 60
theorem sHold_ex (c : Cur) : ∃ r : Hold × Cur, Ret PG f_spec_l07Hold [c.a] (rR [.str r.1.id, .int .i64 r.1.amount, .int .i64 r.1.due]) [r.2.o] ∧ gHold r.1 := by
  refine ex_of ?_
  obtain ⟨⟨s, c1⟩, h1, h2, h3, h4⟩ := sHoldId_ex c
  have b1 := belowV_in c1 60
  have b2 := belowV_in (belowV c1 60).2 30
  have e1 : IntKind.i64.wrap (1 + (belowV c1 60).1) = 1 + (belowV c1 60).1 := i64_in _ (by omega)
  simp only at h1 h2 h3 h4
  refine p_spec_l07Hold rfl rfl ?_
  simp only [seval, go_sem, i_spec_l07Hold]
  repeat' (first
   | ((with_reducible_and_instances first | refine go_br (fun hc => ?_) (fun hc => ?_) | refine go_grd (fun hc => ?_) (fun hc => ?_) | refine go_dgrd (fun hc => ?_) (fun hc => ?_)) <;> (try simp only [decide_eq_true_eq, decide_eq_false_iff_not, Bool.not_eq_true', Bool.not_eq_false'] at hc) <;> simp only [seval, go_sem, hc, e1])
   | ((with_reducible_and_instances first | refine go_use (h1) ?_ | refine go_use (sBelow_ret _ _) ?_); simp only [seval, go_sem, e1]))
  exact ⟨(⟨s, _, _⟩, _), rfl, rfl, by simp only; omega, by simp only; omega, by simp only; omega⟩
theorem sHolds_ex (c : Cur) : ∃ r : List Hold × Cur, Ret PG f_spec_l07Draw [c.a] (.o (.p (.sl 3 (r.1.map Hold.p)))) [r.2.o] ∧ (holdsOk r.1 ∧ ∀ y ∈ r.1, gHold y) := by
  refine exw_of ?_
  have b1 := belowV_in c 4
  have ok0 : holdsOk [] := ⟨by simp, by simp, by intro i h; simp at h⟩
  refine p_spec_l07Draw rfl rfl ?_
  simp only [seval, go_sem, i_spec_l07Draw]
  repeat' (first
   | ((with_reducible_and_instances first | refine go_br (fun hc => ?_) (fun hc => ?_) | refine go_grd (fun hc => ?_) (fun hc => ?_) | refine go_dgrd (fun hc => ?_) (fun hc => ?_)) <;> (try simp only [decide_eq_true_eq, decide_eq_false_iff_not, Bool.not_eq_true', Bool.not_eq_false'] at hc) <;> simp only [seval, go_sem, hc])
   | ((with_reducible_and_instances first | refine go_use (sBelow_ret _ _) ?_); simp only [seval, go_sem]))
  refine go_lm (β := Cur × List Hold × Bool × Int × Bool) (fun b => [(3, if b.2.2.1 then .sl 7 0 0 0 else .p (.sl 3 (b.2.1.map Hold.p))), (4, .p (.int .i64 b.2.2.2.1))])
    (fun b => (900, 0, .box [.p (.sl 1 (b.1.b.map eb)), .p (.int .i64 b.1.i), .p (.int .i64 b.1.h)] false) :: if b.2.2.1 then [(7, 0, .arr 3 [] b.2.2.2.2)] else [])
    (fun b => holdsOk b.2.1 ∧ (∀ y ∈ b.2.1, gHold y) ∧ (b.2.2.1 = true → b.2.1 = []) ∧ 0 ≤ b.2.2.2.1 ∧ b.2.2.2.1 < 5) (fun b => b.2.2.2.1.toNat) ((belowV c 4).2, [], true, (belowV c 4).1, false) ?_ ?_ ?_
  · rfl
  · exact ⟨ok0, by simp, fun _ => rfl, by simp only; omega, by simp only; omega⟩
  · rintro ⟨c1, l, f, n, z⟩ ⟨hl, hg, hf, hn0, hn5⟩
    simp only at hl hg hf hn0 hn5
    by_cases hn : 0 < n
    · have hn' : n > 0 := hn
      have e1 : IntKind.i64.wrap (n - 1) = n - 1 := i64_in _ (by omega)
      obtain ⟨⟨h, c2⟩, h1, h2⟩ := sHold_ex c1
      simp only [List.map_cons, List.map_nil] at h1 h2
      obtain ⟨⟨l', d⟩, h3, h4⟩ := sHoldPut_ex l h hl gHold (fun x g => by have := g.1; omega) hg h2
      simp only [Hold.p] at h3
      simp only at h4
      cases d
      · cases f
        · simp only [seval, go_sem, hn, hn', e1, Hold.p]
          repeat' (first
           | ((with_reducible_and_instances first | refine go_br (fun hc => ?_) (fun hc => ?_) | refine go_grd (fun hc => ?_) (fun hc => ?_) | refine go_dgrd (fun hc => ?_) (fun hc => ?_)) <;> (try simp only [decide_eq_true_eq, decide_eq_false_iff_not, Bool.not_eq_true', Bool.not_eq_false'] at hc) <;> simp only [seval, go_sem, hc, hn, hn', e1, Hold.p])
           | ((with_reducible_and_instances first | refine go_use (h1) ?_ | refine go_use (h3) ?_); simp only [seval, go_sem, hn, hn', e1, Hold.p])
           | ((with_reducible refine And.intro ?_ ?_); focus omega))
          exact ⟨(c2, l, false, n - 1, z), rfl, ⟨hl, hg, by simp, by simp only; omega, by simp only; omega⟩, by simp only; omega⟩
        · have hl0 := hf rfl
          subst hl0
          simp only [aHolds, List.map_nil] at h3
          simp only [seval, go_sem, hn, hn', e1, Hold.p]
          repeat' (first
           | ((with_reducible_and_instances first | refine go_br (fun hc => ?_) (fun hc => ?_) | refine go_grd (fun hc => ?_) (fun hc => ?_) | refine go_dgrd (fun hc => ?_) (fun hc => ?_)) <;> (try simp only [decide_eq_true_eq, decide_eq_false_iff_not, Bool.not_eq_true', Bool.not_eq_false'] at hc) <;> simp only [seval, go_sem, hc, hn, hn', e1, Hold.p])
           | ((with_reducible_and_instances first | refine go_use (h1) ?_ | refine go_use (h3) ?_); simp only [seval, go_sem, hn, hn', e1, Hold.p])
           | ((with_reducible refine And.intro ?_ ?_); focus omega))
          exact ⟨(c2, [], true, n - 1, true), rfl, ⟨hl, hg, fun _ => rfl, by simp only; omega, by simp only; omega⟩, by simp only; omega⟩
      · obtain ⟨k1, k2⟩ := h4 rfl
        cases f
        · simp only [seval, go_sem, hn, hn', e1, Hold.p]
          repeat' (first
           | ((with_reducible_and_instances first | refine go_br (fun hc => ?_) (fun hc => ?_) | refine go_grd (fun hc => ?_) (fun hc => ?_) | refine go_dgrd (fun hc => ?_) (fun hc => ?_)) <;> (try simp only [decide_eq_true_eq, decide_eq_false_iff_not, Bool.not_eq_true', Bool.not_eq_false'] at hc) <;> simp only [seval, go_sem, hc, hn, hn', e1, Hold.p])
           | ((with_reducible_and_instances first | refine go_use (h1) ?_ | refine go_use (h3) ?_); simp only [seval, go_sem, hn, hn', e1, Hold.p])
           | ((with_reducible refine And.intro ?_ ?_); focus omega))
          exact ⟨(c2, l', false, n - 1, z), rfl, ⟨k1, k2, by simp, by simp only; omega, by simp only; omega⟩, by simp only; omega⟩
        · have hl0 := hf rfl
          subst hl0
          simp only [aHolds, List.map_nil] at h3
          simp only [seval, go_sem, hn, hn', e1, Hold.p]
          repeat' (first
           | ((with_reducible_and_instances first | refine go_br (fun hc => ?_) (fun hc => ?_) | refine go_grd (fun hc => ?_) (fun hc => ?_) | refine go_dgrd (fun hc => ?_) (fun hc => ?_)) <;> (try simp only [decide_eq_true_eq, decide_eq_false_iff_not, Bool.not_eq_true', Bool.not_eq_false'] at hc) <;> simp only [seval, go_sem, hc, hn, hn', e1, Hold.p])
           | ((with_reducible_and_instances first | refine go_use (h1) ?_ | refine go_use (h3) ?_); simp only [seval, go_sem, hn, hn', e1, Hold.p])
           | ((with_reducible refine And.intro ?_ ?_); focus omega))
          exact ⟨(c2, l', false, n - 1, z), rfl, ⟨k1, k2, by simp, by simp only; omega, by simp only; omega⟩, by simp only; omega⟩
    · have hn' : ¬ n > 0 := hn
      cases f
      · simp only [seval, go_sem, hn, hn']
        repeat' (first
         | ((with_reducible_and_instances first | refine go_br (fun hc => ?_) (fun hc => ?_) | refine go_grd (fun hc => ?_) (fun hc => ?_) | refine go_dgrd (fun hc => ?_) (fun hc => ?_)) <;> (try simp only [decide_eq_true_eq, decide_eq_false_iff_not, Bool.not_eq_true', Bool.not_eq_false'] at hc) <;> simp only [seval, go_sem, hc, hn, hn'])
         | ((with_reducible refine And.intro ?_ ?_); focus omega))
        exact ⟨(l, c1), rfl, rfl, rfl, hl, hg⟩
      · have hl0 := hf rfl
        subst hl0
        cases z
        all_goals
          simp only [seval, go_sem, hn, hn']
          repeat' (first
           | ((with_reducible_and_instances first | refine go_br (fun hc => ?_) (fun hc => ?_) | refine go_grd (fun hc => ?_) (fun hc => ?_) | refine go_dgrd (fun hc => ?_) (fun hc => ?_)) <;> (try simp only [decide_eq_true_eq, decide_eq_false_iff_not, Bool.not_eq_true', Bool.not_eq_false'] at hc) <;> simp only [seval, go_sem, hc, hn, hn'])
           | ((with_reducible refine And.intro ?_ ?_); focus omega))
          exact ⟨([], c1), rfl, rfl, rfl, hl, hg⟩
end Go.AW
namespace Go.AW
open IntWalk
set_option maxRecDepth 20000
theorem ring1 : money 0 := money0
theorem sRingNew_ex (b span : Int) (hb : 1 ≤ b ∧ b ≤ 8) (hs : 1 ≤ span ∧ span ≤ 1000) :
    ∃ r : Ring, Ret PG f_spec_RingNew [aI b, aI span] (.tup [rR r.c, oB true]) [] ∧ ringOk r := by
  refine ⟨_, sRingNew_ret b span hb hs, hs, ?_, by simp, by simp only [time, inr]; omega, ?_, ?_⟩
  · simp only [inr, List.length_replicate]; omega
  · intro x hx; rw [List.eq_of_mem_replicate hx]; exact money0
  · intro x hx; rw [List.eq_of_mem_replicate hx]; exact money0
theorem sRing_ex (c : Cur) : ∃ r : Ring × Cur, Ret PG f_spec_l06Draw [c.a] (rR r.1.c) [r.2.o] ∧ ringOk r.1 := by
  refine ex_of ?_
  have b1 := belowV_in c 5
  have b2 := belowV_in (belowV c 5).2 6
  have e1 : IntKind.i64.wrap (1 + (belowV c 5).1) = 1 + (belowV c 5).1 := i64_in _ (by omega)
  have e2 : IntKind.i64.wrap (1 + (belowV (belowV c 5).2 6).1) = 1 + (belowV (belowV c 5).2 6).1 := i64_in _ (by omega)
  obtain ⟨r0, h0, ok0⟩ := sRingNew_ex (1 + (belowV c 5).1) (1 + (belowV (belowV c 5).2 6).1) (by omega) (by omega)
  have b3 := belowV_in (belowV (belowV c 5).2 6).2 5
  simp only [Ring.c, List.map_cons, List.map_nil] at h0
  refine p_spec_l06Draw rfl rfl ?_
  simp only [seval, go_sem, i_spec_l06Draw]
  repeat' (first
   | ((with_reducible_and_instances first | refine go_br (fun hc => ?_) (fun hc => ?_) | refine go_grd (fun hc => ?_) (fun hc => ?_) | refine go_dgrd (fun hc => ?_) (fun hc => ?_)) <;> (try simp only [decide_eq_true_eq, decide_eq_false_iff_not, Bool.not_eq_true', Bool.not_eq_false'] at hc) <;> simp only [seval, go_sem, hc, e1, e2])
   | ((with_reducible_and_instances first | refine go_use (sBelow_ret _ _) ?_ | refine go_use (h0) ?_); simp only [seval, go_sem, e1, e2]))
  refine go_lp (β := Cur × Ring × Int × Int) (fun b => [(5, .p (.int .i64 b.2.2.1)), (6, .p (.int .i64 b.2.2.2))])
    (fun b => [(900, 0, .box [.p (.sl 1 (b.1.b.map eb)), .p (.int .i64 b.1.i), .p (.int .i64 b.1.h)] false), (3, 0, .box [.p (.int .i64 b.2.1.span), .p (.int .i64 b.2.1.head), .p (.sl 1 (b.2.1.counts.map ei)), .p (.sl 1 (b.2.1.sums.map ei))] false)])
    (fun b => ringOk b.2.1 ∧ 0 ≤ b.2.2.1 ∧ 0 ≤ b.2.2.2 ∧ b.2.2.1 + 9 * b.2.2.2 ≤ 100) (fun b => b.2.2.2.toNat) ((belowV (belowV (belowV c 5).2 6).2 5).2, r0, 0, (belowV (belowV (belowV c 5).2 6).2 5).1) ?_ ?_ ?_
  · rfl
  · exact ⟨ok0, by simp only; omega, by simp only; omega, by simp only; omega⟩
  · rintro ⟨c1, r, t, n⟩ ⟨hr, ht, hn0, htn⟩
    simp only at hr ht hn0 htn
    by_cases hn : 0 < n
    · have hn' : n > 0 := hn
      have e1 : IntKind.i64.wrap (n - 1) = n - 1 := i64_in _ (by omega)
      have d1 := belowV_in c1 9
      have d2 := belowV_in (belowV c1 9).2 90
      have e2 : IntKind.i64.wrap (t + (belowV c1 9).1) = t + (belowV c1 9).1 := i64_in _ (by omega)
      have e3 : IntKind.i64.wrap (1 + (belowV (belowV c1 9).2 90).1) = 1 + (belowV (belowV c1 9).2 90).1 := i64_in _ (by omega)
      obtain ⟨r', h1, h2⟩ := sRingAdd_ex r hr (t + (belowV c1 9).1) (by unfold time inr; omega) (1 + (belowV (belowV c1 9).2 90).1) (by unfold money inr; omega)
      simp only [Ring.p, Ring.c, List.map_cons, List.map_nil] at h1
      simp only [seval, go_sem, hn, hn', e1, e2, e3]
      repeat' (first
       | ((with_reducible_and_instances first | refine go_br (fun hc => ?_) (fun hc => ?_) | refine go_grd (fun hc => ?_) (fun hc => ?_) | refine go_dgrd (fun hc => ?_) (fun hc => ?_)) <;> (try simp only [decide_eq_true_eq, decide_eq_false_iff_not, Bool.not_eq_true', Bool.not_eq_false'] at hc) <;> simp only [seval, go_sem, hc, hn, hn', e1, e2, e3])
       | ((with_reducible_and_instances first | refine go_use (sBelow_ret _ _) ?_ | refine go_use (h1) ?_); simp only [seval, go_sem, hn, hn', e1, e2, e3])
       | ((with_reducible refine And.intro ?_ ?_); focus omega))
      exact ⟨((belowV (belowV c1 9).2 90).2, r', t + (belowV c1 9).1, n - 1), rfl, ⟨h2, by simp only; omega, by simp only; omega, by simp only; omega⟩, by simp only; omega⟩
    · have hn' : ¬ n > 0 := hn
      simp only [seval, go_sem, hn, hn']
      repeat' (first
       | ((with_reducible_and_instances first | refine go_br (fun hc => ?_) (fun hc => ?_) | refine go_grd (fun hc => ?_) (fun hc => ?_) | refine go_dgrd (fun hc => ?_) (fun hc => ?_)) <;> (try simp only [decide_eq_true_eq, decide_eq_false_iff_not, Bool.not_eq_true', Bool.not_eq_false'] at hc) <;> simp only [seval, go_sem, hc, hn, hn'])
       | ((with_reducible refine And.intro ?_ ?_); focus omega))
      exact ⟨(r, c1), rfl, rfl, hr⟩
end Go.AW
namespace Go.AW
open IntWalk
set_option maxRecDepth 20000
theorem conv_u8 (x : Int) (h : 0 ≤ x ∧ x ≤ 255) : P.int .u8 (IntKind.u8.wrap x) = eb (UInt8.ofNat x.toNat) := by
  unfold eb
  rw [u8_in _ (by omega)]
  congr 1
  have : (UInt8.ofNat x.toNat).toNat = x.toNat := by rw [UInt8.toNat_ofNat']; exact Nat.mod_eq_of_lt (by omega)
  rw [this]; omega
theorem sBytes_ex (c : Cur) : ∃ r : List UInt8 × Cur, Ret PG f_spec_l01Bytes [c.a, aI 3] (.o (.own 1 (r.1.map eb))) [r.2.o] ∧ r.1.length ≤ 4 := by
  refine ex_of ?_
  have b1 := belowV_in c 4
  have e1 : IntKind.i64.wrap (3 + 1) = 4 := i64_in _ (by omega)
  refine p_spec_l01Bytes rfl rfl ?_
  simp only [seval, go_sem, i_spec_l01Bytes, e1]
  repeat' (first
   | ((with_reducible_and_instances first | refine go_br (fun hc => ?_) (fun hc => ?_) | refine go_grd (fun hc => ?_) (fun hc => ?_) | refine go_dgrd (fun hc => ?_) (fun hc => ?_)) <;> (try simp only [decide_eq_true_eq, decide_eq_false_iff_not, Bool.not_eq_true', Bool.not_eq_false'] at hc) <;> simp only [seval, go_sem, hc])
   | ((with_reducible_and_instances first | refine go_use (sBelow_ret _ _) ?_); simp only [seval, go_sem]))
  refine go_lp (β := Cur × List UInt8 × Int) (fun b => [(5, .sl 7 b.2.1.length 0 b.2.1.length), (6, .p (.int .i64 b.2.2))])
    (fun b => [(900, 0, .box [.p (.sl 1 (b.1.b.map eb)), .p (.int .i64 b.1.i), .p (.int .i64 b.1.h)] false), (7, b.2.1.length, .arr 1 (b.2.1.map eb) false)])
    (fun b => 0 ≤ b.2.2 ∧ b.2.1.length + b.2.2 ≤ 4) (fun b => b.2.2.toNat) ((belowV c 4).2, [], (belowV c 4).1) ?_ ?_ ?_
  · rfl
  · exact ⟨by simp only; omega, by simp only [List.length_nil]; omega⟩
  · rintro ⟨c1, l, n⟩ ⟨hn0, hln⟩
    simp only at hn0 hln
    by_cases hn : 0 < n
    · have hn' : n > 0 := hn
      have e1 : IntKind.i64.wrap (n - 1) = n - 1 := i64_in _ (by omega)
      have d1 := byteV_in c1
      have e2 := conv_u8 (byteV c1).1 d1
      simp only [seval, go_sem, hn, hn', e1, List.length_map, List.length_append, List.length_cons, List.length_nil]
      repeat' (first
       | ((with_reducible_and_instances first | refine go_br (fun hc => ?_) (fun hc => ?_) | refine go_grd (fun hc => ?_) (fun hc => ?_) | refine go_dgrd (fun hc => ?_) (fun hc => ?_)) <;> (try simp only [decide_eq_true_eq, decide_eq_false_iff_not, Bool.not_eq_true', Bool.not_eq_false'] at hc) <;> simp only [seval, go_sem, hc, hn, hn', e1, List.length_map, List.length_append, List.length_cons, List.length_nil])
       | ((with_reducible_and_instances first | refine go_use (sByte_ret _) ?_); simp only [seval, go_sem, hn, hn', e1, List.length_map, List.length_append, List.length_cons, List.length_nil])
       | ((with_reducible refine And.intro ?_ ?_); focus omega))
      refine ⟨((byteV c1).2, l ++ [UInt8.ofNat (byteV c1).1.toNat], n - 1), ?_, ⟨by simp only; omega, by simp only [List.length_append, List.length_cons, List.length_nil]; omega⟩, by simp only; omega⟩
      simp only [List.length_append, List.length_cons, List.length_nil, List.map_append, List.map_cons, List.map_nil]
      rw [← e2]; rfl
    · have hn' : ¬ n > 0 := hn
      simp only [seval, go_sem, hn, hn', List.length_map]
      repeat' (first
       | ((with_reducible_and_instances first | refine go_br (fun hc => ?_) (fun hc => ?_) | refine go_grd (fun hc => ?_) (fun hc => ?_) | refine go_dgrd (fun hc => ?_) (fun hc => ?_)) <;> (try simp only [decide_eq_true_eq, decide_eq_false_iff_not, Bool.not_eq_true', Bool.not_eq_false'] at hc) <;> simp only [seval, go_sem, hc, hn, hn', List.length_map])
       | ((with_reducible refine And.intro ?_ ?_); focus omega))
      exact ⟨(l, c1), rfl, rfl, by simp only; omega⟩
def gSlot (s : Slot) : Prop := s.trace.length ≤ 6 ∧ s.mti.length ≤ 4 ∧ 1 ≤ s.reply.length ∧ s.reply.length ≤ 200
theorem sSlotsCopy_ret (l : List Slot) (hl : l.length ≤ 100) (hg : ∀ s ∈ l, gSlot s) : Ret PG f_spec_l08Copy [aSlots l] (.o (.own 3 (l.map Slot.p))) [] := by
  refine exact_of (p_spec_l08Copy rfl rfl ?_)
  simp only [seval, go_sem, i_spec_l08Copy]
  refine go_lp (β := Nat) (fun i => [(3, .sl 6 i 0 i), (9, .p (.int .i64 i))]) (fun i => [(6, i, .arr 3 ((l.take i).map Slot.p) false)]) (fun i => i ≤ l.length) (fun i => l.length - i) 0 ?_ ?_ ?_
  · rfl
  · simp
  · intro i hi
    have el : (l.take i).length = i := by simp; omega
    by_cases h1 : (i : Int) < l.length
    · have h' : i < l.length := by omega
      have hgi := hg _ (at_mem h')
      have hgd := getD_map Slot.p l i h'
      have et : (l.take (i + 1)).map Slot.p = (l.take i).map Slot.p ++ [(l[i]).p] := by rw [take_at l i h']; simp only [List.map_append, List.map_cons, List.map_nil]
      generalize l[i] = s at *
      obtain ⟨tr, mti, rp⟩ := s
      cases rp with
      | nil => have := hgi.2.2.1; simp at this
      | cons x r =>
        have hr := hgi.2.2.2
        simp only [List.length_cons] at hr
        simp only [seval, go_sem, h1, hgd, Slot.p, el, wrap_succ i (by omega), List.length_map, List.length_append, List.length_cons, List.length_nil]
        repeat' (first
         | ((with_reducible_and_instances first | refine go_br (fun hc => ?_) (fun hc => ?_) | refine go_grd (fun hc => ?_) (fun hc => ?_) | refine go_dgrd (fun hc => ?_) (fun hc => ?_)) <;> (try simp only [decide_eq_true_eq, decide_eq_false_iff_not, Bool.not_eq_true', Bool.not_eq_false'] at hc) <;> simp only [seval, go_sem, hc, h1, hgd, Slot.p, el, wrap_succ i (by omega), List.length_map, List.length_append, List.length_cons, List.length_nil])
         | ((with_reducible refine And.intro ?_ ?_); focus omega))
        refine ⟨i + 1, by rw [et]; rfl, h', by (try dsimp only); omega⟩
    · have e : i = l.length := by omega
      subst e
      simp only [seval, go_sem, List.take_length, List.length_map, Int.lt_irrefl]
      repeat' (first
       | ((with_reducible_and_instances first | refine go_br (fun hc => ?_) (fun hc => ?_) | refine go_grd (fun hc => ?_) (fun hc => ?_) | refine go_dgrd (fun hc => ?_) (fun hc => ?_)) <;> (try simp only [decide_eq_true_eq, decide_eq_false_iff_not, Bool.not_eq_true', Bool.not_eq_false'] at hc) <;> simp only [seval, go_sem, hc, List.take_length, List.length_map, Int.lt_irrefl])
       | ((with_reducible refine And.intro ?_ ?_); focus omega))
theorem slot_fit {l : List Slot} (hl : l.length ≤ 100) (hg : ∀ s ∈ l, gSlot s) : SFit l :=
  ⟨by omega, fun s h => by have := (hg s h).1; omega, fun s h => by have := (hg s h).2.1; omega, fun s h => by have := (hg s h).2.2.2; omega⟩
theorem sSlotPut_ex (l : List Slot) (s : Slot) (hl : l.length ≤ 6) (g1 : ∀ x ∈ l, gSlot x) (g2 : gSlot s) :
    ∃ x : List Slot × Bool, Ret PG f_spec_SlotPut [aSlots l, .v s.p] (.tup [.o (.p (.sl 3 (x.1.map Slot.p))), oB x.2]) [] ∧ (x.2 = true → slotsOk x.1 ∧ ∀ y ∈ x.1, gSlot y) := by
  refine exw_of ?_
  have c1 := sSlotsCopy_ret l (by omega) g1
  have c2 := sSlotsCopy_ret (l ++ [s]) (by simp; omega) (app_all g1 g2)
  have c3 := sslotsOk_ret (l ++ [s]) (slot_fit (by simp; omega) (app_all g1 g2))
  simp only [aSlots, List.map_append, List.map_cons, List.map_nil, Slot.p] at c2 c3
  have ht : List.take (l.length + 1) (l.map Slot.p ++ [P.agg [P.str s.trace, P.str s.mti, P.sl 1 (s.reply.map eb)]]) = l.map Slot.p ++ [P.agg [P.str s.trace, P.str s.mti, P.sl 1 (s.reply.map eb)]] := List.take_of_length_le (by simp)
  refine p_spec_SlotPut rfl rfl ?_
  simp only [seval, go_sem, i_spec_SlotPut, Slot.p]
  repeat' (first
   | ((with_reducible_and_instances first | refine go_br (fun hc => ?_) (fun hc => ?_) | refine go_grd (fun hc => ?_) (fun hc => ?_) | refine go_dgrd (fun hc => ?_) (fun hc => ?_)) <;> (try simp only [decide_eq_true_eq, decide_eq_false_iff_not, Bool.not_eq_true', Bool.not_eq_false'] at hc) <;> simp only [seval, go_sem, hc, ht, List.length_map, List.length_append, List.length_cons, List.length_nil, Slot.p])
   | ((with_reducible_and_instances first | refine go_use (c1) ?_ | refine go_use (c2) ?_ | refine go_use (c3) ?_); simp only [seval, go_sem, ht, List.length_map, List.length_append, List.length_cons, List.length_nil, Slot.p])
   | ((with_reducible refine And.intro ?_ ?_); focus omega))
  · exact ⟨([], false), rfl, rfl, fun g => by simp at g⟩
  · rw [tf_iff] at hc
    exact ⟨(l ++ [s], true), rfl, by simp only [R.wk, R.wks, O.wk, List.map_append, List.map_cons, List.map_nil, Slot.p], fun _ => ⟨hc, app_all g1 g2⟩⟩
end Go.AW
namespace Go.AW
open IntWalk
set_option maxRecDepth 20000
theorem sSlot_ex (c : Cur) : ∃ r : Slot × Cur, Ret PG f_spec_l08Slot [c.a] (rR [.str r.1.trace, .str r.1.mti, .sl 1 (r.1.reply.map eb)]) [r.2.o] ∧ gSlot r.1 := by
  refine exw_of ?_
  have h1 := sStr_ret c [[48, 48, 48, 48, 48, 49], [48, 48, 48, 48, 48, 50], [48, 48, 48, 48, 48, 51], [49, 50, 51, 52, 53, 54]] (by simp)
  have h2 := strV_in c [[48, 48, 48, 48, 48, 49], [48, 48, 48, 48, 48, 50], [48, 48, 48, 48, 48, 51], [49, 50, 51, 52, 53, 54]] (by simp)
  generalize strV c [[48, 48, 48, 48, 48, 49], [48, 48, 48, 48, 48, 50], [48, 48, 48, 48, 48, 51], [49, 50, 51, 52, 53, 54]] (by simp) = v at *
  obtain ⟨tr, c1⟩ := v
  have h3 := sStr_ret c1 [[48, 49, 48, 48], [48, 50, 50, 48], [48, 50, 48, 48]] (by simp)
  have h4 := strV_in c1 [[48, 49, 48, 48], [48, 50, 50, 48], [48, 50, 48, 48]] (by simp)
  generalize strV c1 [[48, 49, 48, 48], [48, 50, 50, 48], [48, 50, 48, 48]] (by simp) = w at *
  obtain ⟨mti, c2⟩ := w
  obtain ⟨⟨b, c3⟩, h5, h6⟩ := sBytes_ex c2
  simp only [List.map_cons, List.map_nil, es] at h1 h2 h3 h4 h5 h6
  refine p_spec_l08Slot rfl rfl ?_
  simp only [seval, go_sem, i_spec_l08Slot]
  repeat' (first
   | ((with_reducible_and_instances first | refine go_br (fun hc => ?_) (fun hc => ?_) | refine go_grd (fun hc => ?_) (fun hc => ?_) | refine go_dgrd (fun hc => ?_) (fun hc => ?_)) <;> (try simp only [decide_eq_true_eq, decide_eq_false_iff_not, Bool.not_eq_true', Bool.not_eq_false'] at hc) <;> simp only [seval, go_sem, hc, List.length_map, List.length_append, List.length_cons, List.length_nil])
   | ((with_reducible_and_instances first | refine go_use (h1) ?_ | refine go_use (h3) ?_ | refine go_use (h5) ?_); simp only [seval, go_sem, List.length_map, List.length_append, List.length_cons, List.length_nil])
   | ((with_reducible refine And.intro ?_ ?_); focus omega))
  have ht : List.take (b.length + 1) (b.map eb ++ [P.int .u8 1]) = b.map eb ++ [P.int .u8 1] := List.take_of_length_le (by simp)
  have hm : b.map eb ++ [P.int .u8 1] = (b ++ [1]).map eb := by simp [eb]
  refine ⟨(⟨tr, mti, b ++ [1]⟩, c3), rfl, ?_, rfl, ?_, ?_, by simp, by simp; omega⟩
  · simp only [R.wk, O.wk, List.map_cons, List.map_nil]
    rw [← hm]; try rw [ht]
    try rfl
  · have : ∀ s ∈ ([[48, 48, 48, 48, 48, 49], [48, 48, 48, 48, 48, 50], [48, 48, 48, 48, 48, 51], [49, 50, 51, 52, 53, 54]] : List Str), s.length ≤ 6 := by decide
    exact this _ h2
  · have : ∀ s ∈ ([[48, 49, 48, 48], [48, 50, 50, 48], [48, 50, 48, 48]] : List Str), s.length ≤ 4 := by decide
    exact this _ h4
theorem sSlots_ex (c : Cur) : ∃ r : List Slot × Cur, Ret PG f_spec_l08Draw [c.a] (.o (.p (.sl 3 (r.1.map Slot.p)))) [r.2.o] ∧ (slotsOk r.1 ∧ ∀ y ∈ r.1, gSlot y) := by
  refine exw_of ?_
  have b1 := belowV_in c 5
  have ok0 : slotsOk [] := ⟨by simp, by simp, by intro i h; simp at h⟩
  refine p_spec_l08Draw rfl rfl ?_
  simp only [seval, go_sem, i_spec_l08Draw]
  repeat' (first
   | ((with_reducible_and_instances first | refine go_br (fun hc => ?_) (fun hc => ?_) | refine go_grd (fun hc => ?_) (fun hc => ?_) | refine go_dgrd (fun hc => ?_) (fun hc => ?_)) <;> (try simp only [decide_eq_true_eq, decide_eq_false_iff_not, Bool.not_eq_true', Bool.not_eq_false'] at hc) <;> simp only [seval, go_sem, hc])
   | ((with_reducible_and_instances first | refine go_use (sBelow_ret _ _) ?_); simp only [seval, go_sem]))
  refine go_lm (β := Cur × List Slot × Bool × Int × Bool) (fun b => [(3, if b.2.2.1 then .sl 7 0 0 0 else .p (.sl 3 (b.2.1.map Slot.p))), (4, .p (.int .i64 b.2.2.2.1))])
    (fun b => (900, 0, .box [.p (.sl 1 (b.1.b.map eb)), .p (.int .i64 b.1.i), .p (.int .i64 b.1.h)] false) :: if b.2.2.1 then [(7, 0, .arr 3 [] b.2.2.2.2)] else [])
    (fun b => slotsOk b.2.1 ∧ (∀ y ∈ b.2.1, gSlot y) ∧ (b.2.2.1 = true → b.2.1 = []) ∧ 0 ≤ b.2.2.2.1 ∧ b.2.2.2.1 < 5) (fun b => b.2.2.2.1.toNat) ((belowV c 5).2, [], true, (belowV c 5).1, false) ?_ ?_ ?_
  · rfl
  · exact ⟨ok0, by simp, fun _ => rfl, by simp only; omega, by simp only; omega⟩
  · rintro ⟨c1, l, f, n, z⟩ ⟨hl, hg, hf, hn0, hn5⟩
    simp only at hl hg hf hn0 hn5
    by_cases hn : 0 < n
    · have hn' : n > 0 := hn
      have e1 : IntKind.i64.wrap (n - 1) = n - 1 := i64_in _ (by omega)
      obtain ⟨⟨h, c2⟩, h1, h2⟩ := sSlot_ex c1
      simp only [List.map_cons, List.map_nil] at h1 h2
      have hl6 := hl.1
      obtain ⟨⟨l', d⟩, h3, h4⟩ := sSlotPut_ex l h (by omega) hg h2
      simp only [Slot.p] at h3
      simp only at h4
      cases d
      · cases f
        · simp only [seval, go_sem, hn, hn', e1, Slot.p]
          repeat' (first
           | ((with_reducible_and_instances first | refine go_br (fun hc => ?_) (fun hc => ?_) | refine go_grd (fun hc => ?_) (fun hc => ?_) | refine go_dgrd (fun hc => ?_) (fun hc => ?_)) <;> (try simp only [decide_eq_true_eq, decide_eq_false_iff_not, Bool.not_eq_true', Bool.not_eq_false'] at hc) <;> simp only [seval, go_sem, hc, hn, hn', e1, Slot.p])
           | ((with_reducible_and_instances first | refine go_use (h1) ?_ | refine go_use (h3) ?_); simp only [seval, go_sem, hn, hn', e1, Slot.p])
           | ((with_reducible refine And.intro ?_ ?_); focus omega))
          exact ⟨(c2, l, false, n - 1, z), rfl, ⟨hl, hg, by simp, by simp only; omega, by simp only; omega⟩, by simp only; omega⟩
        · have hl0 := hf rfl
          subst hl0
          simp only [aSlots, List.map_nil] at h3
          simp only [seval, go_sem, hn, hn', e1, Slot.p]
          repeat' (first
           | ((with_reducible_and_instances first | refine go_br (fun hc => ?_) (fun hc => ?_) | refine go_grd (fun hc => ?_) (fun hc => ?_) | refine go_dgrd (fun hc => ?_) (fun hc => ?_)) <;> (try simp only [decide_eq_true_eq, decide_eq_false_iff_not, Bool.not_eq_true', Bool.not_eq_false'] at hc) <;> simp only [seval, go_sem, hc, hn, hn', e1, Slot.p])
           | ((with_reducible_and_instances first | refine go_use (h1) ?_ | refine go_use (h3) ?_); simp only [seval, go_sem, hn, hn', e1, Slot.p])
           | ((with_reducible refine And.intro ?_ ?_); focus omega))
          exact ⟨(c2, [], true, n - 1, true), rfl, ⟨hl, hg, fun _ => rfl, by simp only; omega, by simp only; omega⟩, by simp only; omega⟩
      · obtain ⟨k1, k2⟩ := h4 rfl
        cases f
        · simp only [seval, go_sem, hn, hn', e1, Slot.p]
          repeat' (first
           | ((with_reducible_and_instances first | refine go_br (fun hc => ?_) (fun hc => ?_) | refine go_grd (fun hc => ?_) (fun hc => ?_) | refine go_dgrd (fun hc => ?_) (fun hc => ?_)) <;> (try simp only [decide_eq_true_eq, decide_eq_false_iff_not, Bool.not_eq_true', Bool.not_eq_false'] at hc) <;> simp only [seval, go_sem, hc, hn, hn', e1, Slot.p])
           | ((with_reducible_and_instances first | refine go_use (h1) ?_ | refine go_use (h3) ?_); simp only [seval, go_sem, hn, hn', e1, Slot.p])
           | ((with_reducible refine And.intro ?_ ?_); focus omega))
          exact ⟨(c2, l', false, n - 1, z), rfl, ⟨k1, k2, by simp, by simp only; omega, by simp only; omega⟩, by simp only; omega⟩
        · have hl0 := hf rfl
          subst hl0
          simp only [aSlots, List.map_nil] at h3
          simp only [seval, go_sem, hn, hn', e1, Slot.p]
          repeat' (first
           | ((with_reducible_and_instances first | refine go_br (fun hc => ?_) (fun hc => ?_) | refine go_grd (fun hc => ?_) (fun hc => ?_) | refine go_dgrd (fun hc => ?_) (fun hc => ?_)) <;> (try simp only [decide_eq_true_eq, decide_eq_false_iff_not, Bool.not_eq_true', Bool.not_eq_false'] at hc) <;> simp only [seval, go_sem, hc, hn, hn', e1, Slot.p])
           | ((with_reducible_and_instances first | refine go_use (h1) ?_ | refine go_use (h3) ?_); simp only [seval, go_sem, hn, hn', e1, Slot.p])
           | ((with_reducible refine And.intro ?_ ?_); focus omega))
          exact ⟨(c2, l', false, n - 1, z), rfl, ⟨k1, k2, by simp, by simp only; omega, by simp only; omega⟩, by simp only; omega⟩
    · have hn' : ¬ n > 0 := hn
      cases f
      · simp only [seval, go_sem, hn, hn']
        repeat' (first
         | ((with_reducible_and_instances first | refine go_br (fun hc => ?_) (fun hc => ?_) | refine go_grd (fun hc => ?_) (fun hc => ?_) | refine go_dgrd (fun hc => ?_) (fun hc => ?_)) <;> (try simp only [decide_eq_true_eq, decide_eq_false_iff_not, Bool.not_eq_true', Bool.not_eq_false'] at hc) <;> simp only [seval, go_sem, hc, hn, hn'])
         | ((with_reducible refine And.intro ?_ ?_); focus omega))
        exact ⟨(l, c1), rfl, rfl, rfl, hl, hg⟩
      · have hl0 := hf rfl
        subst hl0
        cases z
        all_goals
          simp only [seval, go_sem, hn, hn']
          repeat' (first
           | ((with_reducible_and_instances first | refine go_br (fun hc => ?_) (fun hc => ?_) | refine go_grd (fun hc => ?_) (fun hc => ?_) | refine go_dgrd (fun hc => ?_) (fun hc => ?_)) <;> (try simp only [decide_eq_true_eq, decide_eq_false_iff_not, Bool.not_eq_true', Bool.not_eq_false'] at hc) <;> simp only [seval, go_sem, hc, hn, hn'])
           | ((with_reducible refine And.intro ?_ ?_); focus omega))
          exact ⟨([], c1), rfl, rfl, rfl, hl, hg⟩
def ids6 : List Str := [[49, 56], [50, 54], [51, 52], [52, 50], [53, 57], [54, 55]]
theorem sAcctId_ex (c : Cur) : ∃ r : Str × Cur, Ret PG f_spec_l09Id [c.a] (oS r.1) [r.2.o] ∧ r.1 ∈ ids6 := by
  refine ex_of ?_
  have h1 := sStr_ret c ids6 (by simp [ids6])
  have h2 := strV_in c ids6 (by simp [ids6])
  generalize strV c ids6 (by simp [ids6]) = v at *
  simp only [ids6, List.map_cons, List.map_nil, es] at h1
  refine p_spec_l09Id rfl rfl ?_
  simp only [seval, go_sem, i_spec_l09Id]
  repeat' (first
   | ((with_reducible_and_instances first | refine go_br (fun hc => ?_) (fun hc => ?_) | refine go_grd (fun hc => ?_) (fun hc => ?_) | refine go_dgrd (fun hc => ?_) (fun hc => ?_)) <;> (try simp only [decide_eq_true_eq, decide_eq_false_iff_not, Bool.not_eq_true', Bool.not_eq_false'] at hc) <;> simp only [seval, go_sem, hc])
   | ((with_reducible_and_instances first | refine go_use (h1) ?_); simp only [seval, go_sem]))
  exact ⟨v, rfl, rfl, h2⟩
end Go.AW
namespace Go.AW
open IntWalk
set_option maxRecDepth 20000
theorem stored_in (l : List Hold) : 0 ≤ stored l ∧ stored l ≤ 4611686018427387904 := by
  have key : ∀ (l : List Hold) (n : Int), 0 ≤ n ∧ n ≤ 4611686018427387904 → 0 ≤ l.foldl (fun n h => addSat n h.amount) n ∧ l.foldl (fun n h => addSat n h.amount) n ≤ 4611686018427387904 := by
    intro l
    induction l with
    | nil => intro n h; exact h
    | cons x l ih => intro n h; exact ih _ (addSat_money _ _)
  exact key l 0 (by omega)
theorem addSat_of (a b : Int) (ha : 0 ≤ a ∧ a ≤ 4611686018427387904) (hb : 0 ≤ b ∧ b ≤ 4611686018427387904) (h : a + b ≤ 4611686018427387904) : addSat a b = a + b := by
  unfold addSat clamp; omega
theorem acct_fit {a : Acct} (h : acctOk a) : a.Fit := by
  obtain ⟨h1, _, _, _, _, h6, h7, h8, _⟩ := h
  have r1 := ringOk_len h7
  have a1 := h1.1
  have b1 := h6.1
  have s1 := h8.1
  exact ⟨by omega, by omega, fun x hx => by have := (h6.2.1 x hx).1.2; unfold inr at this; omega, by omega, by omega, by omega,
    fun x hx => by have := (h8.2.1 x hx).1.2; omega, fun x hx => by have := (h8.2.1 x hx).2.1.2; omega, fun x hx => by have := (h8.2.1 x hx).2.2; unfold inr at this; omega⟩
theorem book_fit {b : Book} (h : bookOk b) : BFit b := ⟨by have := h.1; omega, fun a ha => acct_fit (h.2.1 a ha)⟩
theorem holds0 : holdsOk [] := ⟨by simp, by simp, by intro i h; simp at h⟩
theorem slots0 : slotsOk [] := ⟨by simp, by simp, by intro i h; simp at h⟩
theorem ids_ok : ∀ s ∈ ids6, acctIdOk s := by
  intro s hs
  have hd : digits s := by
    have : ∀ s ∈ ids6, s ≠ [] ∧ ∀ b ∈ s, digit b := by decide
    exact this s hs
  have h2 : s.length = 2 := by
    have : ∀ s ∈ ids6, s.length = 2 := by decide
    exact this s hs
  refine ⟨by omega, by omega, hd, ?_⟩
  have hdl : digits s.dropLast := by
    have : ∀ s ∈ ids6, s.dropLast ≠ [] ∧ ∀ b ∈ s.dropLast, digit b := by decide
    exact this s hs
  rw [luhn, tf_true hdl, if_pos rfl]
  have : ∀ s ∈ ids6, (10 - luhnS true s.dropLast.reverse % 10) % 10 = ((s.getLastD 0).toNat : Int) - 48 := by decide
  exact this s hs
theorem sAcctNew_ex (id : Str) (limit most mostSum buckets span : Int) (hi : acctIdOk id) (h1 : inr limit 0 9007199254740992) (h2 : inr most 0 1000) (h3 : inr mostSum 0 9007199254740992) (h4 : 1 ≤ buckets ∧ buckets ≤ 8) (h5 : 1 ≤ span ∧ span ≤ 1000) :
    ∃ r : Ring, Ret PG f_spec_AcctNew [aS id, aI limit, aI most, aI mostSum, aI buckets, aI span] (.tup [rR (Acct.c ⟨id, limit, 0, most, mostSum, [], r, []⟩), oB true]) [] ∧ ringOk r := by
  refine exw_of ?_
  obtain ⟨r, c1, hr⟩ := sRingNew_ex buckets span h4 h5
  have hl : (0 : Int) ≤ limit := h1.1
  have ok : acctOk ⟨id, limit, 0, most, mostSum, [], r, []⟩ := ⟨hi, h1, h2, h3, money0, holds0, hr, slots0, hl⟩
  have c2 := sAcctOk_ret _ (acct_fit ok)
  rw [tf_true ok] at c2
  simp only [Ring.c, Acct.p, List.map_cons, List.map_nil] at c1 c2
  refine p_spec_AcctNew rfl rfl ?_
  simp only [seval, go_sem, i_spec_AcctNew]
  repeat' (first
   | ((with_reducible_and_instances first | refine go_br (fun hc => ?_) (fun hc => ?_) | refine go_grd (fun hc => ?_) (fun hc => ?_) | refine go_dgrd (fun hc => ?_) (fun hc => ?_)) <;> (try simp only [decide_eq_true_eq, decide_eq_false_iff_not, Bool.not_eq_true', Bool.not_eq_false'] at hc) <;> simp only [seval, go_sem, hc])
   | ((with_reducible_and_instances first | refine go_use (c1) ?_ | refine go_use (c2) ?_); simp only [seval, go_sem]))
  exact ⟨r, rfl, rfl, hr⟩
def gAcct (a : Acct) : Prop := acctOk a ∧ (∀ h ∈ a.holds, gHold h) ∧ ∀ s ∈ a.slots, gSlot s
def limL : List Int := [100, 200, 60, 0, 9007199254740992]
def mostL : List Int := [2, 3, 5, 1000]
def sumL : List Int := [60, 120, 1000, 9007199254740992]
noncomputable def slotsV (c : Cur) : List Slot × Cur := (sSlots_ex c).choose
theorem sSlots_ret (c : Cur) : Ret PG f_spec_l08Draw [c.a] (.o (.p (.sl 3 ((slotsV c).1.map Slot.p)))) [(slotsV c).2.o] := (sSlots_ex c).choose_spec.1
theorem slotsV_ok (c : Cur) : slotsOk (slotsV c).1 ∧ ∀ y ∈ (slotsV c).1, gSlot y := (sSlots_ex c).choose_spec.2
theorem sAcct_ex (c : Cur) (id : Str) (hid : acctIdOk id) : ∃ x : Acct × Cur, Ret PG f_spec_l09Draw [c.a, aS id] (rR x.1.c) [x.2.o] ∧ (gAcct x.1 ∧ x.1.id = id) := by
  refine exw_of ?_
  have p1 := sPick_ret c limL (by simp [limL])
  have q1 := pickV_in c limL (by simp [limL])
  generalize pickV c limL (by simp [limL]) = v at *
  obtain ⟨limit, c1⟩ := v
  have p2 := sPick_ret c1 mostL (by simp [mostL])
  have q2 := pickV_in c1 mostL (by simp [mostL])
  generalize pickV c1 mostL (by simp [mostL]) = v at *
  obtain ⟨most, c2⟩ := v
  have p3 := sPick_ret c2 sumL (by simp [sumL])
  have q3 := pickV_in c2 sumL (by simp [sumL])
  generalize pickV c2 sumL (by simp [sumL]) = v at *
  obtain ⟨mostSum, c3⟩ := v
  have hlim : inr limit 0 9007199254740992 := by
    have : ∀ x ∈ limL, inr x 0 9007199254740992 := by unfold inr; decide
    exact this _ q1
  have hmost : inr most 0 1000 := by
    have : ∀ x ∈ mostL, inr x 0 1000 := by unfold inr; decide
    exact this _ q2
  have hsum : inr mostSum 0 9007199254740992 := by
    have : ∀ x ∈ sumL, inr x 0 9007199254740992 := by unfold inr; decide
    exact this _ q3
  have b1 := belowV_in c3 4
  have b2 := belowV_in (belowV c3 4).2 5
  have e1 : IntKind.i64.wrap (1 + (belowV c3 4).1) = 1 + (belowV c3 4).1 := i64_in _ (by omega)
  have e2 : IntKind.i64.wrap (1 + (belowV (belowV c3 4).2 5).1) = 1 + (belowV (belowV c3 4).2 5).1 := i64_in _ (by omega)
  obtain ⟨r0, p4, hr0⟩ := sAcctNew_ex id limit most mostSum (1 + (belowV c3 4).1) (1 + (belowV (belowV c3 4).2 5).1) hid hlim hmost hsum (by omega) (by omega)
  obtain ⟨⟨r, c5⟩, p5, hr⟩ := sRing_ex (belowV (belowV c3 4).2 5).2
  obtain ⟨⟨hs, c6⟩, p6, hhs, hgh⟩ := sHolds_ex c5
  have hh4 := hhs.1
  have p7 := sStored_ret hs (by simp only at hh4; omega)
  have p8 := sStored_ret [] (by simp)
  have hst := stored_in hs
  have hl0 := hlim
  unfold inr at hl0
  have fin : ∀ (holds : List Hold) (posted : Int) (slots : List Slot) (c' : Cur), holdsOk holds → (∀ h ∈ holds, gHold h) → 0 ≤ posted → posted + stored holds ≤ limit → slotsOk slots → (∀ s ∈ slots, gSlot s) → gAcct ⟨id, limit, posted, most, mostSum, holds, r, slots⟩ := by
    intro holds posted slots c' a1 a2 a3 a4 a5 a6
    have := stored_in holds
    exact ⟨⟨hid, hlim, hmost, hsum, by simp only [money, inr]; omega, a1, hr, a5, by simp only; rw [addSat_of _ _ (by omega) (by omega) (by omega)]; exact a4⟩, a2, a6⟩
  simp only [aIs, limL, mostL, sumL, ei, aHolds, Acct.c, Ring.c, List.map_cons, List.map_nil] at p1 p2 p3 p4 p5 p6 p7 p8 hr hhs hgh
  have s0 : stored [] = 0 := rfl
  have z0 : addSat (stored hs) 0 = stored hs := by rw [addSat_of _ _ (by omega) (by omega) (by omega)]; omega
  refine p_spec_l09Draw rfl rfl ?_
  simp only [seval, go_sem, i_spec_l09Draw]
  by_cases hA : stored hs ≤ limit
  · by_cases hB : limit > stored hs
    · have e3 : IntKind.i64.wrap (limit - stored hs) = limit - stored hs := i64_in _ (by omega)
      have e4 : IntKind.i64.wrap (limit - stored hs + 1) = limit - stored hs + 1 := i64_in _ (by omega)
      have bp := belowV_in (onceV c6 2).2 (limit - stored hs + 1)
      have bp1 := bp.2.2 (by omega)
      have bp2 : (belowV (onceV c6 2).2 (limit - stored hs + 1)).1 + stored hs ≤ limit := by omega
      repeat' (first
       | ((with_reducible_and_instances first | refine go_br (fun hc => ?_) (fun hc => ?_) | refine go_grd (fun hc => ?_) (fun hc => ?_) | refine go_dgrd (fun hc => ?_) (fun hc => ?_)) <;> (try simp only [decide_eq_true_eq, decide_eq_false_iff_not, Bool.not_eq_true', Bool.not_eq_false'] at hc) <;> simp only [seval, go_sem, hc, e1, e2, z0, hA, hB, e3, e4])
       | ((with_reducible_and_instances first | refine go_use (p1) ?_ | refine go_use (p2) ?_ | refine go_use (p3) ?_ | refine go_use (sBelow_ret _ _) ?_ | refine go_use (p4) ?_ | refine go_use (p5) ?_ | refine go_use (p6) ?_ | refine go_use (p7) ?_ | refine go_use (sAddSat_ret _ _) ?_ | refine go_use (sOnce_ret _ _) ?_ | refine go_use (sSlots_ret _) ?_); simp only [seval, go_sem, e1, e2, z0, hA, hB, e3, e4]))
      all_goals first
        | exact ⟨(⟨id, limit, _, most, mostSum, hs, r, []⟩, _), rfl, rfl, rfl, fin hs _ _ c hhs hgh bp.1 bp2 slots0 (by simp), rfl⟩
        | exact ⟨(⟨id, limit, _, most, mostSum, hs, r, (slotsV _).1⟩, _), rfl, rfl, rfl, fin hs _ _ c hhs hgh bp.1 bp2 (slotsV_ok _).1 (slotsV_ok _).2, rfl⟩
        | exact ⟨(⟨id, limit, 0, most, mostSum, hs, r, []⟩, _), rfl, rfl, rfl, fin hs _ _ c hhs hgh (Int.le_refl _) (by omega) slots0 (by simp), rfl⟩
        | exact ⟨(⟨id, limit, 0, most, mostSum, hs, r, (slotsV _).1⟩, _), rfl, rfl, rfl, fin hs _ _ c hhs hgh (Int.le_refl _) (by omega) (slotsV_ok _).1 (slotsV_ok _).2, rfl⟩
    · repeat' (first
       | ((with_reducible_and_instances first | refine go_br (fun hc => ?_) (fun hc => ?_) | refine go_grd (fun hc => ?_) (fun hc => ?_) | refine go_dgrd (fun hc => ?_) (fun hc => ?_)) <;> (try simp only [decide_eq_true_eq, decide_eq_false_iff_not, Bool.not_eq_true', Bool.not_eq_false'] at hc) <;> simp only [seval, go_sem, hc, e1, e2, z0, hA, hB])
       | ((with_reducible_and_instances first | refine go_use (p1) ?_ | refine go_use (p2) ?_ | refine go_use (p3) ?_ | refine go_use (sBelow_ret _ _) ?_ | refine go_use (p4) ?_ | refine go_use (p5) ?_ | refine go_use (p6) ?_ | refine go_use (p7) ?_ | refine go_use (sAddSat_ret _ _) ?_ | refine go_use (sOnce_ret _ _) ?_ | refine go_use (sSlots_ret _) ?_); simp only [seval, go_sem, e1, e2, z0, hA, hB]))
      all_goals first
        | exact ⟨(⟨id, limit, 0, most, mostSum, hs, r, []⟩, _), rfl, rfl, rfl, fin hs _ _ c hhs hgh (Int.le_refl _) (by omega) slots0 (by simp), rfl⟩
        | exact ⟨(⟨id, limit, 0, most, mostSum, hs, r, (slotsV _).1⟩, _), rfl, rfl, rfl, fin hs _ _ c hhs hgh (Int.le_refl _) (by omega) (slotsV_ok _).1 (slotsV_ok _).2, rfl⟩
  · rw [s0] at p8
    by_cases hB : limit > 0
    · have e3 : IntKind.i64.wrap (limit - 0) = limit := by rw [i64_in _ (by omega)]; omega
      have e4 : IntKind.i64.wrap (limit + 1) = limit + 1 := i64_in _ (by omega)
      have bp := belowV_in (onceV c6 2).2 (limit + 1)
      have bp1 := bp.2.2 (by omega)
      have bp2 : (belowV (onceV c6 2).2 (limit + 1)).1 + stored [] ≤ limit := by rw [s0]; omega
      repeat' (first
       | ((with_reducible_and_instances first | refine go_br (fun hc => ?_) (fun hc => ?_) | refine go_grd (fun hc => ?_) (fun hc => ?_) | refine go_dgrd (fun hc => ?_) (fun hc => ?_)) <;> (try simp only [decide_eq_true_eq, decide_eq_false_iff_not, Bool.not_eq_true', Bool.not_eq_false'] at hc) <;> simp only [seval, go_sem, hc, e1, e2, z0, hA, hB, e3, e4])
       | ((with_reducible_and_instances first | refine go_use (p1) ?_ | refine go_use (p2) ?_ | refine go_use (p3) ?_ | refine go_use (sBelow_ret _ _) ?_ | refine go_use (p4) ?_ | refine go_use (p5) ?_ | refine go_use (p6) ?_ | refine go_use (p7) ?_ | refine go_use (p8) ?_ | refine go_use (sAddSat_ret _ _) ?_ | refine go_use (sOnce_ret _ _) ?_ | refine go_use (sSlots_ret _) ?_); simp only [seval, go_sem, e1, e2, z0, hA, hB, e3, e4]))
      all_goals first
        | exact ⟨(⟨id, limit, _, most, mostSum, [], r, []⟩, _), rfl, rfl, rfl, fin [] _ _ c holds0 (by simp) bp.1 bp2 slots0 (by simp), rfl⟩
        | exact ⟨(⟨id, limit, _, most, mostSum, [], r, (slotsV _).1⟩, _), rfl, rfl, rfl, fin [] _ _ c holds0 (by simp) bp.1 bp2 (slotsV_ok _).1 (slotsV_ok _).2, rfl⟩
        | exact ⟨(⟨id, limit, 0, most, mostSum, [], r, []⟩, _), rfl, rfl, rfl, fin [] _ _ c holds0 (by simp) (Int.le_refl _) (by rw [s0]; omega) slots0 (by simp), rfl⟩
        | exact ⟨(⟨id, limit, 0, most, mostSum, [], r, (slotsV _).1⟩, _), rfl, rfl, rfl, fin [] _ _ c holds0 (by simp) (Int.le_refl _) (by rw [s0]; omega) (slotsV_ok _).1 (slotsV_ok _).2, rfl⟩
    · repeat' (first
       | ((with_reducible_and_instances first | refine go_br (fun hc => ?_) (fun hc => ?_) | refine go_grd (fun hc => ?_) (fun hc => ?_) | refine go_dgrd (fun hc => ?_) (fun hc => ?_)) <;> (try simp only [decide_eq_true_eq, decide_eq_false_iff_not, Bool.not_eq_true', Bool.not_eq_false'] at hc) <;> simp only [seval, go_sem, hc, e1, e2, z0, hA, hB])
       | ((with_reducible_and_instances first | refine go_use (p1) ?_ | refine go_use (p2) ?_ | refine go_use (p3) ?_ | refine go_use (sBelow_ret _ _) ?_ | refine go_use (p4) ?_ | refine go_use (p5) ?_ | refine go_use (p6) ?_ | refine go_use (p7) ?_ | refine go_use (p8) ?_ | refine go_use (sAddSat_ret _ _) ?_ | refine go_use (sOnce_ret _ _) ?_ | refine go_use (sSlots_ret _) ?_); simp only [seval, go_sem, e1, e2, z0, hA, hB]))
      all_goals first
        | exact ⟨(⟨id, limit, 0, most, mostSum, [], r, []⟩, _), rfl, rfl, rfl, fin [] _ _ c holds0 (by simp) (Int.le_refl _) (by rw [s0]; omega) slots0 (by simp), rfl⟩
        | exact ⟨(⟨id, limit, 0, most, mostSum, [], r, (slotsV _).1⟩, _), rfl, rfl, rfl, fin [] _ _ c holds0 (by simp) (Int.le_refl _) (by rw [s0]; omega) (slotsV_ok _).1 (slotsV_ok _).2, rfl⟩
end Go.AW
namespace Go.AW
open IntWalk
set_option maxRecDepth 20000
theorem sAcct_in (a : Acct) : rR a.c = rR a.c := rfl
noncomputable def acctV (c : Cur) (id : Str) (h : acctIdOk id) : Acct × Cur := (sAcct_ex c id h).choose
theorem sAcct_ret (c : Cur) (id : Str) (h : acctIdOk id) : Ret PG f_spec_l09Draw [c.a, aS id] (rR (acctV c id h).1.c) [(acctV c id h).2.o] := (sAcct_ex c id h).choose_spec.1
theorem acctV_ok (c : Cur) (id : Str) (h : acctIdOk id) : gAcct (acctV c id h).1 ∧ (acctV c id h).1.id = id := (sAcct_ex c id h).choose_spec.2
theorem ids_pw : ids6.Pairwise (fun a b => a < b) := by
  have : ids6.Pairwise (fun a b => Op.bytesLess a b = true) := by decide
  exact this.imp (fun h => by rw [bytesLess_eq] at h; exact of_decide_eq_true h)
theorem asc_sub {l : Book} (h : (l.map Acct.id).Sublist ids6) : asc Acct.id l := by
  have h1 := ids_pw.sublist h
  intro i hi
  have := List.pairwise_iff_getElem.1 h1 i (i + 1) (by simp; omega) (by simp; omega) (by omega)
  simpa using this
theorem book_sub {l : Book} (h : (l.map Acct.id).Sublist ids6) (h2 : ∀ a ∈ l, gAcct a) : bookOk l := by
  have := h.length_le
  simp only [List.length_map] at this
  exact ⟨by have : ids6.length = 6 := rfl; omega, fun a ha => (h2 a ha).1, asc_sub h⟩
def dW (c : Cur) : Book → List (Nat × Nat × Blk)
  | [] => [(900, 0, .box [.p (.sl 1 (c.b.map eb)), .p (.int .i64 c.i), .p (.int .i64 c.h)] false), (3, 0, .box [.p (.z 11)] false)]
  | a :: r => [(900, 0, .box [.p (.sl 1 (c.b.map eb)), .p (.int .i64 c.i), .p (.int .i64 c.h)] false), (3, 0, .box [.sl 22 r.length 0 (r.length + 1)] false), (22, r.length, .arr 11 ((a :: r).map Acct.p) false)]
theorem sBook_ex (c : Cur) : ∃ x : Book × Cur, Ret PG f_spec_l12Draw [c.a] (.agg [eachO x.1]) [x.2.o] ∧ ((x.1.map Acct.id).Sublist ids6 ∧ ∀ a ∈ x.1, gAcct a) := by
  refine ex_of ?_
  refine p_spec_l12Draw rfl rfl ?_
  simp only [seval, go_sem, i_spec_l12Draw]
  refine go_lp (β := Cur × Nat × Book) (fun b => [(9, .p (.int .i64 b.2.1))]) (fun b => dW b.1 b.2.2)
    (fun b => b.2.1 ≤ 6 ∧ (b.2.2.map Acct.id).Sublist (ids6.take b.2.1) ∧ ∀ a ∈ b.2.2, gAcct a) (fun b => 6 - b.2.1) (c, 0, []) ?_ ?_ ?_
  · rfl
  · exact ⟨Nat.zero_le _, by simp, by simp⟩
  · rintro ⟨c1, i, l⟩ ⟨hi, hs, hg⟩
    simp only at hi hs hg
    have hlen := hs.length_le
    simp only [List.length_map, List.length_take] at hlen
    by_cases h1 : (i : Int) < 6
    · have h1' : i < 6 := by omega
      have h6 : i < ids6.length := h1'
      have hgd : List.getD [P.str [49, 56], P.str [50, 54], P.str [51, 52], P.str [52, 50], P.str [53, 57], P.str [54, 55]] i default = P.str ids6[i] := getD_map es ids6 i h6
      have hid := ids_ok _ (at_mem h6)
      have et := take_at ids6 i h6
      have hs1 : (l.map Acct.id).Sublist (ids6.take (i + 1)) := by rw [et]; exact hs.trans (List.sublist_append_left _ _)
      generalize ids6[i] = id at *
      have p1 := sAcct_ret (onceV c1 3).2 id hid
      have p2 := acctV_ok (onceV c1 3).2 id hid
      generalize acctV (onceV c1 3).2 id hid = v at *
      obtain ⟨a, c2⟩ := v
      obtain ⟨p2, p3⟩ := p2
      simp only at p2 p3
      have hs2 : ((l ++ [a]).map Acct.id).Sublist (ids6.take (i + 1)) := by
        rw [et, List.map_append, List.map_cons, List.map_nil, p3]; exact hs.append (List.Sublist.refl _)
      simp only [Acct.c, List.map_cons, List.map_nil] at p1
      have hd : 6 - (i + 1) < 6 - i := by omega
      have hw : ((i : Int) + 1) = ((i + 1 : Nat) : Int) := by omega
      cases l with
      | nil =>
        simp only [seval, go_sem, h1, hgd, dW, wrap_succ i (by omega)]
        repeat' (first
         | ((with_reducible_and_instances first | refine go_br (fun hc => ?_) (fun hc => ?_) | refine go_grd (fun hc => ?_) (fun hc => ?_) | refine go_dgrd (fun hc => ?_) (fun hc => ?_)) <;> (try simp only [decide_eq_true_eq, decide_eq_false_iff_not, Bool.not_eq_true', Bool.not_eq_false'] at hc) <;> simp only [seval, go_sem, hc, h1, hgd, dW, wrap_succ i (by omega)])
         | ((with_reducible_and_instances first | refine go_use (sOnce_ret _ _) ?_ | refine go_use (p1) ?_); simp only [seval, go_sem, h1, hgd, dW, wrap_succ i (by omega)])
         | ((with_reducible refine And.intro ?_ ?_); focus omega))
        all_goals first
          | exact ⟨((onceV c1 3).2, i + 1, []), rfl, ⟨h1', hs1, hg⟩, hd⟩
          | exact ⟨(c2, i + 1, [a]), rfl, ⟨h1', hs2, by simpa using p2⟩, hd⟩
      | cons x r =>
        simp only [List.length_cons] at hlen
        simp only [seval, go_sem, h1, hgd, dW, wrap_succ i (by omega)]
        repeat' (first
         | ((with_reducible_and_instances first | refine go_br (fun hc => ?_) (fun hc => ?_) | refine go_grd (fun hc => ?_) (fun hc => ?_) | refine go_dgrd (fun hc => ?_) (fun hc => ?_)) <;> (try simp only [decide_eq_true_eq, decide_eq_false_iff_not, Bool.not_eq_true', Bool.not_eq_false'] at hc) <;> simp only [seval, go_sem, hc, h1, hgd, dW, wrap_succ i (by omega)])
         | ((with_reducible_and_instances first | refine go_use (sOnce_ret _ _) ?_ | refine go_use (p1) ?_); simp only [seval, go_sem, h1, hgd, dW, wrap_succ i (by omega)])
         | ((with_reducible refine And.intro ?_ ?_); focus omega))
        all_goals first
          | exact ⟨((onceV c1 3).2, i + 1, x :: r), rfl, ⟨h1', hs1, hg⟩, hd⟩
          | exact ⟨(c2, i + 1, x :: r ++ [a]), by simp only [List.cons_append, dW, List.length_append, List.length_cons, List.length_nil, List.map_append, List.map_cons, List.map_nil]; rfl, ⟨h1', hs2, app_all hg p2⟩, hd⟩
    · have e : ids6.take i = ids6 := List.take_of_length_le (by have : ids6.length = 6 := rfl; omega)
      rw [e] at hs
      cases l with
      | nil =>
        simp only [seval, go_sem, h1, dW]
        repeat' (first
         | ((with_reducible_and_instances first | refine go_br (fun hc => ?_) (fun hc => ?_) | refine go_grd (fun hc => ?_) (fun hc => ?_) | refine go_dgrd (fun hc => ?_) (fun hc => ?_)) <;> (try simp only [decide_eq_true_eq, decide_eq_false_iff_not, Bool.not_eq_true', Bool.not_eq_false'] at hc) <;> simp only [seval, go_sem, hc, h1, dW])
         | ((with_reducible refine And.intro ?_ ?_); focus omega))
        exact ⟨([], c1), by rw [eachO_nil], rfl, hs, hg⟩
      | cons x r =>
        simp only [seval, go_sem, h1, dW]
        repeat' (first
         | ((with_reducible_and_instances first | refine go_br (fun hc => ?_) (fun hc => ?_) | refine go_grd (fun hc => ?_) (fun hc => ?_) | refine go_dgrd (fun hc => ?_) (fun hc => ?_)) <;> (try simp only [decide_eq_true_eq, decide_eq_false_iff_not, Bool.not_eq_true', Bool.not_eq_false'] at hc) <;> simp only [seval, go_sem, hc, h1, dW])
         | ((with_reducible refine And.intro ?_ ?_); focus omega))
        exact ⟨(x :: r, c1), by rw [eachO_cons (by simp)]; simp [List.take_of_length_le], rfl, hs, hg⟩
end Go.AW
namespace Go.AW
open IntWalk
set_option maxRecDepth 20000
theorem cast0 : ((0 : Nat) : Int) = 0 := rfl
theorem sMakeNum_ex (b : List UInt8) (hb : b.length ≤ 1048576) (n : Int) (hn : 0 < n) : ∃ r : Int, Ret PG f_spec_MakeNum [aBs b, aI n] (oI r) [] ∧ (0 ≤ r ∧ r < n) := by
  refine ex_of ?_
  obtain ⟨h, p1, _⟩ := sNew_ex b hb
  have p2 := sBelow_ret ⟨b, 0, IntKind.i64.wrap (h + 777), hb, Nat.zero_le _⟩ n
  have q2 := belowV_in ⟨b, 0, IntKind.i64.wrap (h + 777), hb, Nat.zero_le _⟩ n
  simp only [Cur.a, Cur.o, cast0] at p2
  refine p_spec_MakeNum rfl rfl ?_
  simp only [seval, go_sem, i_spec_MakeNum]
  repeat' (first
   | ((with_reducible_and_instances first | refine go_br (fun hc => ?_) (fun hc => ?_) | refine go_grd (fun hc => ?_) (fun hc => ?_) | refine go_dgrd (fun hc => ?_) (fun hc => ?_)) <;> (try simp only [decide_eq_true_eq, decide_eq_false_iff_not, Bool.not_eq_true', Bool.not_eq_false'] at hc) <;> simp only [seval, go_sem, hc])
   | ((with_reducible_and_instances first | refine go_use (p1) ?_ | refine go_use (p2) ?_); simp only [seval, go_sem]))
  exact ⟨_, rfl, q2.1, q2.2.2 hn⟩
theorem id18 : acctIdOk [49, 56] := ids_ok _ (by simp [ids6])
theorem sMakeBook_ex (b : List UInt8) (hb : b.length ≤ 1048576) : ∃ x : Book, Ret PG f_spec_MakeBook [aBs b] (.agg [.own 11 (x.map Acct.p)]) [] ∧ (x ≠ [] ∧ bookOk x ∧ ∀ a ∈ x, gAcct a) := by
  refine ex_of ?_
  obtain ⟨h, p1, _⟩ := sNew_ex b hb
  obtain ⟨⟨l, c1⟩, p2, q1, q2⟩ := sBook_ex ⟨b, 0, h, hb, Nat.zero_le _⟩
  have p3 := sAcct_ret c1 [49, 56] id18
  have q3 := acctV_ok c1 [49, 56] id18
  generalize acctV c1 [49, 56] id18 = v at *
  obtain ⟨a, c2⟩ := v
  simp only [Cur.a, Cur.o, cast0, Acct.c, List.map_cons, List.map_nil] at p2 p3 q1 q2 q3
  cases l with
  | nil =>
    rw [eachO_nil] at p2
    refine p_spec_MakeBook rfl rfl ?_
    simp only [seval, go_sem, i_spec_MakeBook]
    repeat' (first
     | ((with_reducible_and_instances first | refine go_br (fun hc => ?_) (fun hc => ?_) | refine go_grd (fun hc => ?_) (fun hc => ?_) | refine go_dgrd (fun hc => ?_) (fun hc => ?_)) <;> (try simp only [decide_eq_true_eq, decide_eq_false_iff_not, Bool.not_eq_true', Bool.not_eq_false'] at hc) <;> simp only [seval, go_sem, hc])
     | ((with_reducible_and_instances first | refine go_use (p1) ?_ | refine go_use (p2) ?_ | refine go_use (p3) ?_); simp only [seval, go_sem])
     | ((with_reducible refine And.intro ?_ ?_); focus omega))
    exact ⟨[a], rfl, by simp, book_sub (by simp only [List.map_cons, List.map_nil, q3.2]; decide) (by simpa using q3.1), by simpa using q3.1⟩
  | cons x r =>
    rw [eachO_cons (by simp)] at p2
    have hne : ¬ ((r.length : Int) + 1 = 0) := by omega
    simp only [List.map_cons] at p2
    refine p_spec_MakeBook rfl rfl ?_
    simp only [seval, go_sem, i_spec_MakeBook]
    repeat' (first
     | ((with_reducible_and_instances first | refine go_br (fun hc => ?_) (fun hc => ?_) | refine go_grd (fun hc => ?_) (fun hc => ?_) | refine go_dgrd (fun hc => ?_) (fun hc => ?_)) <;> (try simp only [decide_eq_true_eq, decide_eq_false_iff_not, Bool.not_eq_true', Bool.not_eq_false'] at hc) <;> simp only [seval, go_sem, hc, hne, List.length_cons, List.length_map, Int.natCast_add])
     | ((with_reducible_and_instances first | refine go_use (p1) ?_ | refine go_use (p2) ?_ | refine go_use (p3) ?_); simp only [seval, go_sem, hne, List.length_cons, List.length_map, Int.natCast_add])
     | ((with_reducible refine And.intro ?_ ?_); focus omega))
    exact ⟨x :: r, rfl, by simp, book_sub q1 q2, q2⟩
end Go.AW
namespace Go.AW
open IntWalk
set_option maxRecDepth 20000
def trL : List Str := [[48, 48, 48, 48, 48, 49], [48, 48, 48, 48, 48, 50], [48, 48, 48, 48, 48, 51], [48, 48, 48, 48, 48, 52], [48, 48, 48, 48, 48, 53], [48, 48, 48, 48, 48, 54], [48, 48, 48, 48, 48, 55], [48, 48, 48, 48, 48, 56]]
structure GReq (q : Req) : Prop where
  op : 1 ≤ q.op ∧ q.op ≤ 8
  mti : q.mti = (opOf q.op).mti
  acct : acctIdOk q.acct
  trace : q.trace ∈ trL
  hold : (q.op ≤ 6 ∧ holdIdOk q.hold) ∨ (¬ q.op ≤ 6 ∧ q.hold = [])
  amount : (q.op ≤ 4 ∧ 0 ≤ q.amount ∧ q.amount < 100) ∨ (¬ q.op ≤ 4 ∧ q.amount = 0)
  ttl : (q.op = 1 ∧ 0 ≤ q.ttl ∧ q.ttl < 100) ∨ (¬ q.op = 1 ∧ q.ttl = 0)
  other : (q.op = 6 ∧ acctIdOk q.other) ∨ (¬ q.op = 6 ∧ q.other = [])
theorem op_cases {op : Int} (h : 1 ≤ op ∧ op ≤ 8) : op = 1 ∨ op = 2 ∨ op = 3 ∨ op = 4 ∨ op = 5 ∨ op = 6 ∨ op = 7 ∨ op = 8 := by omega
theorem greq_ok {q : Req} (g : GReq q) : reqOk q := by
  obtain ⟨h1, h2, h3, h4, h5, h6, h7, h8⟩ := g
  have ht : wide q.trace 6 := by
    have : ∀ s ∈ trL, (s ≠ [] ∧ ∀ b ∈ s, digit b) ∧ (s.length : Int) = 6 := by decide
    exact this _ h4
  obtain ⟨op, acct, other, hold, trace, mti, amount, ttl⟩ := q
  simp only at *
  have hu : ∀ no, uses op no ↔ no ∈ (opOf op).fields := fun no => Iff.rfl
  rcases op_cases h1 with rfl | rfl | rfl | rfl | rfl | rfl | rfl | rfl <;>
    (refine ⟨by simp [opOf, opRows], h2, h3, ht, ?_, ?_, ?_, ?_⟩ <;> simp only [hu, opOf, opRows, inr] <;> simp <;> simp at * <;> first | assumption | omega | (simp_all; done) | (simp_all; omega))
theorem greq_fit {q : Req} (g : GReq q) : QFit q := by
  obtain ⟨h1, h2, h3, h4, h5, h6, h7, h8⟩ := g
  have ht : ∀ s ∈ trL, s.length ≤ 6 := by decide
  have ht := ht _ h4
  have a1 := h3.1
  refine ⟨by omega, ?_, ?_, by omega⟩
  · rcases h8 with ⟨_, h⟩ | ⟨_, h⟩
    · have := h.1; omega
    · rw [h]; simp
  · rcases h5 with ⟨_, h⟩ | ⟨_, h⟩
    · have := h.2; unfold inr at this; omega
    · rw [h]; simp
theorem sL11Op_ret (op : Int) : Ret PG f_spec_l11Op [aI op] (oB (tf (inr op 1 8))) [] := by
  refine exact_of (p_spec_l11Op rfl rfl ?_)
  simp only [seval, go_sem, i_spec_l11Op]
  repeat' (first
   | ((with_reducible_and_instances first | refine go_br (fun hc => ?_) (fun hc => ?_) | refine go_grd (fun hc => ?_) (fun hc => ?_) | refine go_dgrd (fun hc => ?_) (fun hc => ?_)) <;> (try simp only [decide_eq_true_eq, decide_eq_false_iff_not, Bool.not_eq_true', Bool.not_eq_false'] at hc) <;> simp only [seval, go_sem, hc])
   | ((with_reducible_and_instances first | refine go_use (sIn_ret _ _ _) ?_); simp only [seval, go_sem]))
theorem sL11Hold_ret (op : Int) : Ret PG f_spec_l11Hold [aI op] (oB (tf (inr op 1 6))) [] := by
  refine exact_of (p_spec_l11Hold rfl rfl ?_)
  simp only [seval, go_sem, i_spec_l11Hold]
  repeat' (first
   | ((with_reducible_and_instances first | refine go_br (fun hc => ?_) (fun hc => ?_) | refine go_grd (fun hc => ?_) (fun hc => ?_) | refine go_dgrd (fun hc => ?_) (fun hc => ?_)) <;> (try simp only [decide_eq_true_eq, decide_eq_false_iff_not, Bool.not_eq_true', Bool.not_eq_false'] at hc) <;> simp only [seval, go_sem, hc])
   | ((with_reducible_and_instances first | refine go_use (sL11Op_ret _) ?_); simp only [seval, go_sem]))
  · rw [tf_iff] at hc; unfold inr at hc; exact oB_d (by unfold inr; omega)
  · rw [tf_not] at hc; unfold inr at hc; exact oB_f (by unfold inr; omega)
theorem sL11Amount_ret (op : Int) : Ret PG f_spec_l11Amount [aI op] (oB (tf (inr op 1 4))) [] := by
  refine exact_of (p_spec_l11Amount rfl rfl ?_)
  simp only [seval, go_sem, i_spec_l11Amount]
  repeat' (first
   | ((with_reducible_and_instances first | refine go_br (fun hc => ?_) (fun hc => ?_) | refine go_grd (fun hc => ?_) (fun hc => ?_) | refine go_dgrd (fun hc => ?_) (fun hc => ?_)) <;> (try simp only [decide_eq_true_eq, decide_eq_false_iff_not, Bool.not_eq_true', Bool.not_eq_false'] at hc) <;> simp only [seval, go_sem, hc])
   | ((with_reducible_and_instances first | refine go_use (sIn_ret _ _ _) ?_); simp only [seval, go_sem]))
def mtiL : List Str := [[], [48, 49, 48, 48], [48, 49, 48, 48], [48, 50, 50, 48], [48, 50, 50, 48], [48, 50, 50, 48], [48, 50, 48, 48], [48, 49, 48, 48], [48, 50, 48, 48]]
theorem sMtis_ret : Ret PG f_spec_l11Mtis [] (.o (.p (.sl 1 (mtiL.map es)))) [] := by
  have h : Ret PG f_spec_l11Mtis [] (.o (.own 1 (mtiL.map es))) [] := by
    refine exact_of (p_spec_l11Mtis rfl rfl ?_)
    simp only [seval, go_sem, i_spec_l11Mtis]
    rfl
  exact h.wkO
theorem sOpMti_ret (op : Int) (h : 1 ≤ op ∧ op ≤ 8) : Ret PG f_spec_OpMti [aI op] (oS (opOf op).mti) [] := by
  have h1 : inr op 1 8 := h
  have e1 : 0 ≤ op := by omega
  have e2 : op < 9 := by omega
  have hl : mtiL.length = 9 := rfl
  have e3 : op.toNat < mtiL.length := by omega
  have hm := sMtis_ret
  have hgd := getD_map es mtiL op.toNat e3
  have hx : mtiL[op.toNat] = (opOf op).mti := by
    rcases op_cases h with rfl | rfl | rfl | rfl | rfl | rfl | rfl | rfl <;> rfl
  rw [hx] at hgd
  simp only [es] at hgd
  generalize mtiL = l at *
  refine exact_of (p_spec_OpMti rfl rfl ?_)
  simp only [seval, go_sem, i_spec_OpMti]
  repeat' (first
   | ((with_reducible_and_instances first | refine go_br (fun hc => ?_) (fun hc => ?_) | refine go_grd (fun hc => ?_) (fun hc => ?_) | refine go_dgrd (fun hc => ?_) (fun hc => ?_)) <;> (try simp only [decide_eq_true_eq, decide_eq_false_iff_not, Bool.not_eq_true', Bool.not_eq_false'] at hc) <;> simp only [seval, go_sem, hc, tf_true h1, e1, e2, hl, hgd, es])
   | ((with_reducible_and_instances first | refine go_use (sL11Op_ret _) ?_ | refine go_use (hm) ?_); simp only [seval, go_sem, tf_true h1, e1, e2, hl, hgd, es]))
noncomputable def acctIdV (c : Cur) : Str × Cur := (sAcctId_ex c).choose
theorem sAcctId_ret (c : Cur) : Ret PG f_spec_l09Id [c.a] (oS (acctIdV c).1) [(acctIdV c).2.o] := (sAcctId_ex c).choose_spec.1
theorem acctIdV_ok (c : Cur) : acctIdOk (acctIdV c).1 := ids_ok _ (sAcctId_ex c).choose_spec.2
noncomputable def holdIdV (c : Cur) : Str × Cur := (sHoldId_ex c).choose
theorem sHoldId_ret (c : Cur) : Ret PG f_spec_l07Id [c.a] (oS (holdIdV c).1) [(holdIdV c).2.o] := (sHoldId_ex c).choose_spec.1
theorem holdIdV_ok (c : Cur) : holdIdOk (holdIdV c).1 := (sHoldId_ex c).choose_spec.2.1
theorem sTrace_ex (c : Cur) : ∃ r : Str × Cur, Ret PG f_spec_l11Trace [c.a] (oS r.1) [r.2.o] ∧ r.1 ∈ trL := by
  refine ex_of ?_
  have h1 := sStr_ret c trL (by simp [trL])
  have h2 := strV_in c trL (by simp [trL])
  generalize strV c trL (by simp [trL]) = v at *
  simp only [trL, List.map_cons, List.map_nil, es] at h1
  refine p_spec_l11Trace rfl rfl ?_
  simp only [seval, go_sem, i_spec_l11Trace]
  repeat' (first
   | ((with_reducible_and_instances first | refine go_br (fun hc => ?_) (fun hc => ?_) | refine go_grd (fun hc => ?_) (fun hc => ?_) | refine go_dgrd (fun hc => ?_) (fun hc => ?_)) <;> (try simp only [decide_eq_true_eq, decide_eq_false_iff_not, Bool.not_eq_true', Bool.not_eq_false'] at hc) <;> simp only [seval, go_sem, hc])
   | ((with_reducible_and_instances first | refine go_use (h1) ?_); simp only [seval, go_sem]))
  exact ⟨v, rfl, rfl, h2⟩
noncomputable def traceV (c : Cur) : Str × Cur := (sTrace_ex c).choose
theorem sTrace_ret (c : Cur) : Ret PG f_spec_l11Trace [c.a] (oS (traceV c).1) [(traceV c).2.o] := (sTrace_ex c).choose_spec.1
theorem traceV_ok (c : Cur) : (traceV c).1 ∈ trL := (sTrace_ex c).choose_spec.2
theorem amt_ok (c : Cur) : 0 ≤ (belowV c 50).1 ∧ (belowV c 50).1 < 100 := by have := belowV_in c 50; omega
theorem ttl_ok (c : Cur) : 0 ≤ (belowV c 25).1 ∧ (belowV c 25).1 < 100 := by have := belowV_in c 25; omega
theorem sDraw_ex (c : Cur) : ∃ r : Req × Cur, Ret PG f_spec_l11Draw [c.a] (rR r.1.c) [r.2.o] ∧ GReq r.1 := by
  refine ex_of ?_
  have b1 := belowV_in c 8
  have p1 := sBelow_ret c 8
  generalize belowV c 8 = v at *
  obtain ⟨x, c1⟩ := v
  simp only at b1 p1
  obtain ⟨op, hopx⟩ : ∃ op, op = 1 + x := ⟨_, rfl⟩
  have e1 : IntKind.i64.wrap (1 + x) = op := by rw [← hopx]; exact i64_in _ (by omega)
  have hop : 1 ≤ op ∧ op ≤ 8 := by omega
  by_cases ho : (onceV c1 3).1 = true
  · have i16 : inr 1 1 6 := by decide
    have i14 : inr 1 1 4 := by decide
    have m1 := sOpMti_ret 1 (by omega)
    refine p_spec_l11Draw rfl rfl ?_
    simp only [seval, go_sem, i_spec_l11Draw]
    repeat' (first
     | ((with_reducible_and_instances first | refine go_br (fun hc => ?_) (fun hc => ?_) | refine go_grd (fun hc => ?_) (fun hc => ?_) | refine go_dgrd (fun hc => ?_) (fun hc => ?_)) <;> (try simp only [decide_eq_true_eq, decide_eq_false_iff_not, Bool.not_eq_true', Bool.not_eq_false'] at hc) <;> simp only [seval, go_sem, hc, e1, ho, tf_true i16, tf_true i14])
     | ((with_reducible_and_instances first | refine go_use (p1) ?_ | refine go_use (sBelow_ret _ _) ?_ | refine go_use (sOnce_ret _ _) ?_ | refine go_use (m1) ?_ | refine go_use (sAcctId_ret _) ?_ | refine go_use (sTrace_ret _) ?_ | refine go_use (sHoldId_ret _) ?_ | refine go_use (sL11Hold_ret _) ?_ | refine go_use (sL11Amount_ret _) ?_); simp only [seval, go_sem, e1, ho, tf_true i16, tf_true i14]))
    exact ⟨(⟨1, _, [], _, _, _, _, _⟩, _), rfl, rfl, ⟨(show (1 : Int) ≤ 1 ∧ (1 : Int) ≤ 8 by decide), rfl, acctIdV_ok _, traceV_ok _, .inl ⟨(show (1 : Int) ≤ 6 by decide), holdIdV_ok _⟩, .inl ⟨(show (1 : Int) ≤ 4 by decide), amt_ok _⟩, .inl ⟨rfl, ttl_ok _⟩, .inr ⟨(show ¬ (1 : Int) = 6 by decide), rfl⟩⟩⟩
  · rw [Bool.not_eq_true] at ho
    have mo := sOpMti_ret _ hop
    by_cases g1 : op = 1
    · subst g1
      have i16 : inr 1 1 6 := by decide
      have i14 : inr 1 1 4 := by decide
      refine p_spec_l11Draw rfl rfl ?_
      simp only [seval, go_sem, i_spec_l11Draw]
      repeat' (first
       | ((with_reducible_and_instances first | refine go_br (fun hc => ?_) (fun hc => ?_) | refine go_grd (fun hc => ?_) (fun hc => ?_) | refine go_dgrd (fun hc => ?_) (fun hc => ?_)) <;> (try simp only [decide_eq_true_eq, decide_eq_false_iff_not, Bool.not_eq_true', Bool.not_eq_false'] at hc) <;> simp only [seval, go_sem, hc, e1, ho, tf_true i16, tf_true i14])
       | ((with_reducible_and_instances first | refine go_use (p1) ?_ | refine go_use (sBelow_ret _ _) ?_ | refine go_use (sOnce_ret _ _) ?_ | refine go_use (mo) ?_ | refine go_use (sAcctId_ret _) ?_ | refine go_use (sTrace_ret _) ?_ | refine go_use (sHoldId_ret _) ?_ | refine go_use (sL11Hold_ret _) ?_ | refine go_use (sL11Amount_ret _) ?_); simp only [seval, go_sem, e1, ho, tf_true i16, tf_true i14]))
      exact ⟨(⟨1, _, [], _, _, _, _, _⟩, _), rfl, rfl, ⟨(show (1 : Int) ≤ 1 ∧ (1 : Int) ≤ 8 by decide), rfl, acctIdV_ok _, traceV_ok _, .inl ⟨(show (1 : Int) ≤ 6 by decide), holdIdV_ok _⟩, .inl ⟨(show (1 : Int) ≤ 4 by decide), amt_ok _⟩, .inl ⟨rfl, ttl_ok _⟩, .inr ⟨(show ¬ (1 : Int) = 6 by decide), rfl⟩⟩⟩
    · by_cases g6 : op = 6
      · subst g6
        have i16 : inr 6 1 6 := by decide
        have i14 : ¬ inr 6 1 4 := by decide
        refine p_spec_l11Draw rfl rfl ?_
        simp only [seval, go_sem, i_spec_l11Draw]
        repeat' (first
         | ((with_reducible_and_instances first | refine go_br (fun hc => ?_) (fun hc => ?_) | refine go_grd (fun hc => ?_) (fun hc => ?_) | refine go_dgrd (fun hc => ?_) (fun hc => ?_)) <;> (try simp only [decide_eq_true_eq, decide_eq_false_iff_not, Bool.not_eq_true', Bool.not_eq_false'] at hc) <;> simp only [seval, go_sem, hc, e1, ho, tf_true i16, tf_false i14])
         | ((with_reducible_and_instances first | refine go_use (p1) ?_ | refine go_use (sBelow_ret _ _) ?_ | refine go_use (sOnce_ret _ _) ?_ | refine go_use (mo) ?_ | refine go_use (sAcctId_ret _) ?_ | refine go_use (sTrace_ret _) ?_ | refine go_use (sHoldId_ret _) ?_ | refine go_use (sL11Hold_ret _) ?_ | refine go_use (sL11Amount_ret _) ?_); simp only [seval, go_sem, e1, ho, tf_true i16, tf_false i14]))
        exact ⟨(⟨6, _, _, _, _, _, 0, 0⟩, _), rfl, rfl, ⟨(show (1 : Int) ≤ 6 ∧ (6 : Int) ≤ 8 by decide), rfl, acctIdV_ok _, traceV_ok _, .inl ⟨(show (6 : Int) ≤ 6 by decide), holdIdV_ok _⟩, .inr ⟨(show ¬ (6 : Int) ≤ 4 by decide), rfl⟩, .inr ⟨(show ¬ (6 : Int) = 1 by decide), rfl⟩, .inl ⟨rfl, acctIdV_ok _⟩⟩⟩
      · by_cases g4 : op ≤ 4
        · have i16 : inr op 1 6 := ⟨hop.1, by omega⟩
          have i14 : inr op 1 4 := ⟨hop.1, by omega⟩
          refine p_spec_l11Draw rfl rfl ?_
          simp only [seval, go_sem, i_spec_l11Draw]
          repeat' (first
           | ((with_reducible_and_instances first | refine go_br (fun hc => ?_) (fun hc => ?_) | refine go_grd (fun hc => ?_) (fun hc => ?_) | refine go_dgrd (fun hc => ?_) (fun hc => ?_)) <;> (try simp only [decide_eq_true_eq, decide_eq_false_iff_not, Bool.not_eq_true', Bool.not_eq_false'] at hc) <;> simp only [seval, go_sem, hc, e1, ho, g1, g6, tf_true i16, tf_true i14])
           | ((with_reducible_and_instances first | refine go_use (p1) ?_ | refine go_use (sBelow_ret _ _) ?_ | refine go_use (sOnce_ret _ _) ?_ | refine go_use (mo) ?_ | refine go_use (sAcctId_ret _) ?_ | refine go_use (sTrace_ret _) ?_ | refine go_use (sHoldId_ret _) ?_ | refine go_use (sL11Hold_ret _) ?_ | refine go_use (sL11Amount_ret _) ?_); simp only [seval, go_sem, e1, ho, g1, g6, tf_true i16, tf_true i14]))
          exact ⟨(⟨op, _, [], _, _, _, _, 0⟩, _), rfl, rfl, ⟨hop, rfl, acctIdV_ok _, traceV_ok _, .inl ⟨i16.2, holdIdV_ok _⟩, .inl ⟨g4, amt_ok _⟩, .inr ⟨g1, rfl⟩, .inr ⟨g6, rfl⟩⟩⟩
        · have i14 : ¬ inr op 1 4 := fun g => g4 g.2
          by_cases g5 : op ≤ 6
          · have i16 : inr op 1 6 := ⟨hop.1, g5⟩
            refine p_spec_l11Draw rfl rfl ?_
            simp only [seval, go_sem, i_spec_l11Draw]
            repeat' (first
             | ((with_reducible_and_instances first | refine go_br (fun hc => ?_) (fun hc => ?_) | refine go_grd (fun hc => ?_) (fun hc => ?_) | refine go_dgrd (fun hc => ?_) (fun hc => ?_)) <;> (try simp only [decide_eq_true_eq, decide_eq_false_iff_not, Bool.not_eq_true', Bool.not_eq_false'] at hc) <;> simp only [seval, go_sem, hc, e1, ho, g1, g6, tf_true i16, tf_false i14])
             | ((with_reducible_and_instances first | refine go_use (p1) ?_ | refine go_use (sBelow_ret _ _) ?_ | refine go_use (sOnce_ret _ _) ?_ | refine go_use (mo) ?_ | refine go_use (sAcctId_ret _) ?_ | refine go_use (sTrace_ret _) ?_ | refine go_use (sHoldId_ret _) ?_ | refine go_use (sL11Hold_ret _) ?_ | refine go_use (sL11Amount_ret _) ?_); simp only [seval, go_sem, e1, ho, g1, g6, tf_true i16, tf_false i14]))
            exact ⟨(⟨op, _, [], _, _, _, 0, 0⟩, _), rfl, rfl, ⟨hop, rfl, acctIdV_ok _, traceV_ok _, .inl ⟨i16.2, holdIdV_ok _⟩, .inr ⟨g4, rfl⟩, .inr ⟨g1, rfl⟩, .inr ⟨g6, rfl⟩⟩⟩
          · have i16 : ¬ inr op 1 6 := fun g => g5 g.2
            refine p_spec_l11Draw rfl rfl ?_
            simp only [seval, go_sem, i_spec_l11Draw]
            repeat' (first
             | ((with_reducible_and_instances first | refine go_br (fun hc => ?_) (fun hc => ?_) | refine go_grd (fun hc => ?_) (fun hc => ?_) | refine go_dgrd (fun hc => ?_) (fun hc => ?_)) <;> (try simp only [decide_eq_true_eq, decide_eq_false_iff_not, Bool.not_eq_true', Bool.not_eq_false'] at hc) <;> simp only [seval, go_sem, hc, e1, ho, g1, g6, tf_false i16, tf_false i14])
             | ((with_reducible_and_instances first | refine go_use (p1) ?_ | refine go_use (sBelow_ret _ _) ?_ | refine go_use (sOnce_ret _ _) ?_ | refine go_use (mo) ?_ | refine go_use (sAcctId_ret _) ?_ | refine go_use (sTrace_ret _) ?_ | refine go_use (sHoldId_ret _) ?_ | refine go_use (sL11Hold_ret _) ?_ | refine go_use (sL11Amount_ret _) ?_); simp only [seval, go_sem, e1, ho, g1, g6, tf_false i16, tf_false i14]))
            exact ⟨(⟨op, _, [], [], _, _, 0, 0⟩, _), rfl, rfl, ⟨hop, rfl, acctIdV_ok _, traceV_ok _, .inr ⟨g5, rfl⟩, .inr ⟨g4, rfl⟩, .inr ⟨g1, rfl⟩, .inr ⟨g6, rfl⟩⟩⟩
noncomputable def drawV (c : Cur) : Req × Cur := (sDraw_ex c).choose
theorem sDraw_ret (c : Cur) : Ret PG f_spec_l11Draw [c.a] (rR (drawV c).1.c) [(drawV c).2.o] := (sDraw_ex c).choose_spec.1
theorem drawV_ok (c : Cur) : GReq (drawV c).1 := (sDraw_ex c).choose_spec.2
end Go.AW
namespace Go.AW
open IntWalk
set_option maxRecDepth 20000
theorem sReq_ex (c : Cur) (b : Book) (hne : b ≠ []) (hb : ∀ a ∈ b, gAcct a) (hl : b.length < 1000) : ∃ r : Req × Cur, Ret PG f_spec_l12Req [c.a, .v (bookP b)] (rR r.1.c) [r.2.o] ∧ GReq r.1 := by
  refine ex_of ?_
  have p1 := sDraw_ret c
  have G := drawV_ok c
  generalize drawV c = v at *
  obtain ⟨⟨op, acct, other, hold, trace, mti, amount, ttl⟩, c1⟩ := v
  have hop := G.op
  simp only [Req.c, List.map_cons, List.map_nil] at p1 hop
  have hpos : 0 < b.length := List.length_pos_iff.2 hne
  have hne1 : ¬ (b.length : Int) = 0 := by omega
  by_cases ho : (onceV c1 10).1 = true
  · refine p_spec_l12Req rfl rfl ?_
    simp only [seval, go_sem, i_spec_l12Req, bookP]
    repeat' (first
     | ((with_reducible_and_instances first | refine go_br (fun hc => ?_) (fun hc => ?_) | refine go_grd (fun hc => ?_) (fun hc => ?_) | refine go_dgrd (fun hc => ?_) (fun hc => ?_)) <;> (try simp only [decide_eq_true_eq, decide_eq_false_iff_not, Bool.not_eq_true', Bool.not_eq_false'] at hc) <;> simp only [seval, go_sem, hc, hne1, ho, List.length_map])
     | ((with_reducible_and_instances first | refine go_use (p1) ?_ | refine go_use (sOnce_ret _ _) ?_); simp only [seval, go_sem, hne1, ho, List.length_map]))
    exact ⟨(⟨op, acct, other, hold, trace, mti, amount, ttl⟩, _), rfl, rfl, G⟩
  · rw [Bool.not_eq_true] at ho
    have k1 := belowV_in (onceV c1 10).2 b.length
    have p2 := sBelow_ret (onceV c1 10).2 b.length
    generalize belowV (onceV c1 10).2 b.length = v at *
    obtain ⟨k, c3⟩ := v
    simp only at k1 p2
    have k2 := k1.1
    have k3 := k1.2.2 (by omega)
    have k4 : k.toNat < b.length := by omega
    have hg := getD_map Acct.p b k.toNat k4
    have ha := hb _ (at_mem k4)
    generalize b[k.toNat] = a at *
    obtain ⟨aid, alim, apo, amo, ams, hs, ari, asl⟩ := a
    have hA : acctIdOk aid := ha.1.1
    have hhs := ha.2.1
    have hok := ha.1.2.2.2.2.2.1
    have hs4 := hok.1
    simp only at hhs hok hs4
    simp only [Acct.p] at hg
    by_cases g1 : op = 1
    · subst g1
      have i16 : inr 1 1 6 := by decide
      refine p_spec_l12Req rfl rfl ?_
      simp only [seval, go_sem, i_spec_l12Req, bookP]
      repeat' (first
       | ((with_reducible_and_instances first | refine go_br (fun hc => ?_) (fun hc => ?_) | refine go_grd (fun hc => ?_) (fun hc => ?_) | refine go_dgrd (fun hc => ?_) (fun hc => ?_)) <;> (try simp only [decide_eq_true_eq, decide_eq_false_iff_not, Bool.not_eq_true', Bool.not_eq_false'] at hc) <;> simp only [seval, go_sem, hc, hne1, ho, k2, k3, hg, List.length_map, tf_true i16])
       | ((with_reducible_and_instances first | refine go_use (p1) ?_ | refine go_use (p2) ?_ | refine go_use (sOnce_ret _ _) ?_ | refine go_use (sL11Hold_ret _) ?_ | refine go_use (sL11Amount_ret _) ?_); simp only [seval, go_sem, hne1, ho, k2, k3, hg, List.length_map, tf_true i16]))
      exact ⟨(⟨_, aid, other, hold, trace, mti, amount, ttl⟩, _), rfl, rfl, ⟨hop, G.mti, hA, G.trace, G.hold, G.amount, G.ttl, G.other⟩⟩
    · by_cases g6 : op = 6
      · subst g6
        have i16 : inr 6 1 6 := by decide
        have i14 : ¬ inr 6 1 4 := by decide
        have h16 : (6 : Int) ≤ 6 := by decide
        have m1 := belowV_in c3 b.length
        have p3 := sBelow_ret c3 b.length
        generalize belowV c3 b.length = v at *
        obtain ⟨l, c4⟩ := v
        simp only at m1 p3
        have l2 := m1.1
        have l3 := m1.2.2 (by omega)
        have l4 : l.toNat < b.length := by omega
        have hgl := getD_map Acct.p b l.toNat l4
        have hO : acctIdOk b[l.toNat].id := (hb _ (at_mem l4)).1.1
        generalize b[l.toNat] = a2 at *
        simp only [Acct.p] at hgl
        by_cases hz : hs = []
        · subst hz
          simp only [List.map_nil] at hg
          refine p_spec_l12Req rfl rfl ?_
          simp only [seval, go_sem, i_spec_l12Req, bookP]
          repeat' (first
           | ((with_reducible_and_instances first | refine go_br (fun hc => ?_) (fun hc => ?_) | refine go_grd (fun hc => ?_) (fun hc => ?_) | refine go_dgrd (fun hc => ?_) (fun hc => ?_)) <;> (try simp only [decide_eq_true_eq, decide_eq_false_iff_not, Bool.not_eq_true', Bool.not_eq_false'] at hc) <;> simp only [seval, go_sem, hc, hne1, ho, k2, k3, hg, List.length_map, l2, l3, hgl, tf_true i16, tf_false i14])
           | ((with_reducible_and_instances first | refine go_use (p1) ?_ | refine go_use (p2) ?_ | refine go_use (p3) ?_ | refine go_use (sOnce_ret _ _) ?_ | refine go_use (sL11Hold_ret _) ?_ | refine go_use (sL11Amount_ret _) ?_); simp only [seval, go_sem, hne1, ho, k2, k3, hg, List.length_map, l2, l3, hgl, tf_true i16, tf_false i14]))
          all_goals first
            | exact ⟨(⟨_, aid, _, hold, trace, mti, amount, ttl⟩, _), rfl, rfl, ⟨hop, G.mti, hA, G.trace, G.hold, G.amount, G.ttl, .inl ⟨rfl, hO⟩⟩⟩
        · have hz1 : 0 < hs.length := List.length_pos_iff.2 hz
          have hz2 : (hs.length : Int) > 0 := by omega
          have j1 := belowV_in (onceV c4 4).2 hs.length
          have j0 := sBelow_ret (onceV c4 4).2 hs.length
          generalize belowV (onceV c4 4).2 hs.length = v at *
          obtain ⟨j, c5⟩ := v
          simp only at j1 j0
          have j2 := j1.1
          have j3 := j1.2.2 (by omega)
          have j4 : j.toNat < hs.length := by omega
          have hgh := getD_map Hold.p hs j.toNat j4
          have hid := (hok.2.1 _ (at_mem j4)).1
          have hha := hhs _ (at_mem j4)
          generalize hs[j.toNat] = h at *
          obtain ⟨h1, h2, h3⟩ := hha
          simp only [Hold.p] at hgh
          have e1 : IntKind.i64.wrap (h.amount + 1) = h.amount + 1 := i64_in _ (by omega)
          have e2 : ∀ c' : Cur, IntKind.i64.wrap (1 + (belowV c' (h.amount + 1)).1) = 1 + (belowV c' (h.amount + 1)).1 := fun c' => i64_in _ (by have := belowV_in c' (h.amount + 1); omega)
          have hamt : ∀ c' : Cur, 0 ≤ 1 + (belowV c' (h.amount + 1)).1 ∧ 1 + (belowV c' (h.amount + 1)).1 < 100 := fun c' => by have := belowV_in c' (h.amount + 1); omega
          refine p_spec_l12Req rfl rfl ?_
          simp only [seval, go_sem, i_spec_l12Req, bookP]
          repeat' (first
           | ((with_reducible_and_instances first | refine go_br (fun hc => ?_) (fun hc => ?_) | refine go_grd (fun hc => ?_) (fun hc => ?_) | refine go_dgrd (fun hc => ?_) (fun hc => ?_)) <;> (try simp only [decide_eq_true_eq, decide_eq_false_iff_not, Bool.not_eq_true', Bool.not_eq_false'] at hc) <;> simp only [seval, go_sem, hc, hne1, ho, k2, k3, hg, List.length_map, l2, l3, hgl, tf_true i16, tf_false i14, hz2, j2, j3, hgh, e1, e2])
           | ((with_reducible_and_instances first | refine go_use (p1) ?_ | refine go_use (p2) ?_ | refine go_use (p3) ?_ | refine go_use (sOnce_ret _ _) ?_ | refine go_use (sL11Hold_ret _) ?_ | refine go_use (sL11Amount_ret _) ?_ | refine go_use (j0) ?_ | refine go_use (sBelow_ret _ _) ?_); simp only [seval, go_sem, hne1, ho, k2, k3, hg, List.length_map, l2, l3, hgl, tf_true i16, tf_false i14, hz2, j2, j3, hgh, e1, e2]))
          all_goals first
            | exact ⟨(⟨_, aid, _, hold, trace, mti, amount, ttl⟩, _), rfl, rfl, ⟨hop, G.mti, hA, G.trace, G.hold, G.amount, G.ttl, .inl ⟨rfl, hO⟩⟩⟩
            | exact ⟨(⟨_, aid, _, _, trace, mti, amount, ttl⟩, _), rfl, rfl, ⟨hop, G.mti, hA, G.trace, .inl ⟨h16, hid⟩, G.amount, G.ttl, .inl ⟨rfl, hO⟩⟩⟩
      · by_cases g4 : op ≤ 4
        · have i16 : inr op 1 6 := ⟨hop.1, by omega⟩
          have i14 : inr op 1 4 := ⟨hop.1, g4⟩
          have h16 : op ≤ 6 := by omega
          have h14 : op ≤ 4 := g4
          by_cases hz : hs = []
          · subst hz
            simp only [List.map_nil] at hg
            refine p_spec_l12Req rfl rfl ?_
            simp only [seval, go_sem, i_spec_l12Req, bookP]
            repeat' (first
             | ((with_reducible_and_instances first | refine go_br (fun hc => ?_) (fun hc => ?_) | refine go_grd (fun hc => ?_) (fun hc => ?_) | refine go_dgrd (fun hc => ?_) (fun hc => ?_)) <;> (try simp only [decide_eq_true_eq, decide_eq_false_iff_not, Bool.not_eq_true', Bool.not_eq_false'] at hc) <;> simp only [seval, go_sem, hc, hne1, ho, k2, k3, hg, List.length_map, g1, g6, tf_true i16, tf_true i14])
             | ((with_reducible_and_instances first | refine go_use (p1) ?_ | refine go_use (p2) ?_ | refine go_use (sOnce_ret _ _) ?_ | refine go_use (sL11Hold_ret _) ?_ | refine go_use (sL11Amount_ret _) ?_); simp only [seval, go_sem, hne1, ho, k2, k3, hg, List.length_map, g1, g6, tf_true i16, tf_true i14]))
            all_goals first
              | exact ⟨(⟨_, aid, other, hold, trace, mti, amount, ttl⟩, _), rfl, rfl, ⟨hop, G.mti, hA, G.trace, G.hold, G.amount, G.ttl, G.other⟩⟩
          · have hz1 : 0 < hs.length := List.length_pos_iff.2 hz
            have hz2 : (hs.length : Int) > 0 := by omega
            have j1 := belowV_in (onceV c3 4).2 hs.length
            have j0 := sBelow_ret (onceV c3 4).2 hs.length
            generalize belowV (onceV c3 4).2 hs.length = v at *
            obtain ⟨j, c5⟩ := v
            simp only at j1 j0
            have j2 := j1.1
            have j3 := j1.2.2 (by omega)
            have j4 : j.toNat < hs.length := by omega
            have hgh := getD_map Hold.p hs j.toNat j4
            have hid := (hok.2.1 _ (at_mem j4)).1
            have hha := hhs _ (at_mem j4)
            generalize hs[j.toNat] = h at *
            obtain ⟨h1, h2, h3⟩ := hha
            simp only [Hold.p] at hgh
            have e1 : IntKind.i64.wrap (h.amount + 1) = h.amount + 1 := i64_in _ (by omega)
            have e2 : ∀ c' : Cur, IntKind.i64.wrap (1 + (belowV c' (h.amount + 1)).1) = 1 + (belowV c' (h.amount + 1)).1 := fun c' => i64_in _ (by have := belowV_in c' (h.amount + 1); omega)
            have hamt : ∀ c' : Cur, 0 ≤ 1 + (belowV c' (h.amount + 1)).1 ∧ 1 + (belowV c' (h.amount + 1)).1 < 100 := fun c' => by have := belowV_in c' (h.amount + 1); omega
            refine p_spec_l12Req rfl rfl ?_
            simp only [seval, go_sem, i_spec_l12Req, bookP]
            repeat' (first
             | ((with_reducible_and_instances first | refine go_br (fun hc => ?_) (fun hc => ?_) | refine go_grd (fun hc => ?_) (fun hc => ?_) | refine go_dgrd (fun hc => ?_) (fun hc => ?_)) <;> (try simp only [decide_eq_true_eq, decide_eq_false_iff_not, Bool.not_eq_true', Bool.not_eq_false'] at hc) <;> simp only [seval, go_sem, hc, hne1, ho, k2, k3, hg, List.length_map, g1, g6, tf_true i16, tf_true i14, hz2, j2, j3, hgh, e1, e2])
             | ((with_reducible_and_instances first | refine go_use (p1) ?_ | refine go_use (p2) ?_ | refine go_use (sOnce_ret _ _) ?_ | refine go_use (sL11Hold_ret _) ?_ | refine go_use (sL11Amount_ret _) ?_ | refine go_use (j0) ?_ | refine go_use (sBelow_ret _ _) ?_); simp only [seval, go_sem, hne1, ho, k2, k3, hg, List.length_map, g1, g6, tf_true i16, tf_true i14, hz2, j2, j3, hgh, e1, e2]))
            all_goals first
              | exact ⟨(⟨_, aid, other, hold, trace, mti, amount, ttl⟩, _), rfl, rfl, ⟨hop, G.mti, hA, G.trace, G.hold, G.amount, G.ttl, G.other⟩⟩
              | exact ⟨(⟨_, aid, other, _, trace, mti, _, ttl⟩, _), rfl, rfl, ⟨hop, G.mti, hA, G.trace, .inl ⟨h16, hid⟩, .inl ⟨h14, hamt _⟩, G.ttl, G.other⟩⟩
              | exact ⟨(⟨_, aid, other, _, trace, mti, amount, ttl⟩, _), rfl, rfl, ⟨hop, G.mti, hA, G.trace, .inl ⟨h16, hid⟩, G.amount, G.ttl, G.other⟩⟩
        · have i14 : ¬ inr op 1 4 := fun g => g4 g.2
          by_cases g5 : op ≤ 6
          · have i16 : inr op 1 6 := ⟨hop.1, g5⟩
            have h16 : op ≤ 6 := g5
            by_cases hz : hs = []
            · subst hz
              simp only [List.map_nil] at hg
              refine p_spec_l12Req rfl rfl ?_
              simp only [seval, go_sem, i_spec_l12Req, bookP]
              repeat' (first
               | ((with_reducible_and_instances first | refine go_br (fun hc => ?_) (fun hc => ?_) | refine go_grd (fun hc => ?_) (fun hc => ?_) | refine go_dgrd (fun hc => ?_) (fun hc => ?_)) <;> (try simp only [decide_eq_true_eq, decide_eq_false_iff_not, Bool.not_eq_true', Bool.not_eq_false'] at hc) <;> simp only [seval, go_sem, hc, hne1, ho, k2, k3, hg, List.length_map, g1, g6, tf_true i16, tf_false i14])
               | ((with_reducible_and_instances first | refine go_use (p1) ?_ | refine go_use (p2) ?_ | refine go_use (sOnce_ret _ _) ?_ | refine go_use (sL11Hold_ret _) ?_ | refine go_use (sL11Amount_ret _) ?_); simp only [seval, go_sem, hne1, ho, k2, k3, hg, List.length_map, g1, g6, tf_true i16, tf_false i14]))
              all_goals first
                | exact ⟨(⟨_, aid, other, hold, trace, mti, amount, ttl⟩, _), rfl, rfl, ⟨hop, G.mti, hA, G.trace, G.hold, G.amount, G.ttl, G.other⟩⟩
            · have hz1 : 0 < hs.length := List.length_pos_iff.2 hz
              have hz2 : (hs.length : Int) > 0 := by omega
              have j1 := belowV_in (onceV c3 4).2 hs.length
              have j0 := sBelow_ret (onceV c3 4).2 hs.length
              generalize belowV (onceV c3 4).2 hs.length = v at *
              obtain ⟨j, c5⟩ := v
              simp only at j1 j0
              have j2 := j1.1
              have j3 := j1.2.2 (by omega)
              have j4 : j.toNat < hs.length := by omega
              have hgh := getD_map Hold.p hs j.toNat j4
              have hid := (hok.2.1 _ (at_mem j4)).1
              have hha := hhs _ (at_mem j4)
              generalize hs[j.toNat] = h at *
              obtain ⟨h1, h2, h3⟩ := hha
              simp only [Hold.p] at hgh
              have e1 : IntKind.i64.wrap (h.amount + 1) = h.amount + 1 := i64_in _ (by omega)
              have e2 : ∀ c' : Cur, IntKind.i64.wrap (1 + (belowV c' (h.amount + 1)).1) = 1 + (belowV c' (h.amount + 1)).1 := fun c' => i64_in _ (by have := belowV_in c' (h.amount + 1); omega)
              have hamt : ∀ c' : Cur, 0 ≤ 1 + (belowV c' (h.amount + 1)).1 ∧ 1 + (belowV c' (h.amount + 1)).1 < 100 := fun c' => by have := belowV_in c' (h.amount + 1); omega
              refine p_spec_l12Req rfl rfl ?_
              simp only [seval, go_sem, i_spec_l12Req, bookP]
              repeat' (first
               | ((with_reducible_and_instances first | refine go_br (fun hc => ?_) (fun hc => ?_) | refine go_grd (fun hc => ?_) (fun hc => ?_) | refine go_dgrd (fun hc => ?_) (fun hc => ?_)) <;> (try simp only [decide_eq_true_eq, decide_eq_false_iff_not, Bool.not_eq_true', Bool.not_eq_false'] at hc) <;> simp only [seval, go_sem, hc, hne1, ho, k2, k3, hg, List.length_map, g1, g6, tf_true i16, tf_false i14, hz2, j2, j3, hgh, e1, e2])
               | ((with_reducible_and_instances first | refine go_use (p1) ?_ | refine go_use (p2) ?_ | refine go_use (sOnce_ret _ _) ?_ | refine go_use (sL11Hold_ret _) ?_ | refine go_use (sL11Amount_ret _) ?_ | refine go_use (j0) ?_ | refine go_use (sBelow_ret _ _) ?_); simp only [seval, go_sem, hne1, ho, k2, k3, hg, List.length_map, g1, g6, tf_true i16, tf_false i14, hz2, j2, j3, hgh, e1, e2]))
              all_goals first
                | exact ⟨(⟨_, aid, other, hold, trace, mti, amount, ttl⟩, _), rfl, rfl, ⟨hop, G.mti, hA, G.trace, G.hold, G.amount, G.ttl, G.other⟩⟩
                | exact ⟨(⟨_, aid, other, _, trace, mti, amount, ttl⟩, _), rfl, rfl, ⟨hop, G.mti, hA, G.trace, .inl ⟨h16, hid⟩, G.amount, G.ttl, G.other⟩⟩
          · have i16 : ¬ inr op 1 6 := fun g => g5 g.2
            refine p_spec_l12Req rfl rfl ?_
            simp only [seval, go_sem, i_spec_l12Req, bookP]
            repeat' (first
             | ((with_reducible_and_instances first | refine go_br (fun hc => ?_) (fun hc => ?_) | refine go_grd (fun hc => ?_) (fun hc => ?_) | refine go_dgrd (fun hc => ?_) (fun hc => ?_)) <;> (try simp only [decide_eq_true_eq, decide_eq_false_iff_not, Bool.not_eq_true', Bool.not_eq_false'] at hc) <;> simp only [seval, go_sem, hc, hne1, ho, k2, k3, hg, g1, g6, List.length_map, tf_false i16])
             | ((with_reducible_and_instances first | refine go_use (p1) ?_ | refine go_use (p2) ?_ | refine go_use (sOnce_ret _ _) ?_ | refine go_use (sL11Hold_ret _) ?_ | refine go_use (sL11Amount_ret _) ?_); simp only [seval, go_sem, hne1, ho, k2, k3, hg, g1, g6, List.length_map, tf_false i16]))
            exact ⟨(⟨_, aid, other, hold, trace, mti, amount, ttl⟩, _), rfl, rfl, ⟨hop, G.mti, hA, G.trace, G.hold, G.amount, G.ttl, G.other⟩⟩
theorem sMakeReq_ex (x : List UInt8) (hx : x.length ≤ 1048576) (b : Book) (hne : b ≠ []) (hb : ∀ a ∈ b, gAcct a) (hl : b.length < 1000) :
    ∃ r : Req × Nat, Ret PG f_spec_MakeReq [aBs x, .v (bookP b)] (rR r.1.c) [] ∧ (GReq r.1 ∧ ∃ h : r.2 < b.length, b[r.2].id = r.1.acct) := by
  refine ex_of ?_
  have hpos : 0 < b.length := List.length_pos_iff.2 hne
  obtain ⟨h, p1, _⟩ := sNew_ex x hx
  obtain ⟨⟨q, c1⟩, p2, G⟩ := sReq_ex ⟨x, 0, IntKind.i64.wrap (h + 17), hx, Nat.zero_le _⟩ b hne hb hl
  have k1 := belowV_in c1 b.length
  have p3 := sBelow_ret c1 b.length
  generalize belowV c1 b.length = v at *
  obtain ⟨k, c3⟩ := v
  simp only [Cur.a, Cur.o, cast0, bookP, Req.c, List.map_cons, List.map_nil] at k1 p2 p3 G
  have k2 := k1.1
  have k3 := k1.2.2 (by omega)
  have k4 : k.toNat < b.length := by omega
  have hg := getD_map Acct.p b k.toNat k4
  have ha := hb _ (at_mem k4)
  obtain ⟨a, hae⟩ : ∃ a, a = b[k.toNat] := ⟨_, rfl⟩
  rw [← hae] at hg ha
  simp only [Acct.p] at hg
  refine p_spec_MakeReq rfl rfl ?_
  simp only [seval, go_sem, i_spec_MakeReq, bookP]
  repeat' (first
   | ((with_reducible_and_instances first | refine go_br (fun hc => ?_) (fun hc => ?_) | refine go_grd (fun hc => ?_) (fun hc => ?_) | refine go_dgrd (fun hc => ?_) (fun hc => ?_)) <;> (try simp only [decide_eq_true_eq, decide_eq_false_iff_not, Bool.not_eq_true', Bool.not_eq_false'] at hc) <;> simp only [seval, go_sem, hc, k2, k3, hg, List.length_map])
   | ((with_reducible_and_instances first | refine go_use (p1) ?_ | refine go_use (p2) ?_ | refine go_use (p3) ?_); simp only [seval, go_sem, k2, k3, hg, List.length_map]))
  exact ⟨(⟨q.op, a.id, q.other, q.hold, q.trace, q.mti, q.amount, q.ttl⟩, k.toNat), rfl, ⟨G.op, G.mti, ha.1.1, G.trace, G.hold, G.amount, G.ttl, G.other⟩, k4, by rw [← hae]⟩
end Go.AW
namespace Go.AW
open IntWalk
set_option maxRecDepth 20000
structure PlainReq (q : Req) : Prop where
  fit : MFit (reqMsg q)
  ok : msgOk (reqMsg q)
  len : (encode (reqMsg q)).length < 4294967296
  par : parse (encode (reqMsg q)) = (reqMsg q, 0)
  mti : getBcd (encode (reqMsg q)) 0 4 = some ((reqMsg q).mti, 2)
  req : reqOf (reqMsg q) = (q, 0)
  rep : RepOk (reqMsg q) 10 [] []
  rlen : (encode (repMsg (reqMsg q) 10 [] [])).length < 4294967296
  rnum : (parse (encode (repMsg (reqMsg q) 10 [] []))).1.list.length < 16777216
  code : replyCode (encode (repMsg (reqMsg q) 10 [] [])) = (10, true)
def fullS (i : Nat) : Slot := ⟨[57, 48, 48, 48, 48, UInt8.ofNat (48 + i)], [48, 49, 48, 48], [1]⟩
def fullL (n : Nat) : List Slot := (List.range n).map fullS
theorem fullL_succ (n : Nat) : fullL (n + 1) = fullL n ++ [fullS n] := by
  unfold fullL; rw [List.range_succ, List.map_append]; rfl
theorem fullL_len (n : Nat) : (fullL n).length = n := by unfold fullL; simp
theorem full_ok : slotsOk (fullL 6) := by
  refine ⟨by decide, ?_, ?_⟩
  · have : ∀ s ∈ fullL 6, ((s.trace ≠ [] ∧ ∀ b ∈ s.trace, digit b) ∧ (s.trace.length : Int) = 6) ∧ ((s.mti ≠ [] ∧ ∀ b ∈ s.mti, digit b) ∧ (s.mti.length : Int) = 4) ∧ 1 ≤ (s.reply.length : Int) ∧ (s.reply.length : Int) ≤ 200 := by decide
    exact this
  · have : ∀ i, i < 6 → ∀ s ∈ (fullL 6).take i, ¬ (s.trace = ((fullL 6).getD i (fullS 0)).trace ∧ s.mti = ((fullL 6).getD i (fullS 0)).mti) := by decide
    intro i h s hs
    have e : (fullL 6).getD i (fullS 0) = (fullL 6)[i] := by simp [h]
    have := this i (by rw [fullL_len] at h; exact h) s hs
    rw [e] at this; exact this
def fullB (b : Book) (k : Nat) (h : k < b.length) : Book := b.set k { b[k] with slots := fullL 6 }
theorem full_book {b : Book} {k : Nat} (h : k < b.length) (hb : bookOk b) : bookOk (fullB b k h) := by
  obtain ⟨h1, h2, h3⟩ := hb
  refine ⟨by simpa [fullB] using h1, ?_, ?_⟩
  · intro a ha
    rcases List.mem_or_eq_of_mem_set ha with h4 | h4
    · exact h2 a h4
    · subst h4
      obtain ⟨a1, a2, a3, a4, a5, a6, a7, a8, a9⟩ := h2 _ (at_mem h)
      exact ⟨a1, a2, a3, a4, a5, a6, a7, full_ok, a9⟩
  · have key : ∀ j (hj : j < (fullB b k h).length), (fullB b k h)[j].id = (b[j]'(by simpa [fullB] using hj)).id := by
      intro j hj
      simp only [fullB, List.getElem_set]
      split
      · next e => subst e; rfl
      · rfl
    intro i hi
    rw [key, key]
    exact h3 i (by simpa [fullB] using hi)
theorem asc_lt {α : Type} {key : α → Str} {l : List α} (h : asc key l) : ∀ (i j : Nat) (h1 : i < j) (h2 : j < l.length), key (l[i]'(by omega)) < key l[j] := by
  intro i j h1
  induction j with
  | zero => omega
  | succ j ih =>
    intro h2
    have h3 := h j h2
    by_cases e : i = j
    · subst e; exact h3
    · exact List.lt_trans (ih (by omega) (by omega)) h3
theorem full_idx {b : Book} {k : Nat} (h : k < b.length) (hb : bookOk b) : idx (fun a => a.id = b[k].id) (fullB b k h) = k := by
  have hl : (fullB b k h).length = b.length := by simp [fullB]
  have hf := full_book h hb
  have hk : (fullB b k h)[k]'(by omega) = { b[k] with slots := fullL 6 } := by simp [fullB]
  have hid : ((fullB b k h)[k]'(by omega)).id = b[k].id := by rw [hk]
  refine idx_at (by omega) ?_ hid
  intro x hx e
  obtain ⟨j, hj, rfl⟩ := List.mem_iff_getElem.1 hx
  simp only [List.length_take] at hj
  rw [List.getElem_take] at e
  have := asc_lt hf.2.2 j k (by omega) (by omega)
  rw [e, hid] at this
  exact sLt_irrefl _ this
theorem tr_not {s : Str} (h : s ∈ trL) : ∀ x ∈ fullL 6, ¬ (x.trace = s ∧ x.mti = x.mti) := by
  have : ∀ s ∈ trL, ∀ x ∈ fullL 6, ¬ (x.trace = s ∧ x.mti = x.mti) := by decide
  exact this s h
theorem full_trace (i : Nat) (h : i < 6) : IntKind.u8.wrap (IntKind.i64.wrap (48 + (i : Int))) = ((48 + i : Nat) : Int) := by
  rw [i64_in _ (by omega), u8_in _ (by omega)]; omega
theorem lawsFull_ret (x : List UInt8) (hx : x.length ≤ 1048576) (law : ∀ q, GReq q → PlainReq q) : Ret PG f_laws_FnFull [aBs x] (oB true) [] := by
  obtain ⟨b, p1, hne, hok, hg⟩ := sMakeBook_ex x hx
  have hl6 := hok.1
  obtain ⟨⟨q, k⟩, p2, G, hk, hid⟩ := sMakeReq_ex x hx b hne hg (by omega)
  simp only at p2 G hk hid
  obtain ⟨now, p3, hnow⟩ := sMakeNum_ex x hx 30 (by omega)
  have hP := law q G
  have hqf := greq_fit G
  have hqo := greq_ok G
  have p4 := iBookAt_ret b q.acct (by omega)
  have hid0 : idx (fun a => a.id = q.acct) b = k := by
    refine idx_at hk ?_ hid
    intro y hy e
    obtain ⟨j, hj, rfl⟩ := List.mem_iff_getElem.1 hy
    simp only [List.length_take] at hj
    rw [List.getElem_take] at e
    have := asc_lt hok.2.2 j k (by omega) hk
    rw [e, hid] at this
    exact sLt_irrefl _ this
  rw [hid0] at p4
  have hamt : 0 ≤ q.amount ∧ q.amount < 100 := by rcases G.amount with ⟨_, h⟩ | ⟨_, h⟩ <;> omega
  have httl : 0 ≤ q.ttl ∧ q.ttl < 100 := by rcases G.ttl with ⟨_, h⟩ | ⟨_, h⟩ <;> omega
  have p5 := iReqMsg_ret q hqf hqo hamt httl
  have p6 := (iEncode_ok (reqMsg q) hP.fit hP.ok).wkT
  have hfl : (fullB b k hk).length = b.length := by simp [fullB]
  have hfo := full_book hk hok
  have hfk : (fullB b k hk)[k]'(by omega) = { b[k] with slots := fullL 6 } := by simp [fullB]
  have hfi := full_idx hk hok
  rw [hid] at hfi
  have p7 := iHandle_full (fullB b k hk) (encode (reqMsg q)) now (reqMsg q) q k 2 (book_fit hfo) hP.len hfo ⟨hnow.1, by omega⟩ hP.par hP.mti hP.rep hP.req (by omega) hfi
    (by rw [hfk]; intro s hs e; exact tr_not G.trace s hs ⟨e.1, rfl⟩) (by rw [hfk]; exact fullL_len 6)
  have p8 := iReplyCode_ret (encode (repMsg (reqMsg q) 10 [] [])) hP.rlen hP.rnum
  rw [hP.code] at p8
  have p9 := iBookSame_ret (fullB b k hk) (fullB b k hk) (book_fit hfo)
  rw [tf_true rfl] at p9
  have hgd := getD_map Acct.p b k hk
  have hset : (b.map Acct.p).set k (.agg [.str b[k].id, .int .i64 b[k].limit, .int .i64 b[k].posted, .int .i64 b[k].most, .int .i64 b[k].mostSum, .sl 3 (b[k].holds.map Hold.p),
      .int .i64 b[k].ring.span, .int .i64 b[k].ring.head, .sl 1 (b[k].ring.counts.map ei), .sl 1 (b[k].ring.sums.map ei), .sl 3 ((fullL 6).map Slot.p)]) = (fullB b k hk).map Acct.p := by
    unfold fullB; rw [List.map_set]; rfl
  have hkl : (k : Int) < b.length := by omega
  have hx1 : ¬ 1048576 < (x.length : Int) := by omega
  clear hfk hfi hfo
  generalize fullB b k hk = b' at *
  generalize hfull : (fullL 6).map Slot.p = fl at *
  generalize reqMsg q = m at *
  generalize encode m = xb at *
  generalize encode (repMsg m 10 [] []) = rb at *
  simp only [bookP, Msg.p, Msg.c, Req.p, Req.c, List.map_cons, List.map_nil, O.wk] at p2 p4 p5 p6 p7 p8 p9
  simp only [Acct.p] at hgd
  refine exact_of (p_laws_FnFull rfl rfl ?_)
  simp only [seval, go_sem, i_laws_FnFull]
  repeat' (first
   | ((with_reducible_and_instances first | refine go_br (fun hc => ?_) (fun hc => ?_) | refine go_grd (fun hc => ?_) (fun hc => ?_) | refine go_dgrd (fun hc => ?_) (fun hc => ?_)) <;> (try simp only [decide_eq_true_eq, decide_eq_false_iff_not, Bool.not_eq_true', Bool.not_eq_false'] at hc) <;> simp only [seval, go_sem, hc, hx1, bookP, List.length_map])
   | ((with_reducible_and_instances first | refine go_use (p1) ?_ | refine go_use (p2) ?_ | refine go_use (p4) ?_); simp only [seval, go_sem, hx1, bookP, List.length_map]))
  refine go_lp (β := Nat) (fun i => [(6, .sl 28 i 0 i), (7, .p (.int .i64 i))]) (fun i => [(28, i, .arr 3 ((fullL i).map Slot.p) false)]) (fun i => i ≤ 6) (fun i => 6 - i) 0 ?_ ?_ ?_
  · rfl
  · simp
  · intro i hi
    have hfll := fullL_len i
    by_cases h1 : (i : Int) < 6
    · have h1' : i < 6 := by omega
      have hft := full_trace i h1'
      have hu : u8s [P.int .u8 ((48 + i : Nat) : Int)] = some [UInt8.ofNat (48 + i)] := by
        have := u8s_map [UInt8.ofNat (48 + i)]
        have e : (UInt8.ofNat (48 + i)).toNat = 48 + i := by rw [UInt8.toNat_ofNat']; exact Nat.mod_eq_of_lt (by omega)
        simp only [List.map_cons, List.map_nil, eb, e] at this
        exact this
      simp only [seval, go_sem, h1, hft, hu, hfll, wrap_succ i (by omega), List.length_map, List.length_append, List.length_cons, List.length_nil]
      repeat' (first
       | ((with_reducible_and_instances first | refine go_br (fun hc => ?_) (fun hc => ?_) | refine go_grd (fun hc => ?_) (fun hc => ?_) | refine go_dgrd (fun hc => ?_) (fun hc => ?_)) <;> (try simp only [decide_eq_true_eq, decide_eq_false_iff_not, Bool.not_eq_true', Bool.not_eq_false'] at hc) <;> simp only [seval, go_sem, hc, h1, hft, hu, hfll, wrap_succ i (by omega), List.length_map, List.length_append, List.length_cons, List.length_nil])
       | ((with_reducible refine And.intro ?_ ?_); focus omega))
      refine ⟨i + 1, ?_, h1', by (try dsimp only); omega⟩
      simp only [fullL_succ, List.map_append, List.map_cons, List.map_nil]; rfl
    · have hi6 : i = 6 := by omega
      subst hi6
      rw [hfull]
      have hfl6 : fl.length = 6 := by rw [← hfull, List.length_map]; exact fullL_len 6
      have ht6 : List.take 6 fl = fl := List.take_of_length_le (by omega)
      have htk : List.take b.length (b'.map Acct.p) = b'.map Acct.p := List.take_of_length_le (by simp [hfl])
      have hle : b.length ≤ b'.length := by omega
      simp only [seval, go_sem, hkl, hgd, hset, hfl6, ht6, htk, hle, hfl, bookP, List.length_map]
      repeat' (first
       | ((with_reducible_and_instances first | refine go_br (fun hc => ?_) (fun hc => ?_) | refine go_grd (fun hc => ?_) (fun hc => ?_) | refine go_dgrd (fun hc => ?_) (fun hc => ?_)) <;> (try simp only [decide_eq_true_eq, decide_eq_false_iff_not, Bool.not_eq_true', Bool.not_eq_false'] at hc) <;> simp only [seval, go_sem, hc, hkl, hgd, hset, hfl6, ht6, htk, hle, hfl, bookP, List.length_map])
       | ((with_reducible_and_instances first | refine go_use (p3) ?_ | refine go_use (p5) ?_ | refine go_use (p6) ?_ | refine go_use (p7) ?_ | refine go_use (p8) ?_ | refine go_use (p9) ?_); simp only [seval, go_sem, hkl, hgd, hset, hfl6, ht6, htk, hle, hfl, bookP, List.length_map])
       | ((with_reducible refine And.intro ?_ ?_); focus omega))
end Go.AW
namespace Go.AW
open IntWalk
theorem unpk_pk {a b : UInt8} (ha : digit a) (hb : digit b) : unpk (pk a b) = [a, b] := by
  unfold digit at ha hb
  have e : (pk a b).toNat = (a.toNat - 48) * 16 + (b.toNat - 48) := by
    unfold pk; rw [UInt8.toNat_ofNat']; exact Nat.mod_eq_of_lt (by omega)
  have h1 : 48 + (pk a b).toNat / 16 = a.toNat := by omega
  have h2 : 48 + (pk a b).toNat % 16 = b.toNat := by omega
  unfold unpk
  rw [h1, h2]
  simp
theorem unpacks_packs : ∀ (s : Str), s.length % 2 = 0 → (∀ b ∈ s, digit b) → unpacks (packs s) = s
  | [], _, _ => rfl
  | [_], h, _ => by simp at h
  | a :: b :: r, h, hd => by
    have ih := unpacks_packs r (by simp at h; omega) (fun x hx => hd x (by simp [hx]))
    simp only [unpacks] at ih
    simp only [packs, unpacks, List.flatMap_cons, ih, unpk_pk (hd a (by simp)) (hd b (by simp)), List.cons_append, List.nil_append]
theorem bcd_len2 (s : Str) : ((bcd s).length : Int) = half s.length := by
  unfold bcd half
  rw [packs_len]
  unfold pad2; split
  · simp only [List.length_cons]; omega
  · omega
theorem own_mid {α : Type} (x y z : List α) : ((x ++ (y ++ z)).drop x.length).take y.length = y := by
  rw [List.drop_left, List.take_left]
theorem getBcd_put (x y : List UInt8) (s : Str) (h : bcdOk s) : getBcd (x ++ (bcd s ++ y)) x.length s.length = some (s, (x.length : Int) + ((bcd s).length : Int)) := by
  have hl := bcd_len2 s
  have hne : 1 ≤ s.length := List.length_pos_iff.2 h.1.1
  have hd := pad2_digits h.1
  have ho : ownOf (x ++ (bcd s ++ y)) x.length s.length = bcd s := by
    unfold ownOf
    rw [← hl]
    simp only [Int.toNat_natCast]
    exact own_mid x (bcd s) y
  have hu : unpacks (bcd s) = pad2 s := unpacks_packs _ (pad2_even s) hd
  unfold getBcd
  rw [ho, hu, tf_true, if_pos rfl]
  · congr 1
    refine Prod.ext ?_ ?_
    · simp only [Int.toNat_natCast]
      unfold pad2; split
      · simp only [List.length_cons]
        rw [show s.length + 1 - s.length = 1 by omega]; rfl
      · simp
    · simp only; omega
  · refine ⟨⟨by omega, h.2⟩, ?_, ⟨?_, hd⟩, ?_⟩
    · rw [← hl]
      unfold pieceP
      simp only [List.length_append]; omega
    · unfold pad2; split
      · simp
      · exact h.1.1
    · intro ho
      unfold pad2
      rw [if_pos (by omega)]; rfl
theorem val_app (x : Str) (b : UInt8) : val (x ++ [b]) = val x * 10 + (b.toNat - 48) := by unfold val; rw [List.foldl_append]; rfl
theorem val_zeros (k : Nat) (s : Str) : val (List.replicate k 48 ++ s) = val s := by
  induction k with
  | zero => rfl
  | succ k ih =>
    have : val (48 :: (List.replicate k 48 ++ s)) = val (List.replicate k 48 ++ s) := rfl
    rw [List.replicate_succ, List.cons_append, this, ih]
theorem val_wide (n w : Nat) (h : n < 100) : val (wideN n w) = n := by
  unfold wideN
  rw [dec_small n h, repeat48, val_zeros]
  have : ∀ n, n < 100 → val (dec2 n) = n := by decide
  exact this n h
theorem wide_bcd (n d : Nat) (h : n < 100) (hd : d = 2 ∨ d = 3) : bcdOk (wideN n d) ∧ (wideN n d).length = d := by
  have := wideN_ok n d h (by omega)
  exact ⟨⟨this.1, by rw [this.2]; omega⟩, this.2⟩
theorem getLen_put (x y : List UInt8) (n d : Nat) (h : n < 100) (hd : d = 2 ∨ d = 3) : getLen (x ++ (bcd (wideN n d) ++ y)) x.length d = some (n, (x.length : Int) + ((bcd (wideN n d)).length : Int)) := by
  obtain ⟨h1, h2⟩ := wide_bcd n d h hd
  have := getBcd_put x y (wideN n d) h1
  rw [h2] at this
  unfold getLen
  rw [this]
  simp [val_wide n d h]
theorem lenD_in (no : Int) : lenD no = 2 ∨ lenD no = 3 := by unfold lenD; split <;> simp
theorem getBody_put (x y : List UInt8) (no : Int) (s : Str) (h : fieldOk no s) :
    getBody (x ++ ((if fieldKind no = 1 ∨ fieldKind no = 3 then bcd s else s) ++ y)) no s.length x.length = some (s, (x.length : Int) + ((if fieldKind no = 1 ∨ fieldKind no = 3 then bcd s else s).length : Int)) := by
  unfold getBody
  by_cases hk : fieldKind no = 1 ∨ fieldKind no = 3
  · simp only [if_pos hk]
    rw [getBcd_put x y s (fieldOk_bcd h hk)]
    simp [tf_true h]
  · simp only [if_neg hk]
    have ho : ((x ++ (s ++ y)).drop x.length).take s.length = s := own_mid x s y
    have hp : pieceP (x ++ (s ++ y)).length x.length s.length := by unfold pieceP; simp only [List.length_append]; omega
    rw [tf_true hp, if_pos rfl]
    simp only [Int.toNat_natCast]
    rw [ho, tf_true h, if_pos rfl]
theorem getField_put (x y : List UInt8) (no : Int) (s : Str) (h : fieldOk no s) : getField (x ++ (putField no s ++ y)) x.length no = some (s, (x.length : Int) + ((putField no s).length : Int)) := by
  have hl := fieldOk_len h
  have hn : s.length < 100 := by omega
  have hd := lenD_in no
  unfold getField putField
  have hks := kindSize no
  by_cases k1 : fieldKind no = 1
  · have hs : (s.length : Int) = fieldSize no := by unfold fieldOk at h; omega
    have := getBody_put x y no s h
    simp only [k1, true_or, if_pos] at this ⊢
    simp only [show ¬ ((1 : Int) = 3 ∨ (1 : Int) = 4 ∨ (1 : Int) = 5) by omega, if_neg, not_false_eq_true]
    rw [← hs]; exact this
  · by_cases k2 : fieldKind no = 2
    · have hs : (s.length : Int) = fieldSize no := by unfold fieldOk at h; omega
      have := getBody_put x y no s h
      simp only [k2, show ¬ ((2 : Int) = 1 ∨ (2 : Int) = 3) by omega, if_neg, not_false_eq_true] at this ⊢
      simp only [show ¬ ((2 : Int) = 3 ∨ (2 : Int) = 4 ∨ (2 : Int) = 5) by omega, show ¬ ((2 : Int) = 1) by omega, if_neg, if_pos, not_false_eq_true]
      rw [← hs]; exact this
    · have k345 : fieldKind no = 3 ∨ fieldKind no = 4 ∨ fieldKind no = 5 := by unfold fieldOk at h; omega
      rw [if_pos k345, if_neg k1, if_neg k2]
      have hb := getBody_put (x ++ bcd (wideN s.length (lenD no))) y no s h
      have hlen : ∀ z, getLen (x ++ (bcd (wideN s.length (lenD no)) ++ z)) x.length (lenD no) = some (s.length, (x.length : Int) + ((bcd (wideN s.length (lenD no))).length : Int)) := fun z => getLen_put x z s.length (lenD no) hn hd
      by_cases k3 : fieldKind no = 3
      · simp only [if_pos k3, k3, or_true, if_pos] at hb ⊢
        rw [List.append_assoc, hlen]
        simp only
        rw [List.append_assoc] at hb
        rw [show (x.length : Int) + ((bcd (wideN s.length (lenD no))).length : Int) = ((x ++ bcd (wideN s.length (lenD no))).length : Int) by simp]
        rw [hb]
        simp only [List.length_append]
        congr 2
        omega
      · have k13 : ¬ (fieldKind no = 1 ∨ fieldKind no = 3) := by omega
        simp only [if_neg k13, if_neg k3] at hb ⊢
        rw [List.append_assoc, hlen]
        simp only
        rw [List.append_assoc] at hb
        rw [show (x.length : Int) + ((bcd (wideN s.length (lenD no))).length : Int) = ((x ++ bcd (wideN s.length (lenD no))).length : Int) by simp]
        rw [hb]
        simp only [List.length_append]
        congr 2
        omega
theorem getFields_put (y : List UInt8) : ∀ (l : List Field) (x : List UInt8), (∀ f ∈ l, fieldOk f.no f.text) → getFields (x ++ (bodies l ++ y)) x.length (l.map Field.no) = some (l, (x.length : Int) + ((bodies l).length : Int))
  | [], x, _ => by simp [getFields, bodies]
  | f :: l, x, h => by
    have h1 := getField_put x (bodies l ++ y) f.no f.text (h f (by simp))
    have h2 := getFields_put y l (x ++ putField f.no f.text) (fun g hg => h g (by simp [hg]))
    have hb : bodies (f :: l) = putField f.no f.text ++ bodies l := by simp [bodies]
    rw [hb, List.map_cons, getFields, List.append_assoc, h1]
    simp only
    rw [List.append_assoc] at h2
    rw [show (x.length : Int) + ((putField f.no f.text).length : Int) = ((x ++ putField f.no f.text).length : Int) by simp, h2]
    simp only [Option.map_some, List.length_append]
    congr 2
    omega
end Go.AW
namespace Go.AW
open IntWalk
theorem bit_same : ∀ r, r < 8 → ∀ r', r' < 8 → ((128 >>> r) &&& (128 >>> r') = 0 ↔ ¬ r = r') := by decide
theorem bit_or (x r r' : Nat) (h : r < 8) (h' : r' < 8) : (x ||| (128 >>> r)) &&& (128 >>> r') = 0 ↔ (¬ r = r' ∧ x &&& (128 >>> r') = 0) := by
  rw [Nat.and_or_distrib_right, Nat.or_eq_zero_iff, bit_same r h r' h', And.comm]
theorem bit_set (bs : List UInt8) (hb : bs.length = 8) (k j : Nat) (hk : k < 64) (hj : j < 64) : bitAt (setBit bs k) j ↔ (j = k ∨ bitAt bs j) := by
  unfold bitAt setBit
  have hk8 : k / 8 < bs.length := by omega
  have hj8 : j / 8 < bs.length := by omega
  by_cases e : k / 8 = j / 8
  · have h1 : (bs.set (k / 8) (UInt8.ofNat ((bs.getD (k / 8) 0).toNat ||| 128 >>> (k % 8)))).getD (j / 8) 0 = UInt8.ofNat ((bs.getD (j / 8) 0).toNat ||| 128 >>> (k % 8)) := by
      rw [e]; simp [hj8]
    rw [h1]
    have hx : (bs.getD (j / 8) 0).toNat < 256 := UInt8.toNat_lt _
    have h2 := (or_tab (bs.getD (j / 8) 0).toNat hx (k % 8) (by omega)).2
    have h3 : (UInt8.ofNat ((bs.getD (j / 8) 0).toNat ||| 128 >>> (k % 8))).toNat = (bs.getD (j / 8) 0).toNat ||| 128 >>> (k % 8) := by
      rw [UInt8.toNat_ofNat']; exact Nat.mod_eq_of_lt h2
    rw [h3, bit_or _ _ _ (by omega) (by omega)]
    have : k % 8 = j % 8 ↔ j = k := by omega
    rw [this]
    by_cases g : j = k <;> simp [g]
  · have h1 : (bs.set (k / 8) (UInt8.ofNat ((bs.getD (k / 8) 0).toNat ||| 128 >>> (k % 8)))).getD (j / 8) 0 = bs.getD (j / 8) 0 := by
      simp only [List.getD, List.getElem?_set, if_neg e]
    rw [h1]
    have : ¬ j = k := fun g => e (by rw [g])
    simp [this]
theorem put_bits (k : Nat) (hk : k < 64) : ∀ (l : List Int) (bs : List UInt8), bs.length = 8 → (∀ x ∈ l, 1 ≤ x ∧ x ≤ 64) → (bitAt (l.foldl putStep bs) k ↔ (((k + 1 : Nat) : Int) ∈ l ∨ bitAt bs k))
  | [], bs, _, _ => by simp
  | x :: l, bs, hb, hx => by
    have h1 := hx x (by simp)
    have h2 : putStep bs x = setBit bs (x - 1).toNat := by unfold putStep; rw [tf_true (show inr x 1 64 from h1), if_pos rfl]
    rw [List.foldl_cons, put_bits k hk l (putStep bs x) (by rw [putStep_len, hb]) (fun y hy => hx y (by simp [hy])), h2, bit_set bs hb _ _ (by omega) hk]
    have : k = (x - 1).toNat ↔ ((k + 1 : Nat) : Int) = x := by omega
    rw [this, List.mem_cons]
    constructor
    · rintro (h | h | h)
      · exact .inl (.inr h)
      · exact .inl (.inl h)
      · exact .inr h
    · rintro ((h | h) | h)
      · exact .inr (.inl h)
      · exact .inl h
      · exact .inr (.inr h)
theorem bit_zero : ∀ k, k < 64 → ¬ bitAt [0, 0, 0, 0, 0, 0, 0, 0] k := by unfold bitAt; decide
theorem bit_put (l : List Int) (h : ∀ x ∈ l, 1 ≤ x ∧ x ≤ 64) (k : Nat) (hk : k < 64) : bitAt (putBits l) k ↔ ((k + 1 : Nat) : Int) ∈ l := by
  unfold putBits
  rw [put_bits k hk l _ rfl h]
  simp [bit_zero k hk]
theorem sorted_ext : ∀ (l m : List Int), l.Pairwise (fun a b => a < b) → m.Pairwise (fun a b => a < b) → (∀ x, x ∈ l ↔ x ∈ m) → l = m
  | [], [], _, _, _ => rfl
  | [], b :: m, _, _, h => by have := (h b).2 (by simp); simp at this
  | a :: l, [], _, _, h => by have := (h a).1 (by simp); simp at this
  | a :: l, b :: m, hl, hm, h => by
    rw [List.pairwise_cons] at hl hm
    have e : a = b := by
      rcases List.mem_cons.1 ((h a).1 (by simp)) with h1 | h1
      · exact h1
      · rcases List.mem_cons.1 ((h b).2 (by simp)) with h2 | h2
        · exact h2.symm
        · have := hm.1 a h1; have := hl.1 b h2; omega
    subst e
    congr 1
    refine sorted_ext l m hl.2 hm.2 fun x => ?_
    constructor
    · intro hx
      rcases List.mem_cons.1 ((h x).1 (by simp [hx])) with h1 | h1
      · have := hl.1 x hx; omega
      · exact h1
    · intro hx
      rcases List.mem_cons.1 ((h x).2 (by simp [hx])) with h1 | h1
      · have := hm.1 x hx; omega
      · exact h1
theorem bitsUp_pw (bs : List UInt8) (n : Nat) : (bitsUp bs n).Pairwise (fun a b => a < b) := by
  unfold bitsUp
  rw [List.pairwise_map]
  exact (List.pairwise_lt_range.filter _).imp (fun h => by omega)
theorem bitsUp_put (l m : List Int) (h : ∀ x ∈ l, 1 ≤ x ∧ x ≤ 64) (hm : m.Pairwise (fun a b => a < b)) (he : ∀ x, x ∈ m ↔ x ∈ l) : bitsUp (putBits l) 64 = m := by
  refine sorted_ext _ _ (bitsUp_pw _ _) hm fun x => ?_
  rw [he]
  unfold bitsUp
  simp only [List.mem_map, List.mem_filter, List.mem_range, tf_iff]
  constructor
  · rintro ⟨k, ⟨hk, hb⟩, rfl⟩
    exact (bit_put l h k hk).1 hb
  · intro hx
    have h1 := h x hx
    refine ⟨(x - 1).toNat, ⟨by omega, (bit_put l h _ (by omega)).2 ?_⟩, by omega⟩
    rw [show (((x - 1).toNat + 1 : Nat) : Int) = x by omega]; exact hx
theorem getBits_put (x y : List UInt8) (l : List Int) : getBits (x ++ (putBits l ++ y)) x.length = some (bitsUp (putBits l) 64, (x.length : Int) + 8) := by
  have h8 := putBits_len l
  unfold getBits
  have hp : pieceP (x ++ (putBits l ++ y)).length x.length 8 := by unfold pieceP; simp only [List.length_append]; omega
  have ho : ((x ++ (putBits l ++ y)).drop x.length).take 8 = putBits l := by have := own_mid x (putBits l) y; rwa [h8] at this
  rw [tf_true hp, if_pos rfl]
  simp only [Int.toNat_natCast]
  rw [ho]
theorem ascI_lt {l : List Field} (h : ascI l) : ∀ (i j : Nat) (h1 : i < j) (h2 : j < l.length), (l[i]'(by omega)).no < l[j].no := by
  intro i j h1
  induction j with
  | zero => omega
  | succ j ih =>
    intro h2
    have h3 := h j h2
    by_cases e : i = j
    · subst e; exact h3
    · have := ih (by omega) (by omega); omega
theorem ascI_pw {l : List Field} (h : ascI l) : (l.map Field.no).Pairwise (fun a b => a < b) := by
  rw [List.pairwise_iff_getElem]
  intro i j hi hj hij
  simp only [List.length_map] at hi hj
  simp only [List.getElem_map]
  exact ascI_lt h i j hij hj
theorem lows_pw {l : List Field} (h : ascI l) : (lows l).Pairwise (fun a b => a < b) := by
  unfold lows
  exact (ascI_pw h).sublist (List.filter_sublist.map _)
theorem highs_pw {l : List Field} (h : ascI l) : (highs l).Pairwise (fun a b => a < b) := by
  unfold highs
  have h1 : ((l.filter fun f => decide (64 < f.no)).map Field.no).Pairwise (fun a b => a < b) := (ascI_pw h).sublist (List.filter_sublist.map _)
  rw [List.pairwise_map] at h1 ⊢
  exact h1.imp (fun h => by omega)
theorem lows_mem {l : List Field} {x : Int} : x ∈ lows l ↔ (∃ f ∈ l, f.no = x) ∧ x ≤ 64 := by
  unfold lows
  simp only [List.mem_map, List.mem_filter, Bool.not_eq_true', decide_eq_false_iff_not]
  constructor
  · rintro ⟨f, ⟨h1, h2⟩, rfl⟩; exact ⟨⟨f, h1, rfl⟩, by omega⟩
  · rintro ⟨⟨f, h1, rfl⟩, h2⟩; exact ⟨f, ⟨h1, by omega⟩, rfl⟩
theorem highs_mem {l : List Field} {x : Int} : x ∈ highs l ↔ (∃ f ∈ l, f.no = x + 64) ∧ 64 < x + 64 := by
  unfold highs
  simp only [List.mem_map, List.mem_filter, decide_eq_true_eq]
  constructor
  · rintro ⟨f, ⟨h1, h2⟩, rfl⟩; exact ⟨⟨f, h1, by omega⟩, by omega⟩
  · rintro ⟨⟨f, h1, h3⟩, h2⟩; exact ⟨f, ⟨h1, by omega⟩, by omega⟩
theorem nos_eq {l : List Field} (h : ascI l) : lows l ++ (highs l).map (· + 64) = l.map Field.no := by
  refine sorted_ext _ _ ?_ (ascI_pw h) fun x => ?_
  · rw [List.pairwise_append]
    refine ⟨lows_pw h, ?_, ?_⟩
    · rw [List.pairwise_map]; exact (highs_pw h).imp (fun h => by omega)
    · intro a ha b hb
      have h1 := (lows_mem.1 ha).2
      obtain ⟨c, hc, rfl⟩ := List.mem_map.1 hb
      have := (highs_mem.1 hc).2
      omega
  · simp only [List.mem_append, List.mem_map, lows_mem, highs_mem]
    constructor
    · rintro (⟨h1, _⟩ | ⟨a, ⟨⟨f, h1, h2⟩, _⟩, rfl⟩)
      · exact h1
      · exact ⟨f, h1, h2⟩
    · rintro ⟨f, h1, rfl⟩
      by_cases h2 : f.no ≤ 64
      · exact .inl ⟨⟨f, h1, rfl⟩, h2⟩
      · exact .inr ⟨f.no - 64, ⟨⟨f, h1, by omega⟩, by omega⟩, by omega⟩
theorem kind_of {no : Int} {s : Str} (h : fieldOk no s) : ¬ fieldKind no = 0 := by unfold fieldOk at h; omega
theorem parse_encode (m : Msg) (h : msgOk m) : parse (encode m) = (m, 0) := by
  obtain ⟨mti, l⟩ := m
  obtain ⟨h1, h2, h3⟩ := h
  simp only at h1 h2 h3
  have hnum : ∀ f ∈ l, 2 ≤ f.no ∧ f.no ≤ 103 := fun f hf => nums_in (h2 f hf)
  have hml : mti.length = 4 := by have := h1.2; omega
  have hb4 : bcdOk mti := ⟨h1.1, by omega⟩
  have hbl : ((bcd mti).length : Int) = 2 := by rw [bcd_len2, hml]; rfl
  have g1 : ∀ y, getBcd (bcd mti ++ y) 0 4 = some (mti, 2) := by
    intro y
    have := getBcd_put [] y mti hb4
    simp only [List.nil_append, List.length_nil, hml, hbl] at this
    exact this
  have hlow : ∀ x ∈ lows l, 2 ≤ x ∧ x ≤ 64 := by
    intro x hx
    obtain ⟨⟨f, hf, rfl⟩, h64⟩ := lows_mem.1 hx
    exact ⟨(hnum f hf).1, h64⟩
  have hhigh : ∀ x ∈ highs l, 1 ≤ x ∧ x ≤ 64 := by
    intro x hx
    obtain ⟨⟨f, hf, he⟩, h64⟩ := highs_mem.1 hx
    have := hnum f hf
    omega
  have hkl : ∀ x ∈ lows l, ¬ fieldKind x = 0 := by
    intro x hx
    obtain ⟨⟨f, hf, rfl⟩, h64⟩ := lows_mem.1 hx
    exact kind_of (h2 f hf)
  have hkh : ∀ x ∈ highs l, ¬ fieldKind (x + 64) = 0 := by
    intro x hx
    obtain ⟨⟨f, hf, he⟩, h64⟩ := highs_mem.1 hx
    rw [← he]; exact kind_of (h2 f hf)
  have hno : notOne (lows l) = lows l := by
    unfold notOne
    rw [List.filter_eq_self]
    intro x hx
    have := hlow x hx
    simp; omega
  have hn1 : ¬ (1 ∈ lows l) := fun hx => by have := hlow 1 hx; omega
  have hbl' : (bcd mti).length = 2 := by omega
  unfold parse encode
  simp only
  rw [List.append_assoc, g1]
  simp only
  have fin : ∀ hd : List UInt8, getFields (bcd mti ++ hd ++ bodies l) ((bcd mti ++ hd).length : Int) (l.map Field.no) = some (l, ((bcd mti ++ hd ++ bodies l).length : Int)) := by
    intro hd
    have := getFields_put [] l (bcd mti ++ hd) h2
    simp only [List.append_nil] at this
    rw [this]
    congr 2
    simp only [List.length_append]; omega
  by_cases hh : 0 < (highs l).length
  · have hhd : heads l = putBits (lows l ++ [1]) ++ putBits (highs l) := by unfold heads; rw [if_pos hh]
    have hup : bitsUp (putBits (lows l ++ [1])) 64 = 1 :: lows l := by
      refine bitsUp_put _ _ ?_ ?_ ?_
      · intro x hx
        rcases List.mem_append.1 hx with g | g
        · have := hlow x g; omega
        · rw [List.mem_singleton.1 g]; omega
      · rw [List.pairwise_cons]; exact ⟨fun x hx => by have := hlow x hx; omega, lows_pw h3⟩
      · intro x; simp only [List.mem_cons, List.mem_append, List.not_mem_nil, or_false]; exact Or.comm
    have hup2 : bitsUp (putBits (highs l)) 64 = highs l := bitsUp_put _ _ hhigh (highs_pw h3) (fun _ => Iff.rfl)
    rw [hhd, List.append_assoc]
    have g2 := getBits_put (bcd mti) (putBits (highs l) ++ bodies l) (lows l ++ [1])
    rw [hbl, hup] at g2
    rw [g2]
    simp only
    have e8 := putBits_len (lows l ++ [1])
    have e8' := putBits_len (highs l)
    have g3 := getBits_put (bcd mti ++ putBits (lows l ++ [1])) (bodies l) (highs l)
    rw [hup2, List.append_assoc] at g3
    have e10 : ((bcd mti ++ putBits (lows l ++ [1])).length : Int) = 2 + 8 := by simp only [List.length_append]; omega
    rw [e10] at g3
    unfold parse2
    have nb : ¬ badLow (1 :: lows l) := by
      rintro ⟨k, hk, k1, k0⟩
      rcases List.mem_cons.1 hk with e | e
      · exact k1 e
      · exact hkl k e k0
    have nb2 : ¬ badHigh (highs l) := by
      rintro ⟨k, hk, k0⟩
      exact hkh k hk k0
    have nn : ¬ highs l = [] := by intro e; rw [e] at hh; simp at hh
    rw [tf_false nb, tf_true (show (1 : Int) ∈ 1 :: lows l by simp), if_neg (by simp), if_pos rfl, g3]
    simp only
    rw [tf_false nn, tf_false nb2, if_neg (by simp), if_neg (by simp)]
    have hno2 : notOne (1 :: lows l) = lows l := by
      have : notOne (1 :: lows l) = notOne (lows l) := by unfold notOne; simp
      rw [this, hno]
    rw [hno2, nos_eq h3]
    unfold parseTail
    have g4 := fin (putBits (lows l ++ [1]) ++ putBits (highs l))
    have e18 : ((bcd mti ++ (putBits (lows l ++ [1]) ++ putBits (highs l))).length : Int) = 2 + 8 + 8 := by simp only [List.length_append]; omega
    rw [e18] at g4
    simp only [List.append_assoc] at g4 ⊢
    rw [g4]
    simp
  · have hz : highs l = [] := List.length_eq_zero_iff.1 (by omega)
    have hhd : heads l = putBits (lows l) := by unfold heads; rw [if_neg hh]
    have hup : bitsUp (putBits (lows l)) 64 = lows l := bitsUp_put _ _ (fun x hx => by have := hlow x hx; omega) (lows_pw h3) (fun _ => Iff.rfl)
    rw [hhd]
    have g2 := getBits_put (bcd mti) (bodies l) (lows l)
    rw [hbl, hup] at g2
    rw [g2]
    simp only
    have e8 := putBits_len (lows l)
    unfold parse2
    have nb : ¬ badLow (lows l) := by
      rintro ⟨k, hk, k1, k0⟩
      exact hkl k hk k0
    rw [tf_false nb, tf_false hn1, if_neg (by simp), if_neg (by simp), hno]
    have hnos := nos_eq h3
    rw [hz, List.map_nil, List.append_nil] at hnos
    rw [hnos]
    unfold parseTail
    have g4 := fin (putBits (lows l))
    have e10 : ((bcd mti ++ putBits (lows l)).length : Int) = 2 + 8 := by simp only [List.length_append]; omega
    rw [e10, hnos] at g4
    simp only [List.append_assoc] at g4 ⊢
    rw [g4]
    simp
theorem getBcd_encode (m : Msg) (h : msgOk m) : getBcd (encode m) 0 4 = some (m.mti, 2) := by
  have h1 := h.1
  have hml : m.mti.length = 4 := by have := h1.2; omega
  have := getBcd_put [] (heads m.list ++ bodies m.list) m.mti ⟨h1.1, by omega⟩
  have hbl : ((bcd m.mti).length : Int) = 2 := by rw [bcd_len2, hml]; rfl
  simp only [List.nil_append, List.length_nil, hml, hbl] at this
  unfold encode
  rw [List.append_assoc]
  exact this
theorem ascI_len {l : List Field} (h : ascI l) (h2 : ∀ f ∈ l, 2 ≤ f.no ∧ f.no ≤ 103) : l.length ≤ 102 := by
  have key : ∀ i (hi : i < l.length), 2 + (i : Int) ≤ l[i].no := by
    intro i
    induction i with
    | zero => intro hi; have := h2 _ (at_mem hi); omega
    | succ i ih => intro hi; have := ih (by omega); have := h i hi; omega
  by_cases e : l.length = 0
  · omega
  · have := key (l.length - 1) (by omega)
    have := h2 _ (at_mem (show l.length - 1 < l.length by omega))
    omega
theorem msg_fit {m : Msg} (h : msgOk m) : MFit m := by
  have h1 := h.1.2
  have h2 := ascI_len h.2.2 (fun f hf => nums_in (h.2.1 f hf))
  exact ⟨by omega, by omega, fun f hf => by have := (fieldOk_len (h.2.1 f hf)).1; omega⟩
theorem encode_len {m : Msg} (h : msgOk m) : (encode m).length < 10000 := by
  have h1 := bcd_len m.mti
  have h2 := bodies_len m.list h.2.1
  have h3 := ascI_len h.2.2 (fun f hf => nums_in (h.2.1 f hf))
  have h4 := h.1.2
  have h5 : (heads m.list).length ≤ 16 := by
    unfold heads; split <;> simp [putBits_len]
  unfold encode
  simp only [List.length_append]
  omega
end Go.AW
namespace Go.AW
open IntWalk
set_option maxRecDepth 20000
def keepB (op : Int) (no : Int) : Bool := decide (no = 2) || decide (no = 3) || decide (no = 11) || decide (no ∈ (opOf op).fields)
theorem keep_eq (q : Req) (f : Field) : tf (keepF q f) = keepB q.op f.no := by
  by_cases h : keepF q f
  · rw [tf_true h]
    unfold keepF uses at h
    unfold keepB
    rcases h with h | h | h | h <;> simp [h]
  · rw [tf_false h]
    unfold keepF uses at h
    unfold keepB
    have h2 : ¬ f.no = 2 := fun g => h (.inl g)
    have h3 : ¬ f.no = 3 := fun g => h (.inr (.inl g))
    have h4 : ¬ f.no = 11 := fun g => h (.inr (.inr (.inl g)))
    have h5 : ¬ f.no ∈ (opOf q.op).fields := fun g => h (.inr (.inr (.inr g)))
    simp [h2, h3, h4, h5]
theorem keepL_eq (q : Req) (l : List Field) : keepL q l = l.filter fun f => keepB q.op f.no := by
  unfold keepL; congr 1; funext f; exact keep_eq q f
theorem drop_rep (k : Nat) (l : Str) (h : ∀ b ∈ l, ¬ b = 32) : (List.replicate k 32 ++ l).dropWhile (· == 32) = l := by
  induction k with
  | zero =>
    cases l with
    | nil => rfl
    | cons x l => simp [h x (by simp)]
  | succ k ih => simpa [List.replicate_succ] using ih
theorem bare_pad (s : Str) (k : Nat) (h : ∀ b ∈ s, ¬ b = 32) : bare (s ++ List.replicate k 32) = s := by
  unfold bare Lib.trimRightB
  rw [List.reverse_append, List.reverse_replicate, drop_rep k s.reverse (by intro b hb; exact h b (by simpa using hb)), List.reverse_reverse]
theorem hold_bytes {s : Str} (h : holdIdOk s) : ∀ b ∈ s, 33 ≤ b.toNat ∧ b.toNat ≤ 126 := by
  intro b hb
  have := h.1 b hb
  unfold idByte digit at this; omega
theorem hold_field {s : Str} (h : holdIdOk s) : fieldFit 38 s = s ++ List.replicate (6 - s.length) 32 ∧ fieldOk 38 (fieldFit 38 s) := by
  have hl := h.2
  unfold inr at hl
  have e1 : fieldKind 38 = 2 := by decide
  have e2 : fieldSize 38 = 6 := by decide
  have h0 : fit0 38 s = s ++ List.replicate (6 - s.length) 32 := by
    unfold fit0 pad48; rw [e1, e2]
    rw [if_neg (by omega), if_pos rfl]
    congr 2; omega
  have h1 : fieldOk 38 (fit0 38 s) := by
    refine .inr (.inl ⟨e1, ?_, ?_⟩)
    · rw [h0]
      intro b hb
      rcases List.mem_append.1 hb with g | g
      · have := hold_bytes h b g; omega
      · rw [List.eq_of_mem_replicate g]; decide
    · rw [h0, e2, List.length_append, List.length_replicate]; omega
  unfold fieldFit
  rw [tf_true h1, if_pos rfl]
  exact ⟨h0, h1⟩
theorem hold_bare {s : Str} (h : holdIdOk s) : bare (fieldFit 38 s) = s := by
  rw [(hold_field h).1]
  refine bare_pad s _ fun b hb e => ?_
  have := (hold_bytes h b hb).1
  rw [e] at this
  exact absurd this (by decide)
theorem narrow_wide (a : Int) (w : Nat) (h : 0 ≤ a ∧ a < 100) (hw : 2 ≤ w ∧ w ≤ 18) : narrowV (wideN a.toNat w) = a := by
  obtain ⟨h1, h2⟩ := wideN_ok a.toNat w (by omega) hw.1
  unfold narrowV
  rw [tf_true (show narrowOk (wideN a.toNat w) from ⟨h1, by omega⟩), if_pos rfl, val_wide _ _ (by omega)]
  omega
theorem acct_digits {s : Str} (h : acctIdOk s) : digits s ∧ 1 ≤ (s.length : Int) ∧ (s.length : Int) ≤ 19 := ⟨h.2.2.1, by have := h.2.1; omega, h.1⟩
theorem f2_ok {s : Str} (h : acctIdOk s) : fieldOk 2 s := by
  have e : fieldSize 2 = 19 := by decide
  have := acct_digits h
  exact .inr (.inr (.inl ⟨by decide, this.1, by rw [e]; exact this.2⟩))
theorem f103_ok {s : Str} (h : acctIdOk s) : fieldOk 103 s := by
  have e : fieldSize 103 = 20 := by decide
  have := acct_digits h
  exact .inr (.inr (.inr ⟨.inl (by decide), fun b hb => by have := (acct_digits h).1.2 b hb; unfold digit at this; omega, by rw [e]; unfold inr; omega⟩))
theorem fnum_ok {no : Int} {s : Str} {n : Nat} (hk : fieldKind no = 1) (hz : fieldSize no = n) (h : digits s) (hl : s.length = n) : fieldOk no s := .inl ⟨hk, h, by omega⟩
theorem three_ok : ∀ r ∈ opRows, digits (r.code ++ [48, 48, 48, 48]) ∧ (r.code ++ [48, 48, 48, 48]).length = 6 := by
  have : ∀ r ∈ opRows, ((r.code ++ [48, 48, 48, 48]) ≠ [] ∧ ∀ b ∈ (r.code ++ [48, 48, 48, 48]), digit b) ∧ (r.code ++ [48, 48, 48, 48]).length = 6 := by decide
  exact this
theorem op_row {op : Int} (h : 1 ≤ op ∧ op ≤ 8) : opOf op ∈ opRows := by
  rcases op_cases h with rfl | rfl | rfl | rfl | rfl | rfl | rfl | rfl <;> simp [opOf, opRows]
theorem seven_ok {q : Req} (g : GReq q) : ∀ f ∈ keepL q (seven q), fieldOk f.no f.text := by
  obtain ⟨h1, h2, h3, h4, h5, h6, h7, h8⟩ := g
  have hr := three_ok _ (op_row h1)
  have ht : ∀ s ∈ trL, (s ≠ [] ∧ ∀ b ∈ s, digit b) ∧ s.length = 6 := by decide
  have ht := ht _ h4
  have a4 := wideN_ok q.amount.toNat 12 (by omega) (by omega)
  have a14 := wideN_ok q.ttl.toNat 4 (by omega) (by omega)
  intro f hf
  rw [keepL_eq, List.mem_filter] at hf
  obtain ⟨hf, hk⟩ := hf
  simp only [seven, List.mem_cons, List.not_mem_nil, or_false] at hf
  rcases hf with rfl | rfl | rfl | rfl | rfl | rfl | rfl
  · exact f2_ok h3
  · exact fnum_ok (n := 6) (show fieldKind 3 = 1 by decide) (show fieldSize 3 = 6 by decide) hr.1 hr.2
  · exact fnum_ok (n := 12) (show fieldKind 4 = 1 by decide) (show fieldSize 4 = 12 by decide) a4.1 a4.2
  · exact fnum_ok (n := 6) (show fieldKind 11 = 1 by decide) (show fieldSize 11 = 6 by decide) ht.1 ht.2
  · exact fnum_ok (n := 4) (show fieldKind 14 = 1 by decide) (show fieldSize 14 = 4 by decide) a14.1 a14.2
  · rcases h5 with ⟨_, h⟩ | ⟨h, _⟩
    · exact (hold_field h).2
    · exfalso
      rcases op_cases h1 with e | e | e | e | e | e | e | e <;> rw [e] at hk h <;> first | omega | (revert hk; simp [keepB, opOf, opRows])
  · rcases h8 with ⟨_, h⟩ | ⟨h, _⟩
    · exact f103_ok h
    · exfalso
      rcases op_cases h1 with e | e | e | e | e | e | e | e <;> rw [e] at hk h <;> first | omega | (revert hk; simp [keepB, opOf, opRows])
theorem asc_filter {l : List Field} (h : (l.map Field.no).Pairwise (fun a b => a < b)) (p : Field → Bool) : ascI (l.filter p) := by
  have h1 : ((l.filter p).map Field.no).Pairwise (fun a b => a < b) := h.sublist (List.filter_sublist.map _)
  intro i hi
  have := List.pairwise_iff_getElem.1 h1 i (i + 1) (by simp; omega) (by simpa using hi) (by omega)
  simpa using this
theorem mti_ok {op : Int} (h : 1 ≤ op ∧ op ≤ 8) : mtiOk (opOf op).mti ∧ mtiKnown (opOf op).mti := by
  have : ∀ r ∈ opRows, ((r.mti ≠ [] ∧ ∀ b ∈ r.mti, digit b) ∧ (r.mti.length : Int) = 4) ∧ (r.mti.getD 2 0).toNat % 2 = 0 := by decide
  have h2 : ∀ r ∈ opRows, r.mti = [48, 49, 48, 48] ∨ r.mti = [48, 50, 48, 48] ∨ r.mti = [48, 50, 50, 48] := by decide
  exact ⟨this _ (op_row h), h2 _ (op_row h)⟩
theorem req_msg_ok {q : Req} (g : GReq q) : msgOk (reqMsg q) := by
  refine ⟨?_, seven_ok g, ?_⟩
  · have := (mti_ok g.op).1.1
    rw [← g.mti] at this; exact this
  · show ascI (keepL q (seven q))
    rw [keepL_eq]
    refine asc_filter ?_ _
    show List.Pairwise (fun a b => a < b) ([2, 3, 4, 11, 14, 38, 103] : List Int)
    decide
end Go.AW
namespace Go.AW
open IntWalk
set_option maxRecDepth 20000
theorem get_field (m : Msg) (no : Int) : msgField m no = (m.list.find? fun f => f.no == no).map Field.text := rfl
theorem find_no (x : Int) (s : Str) (l : List Field) (no : Int) : ((⟨x, s⟩ :: l : List Field).find? fun f => f.no == no) = if x = no then some ⟨x, s⟩ else l.find? fun f => f.no == no := by
  rw [List.find?_cons]
  by_cases h : x = no
  · subst h; simp
  · have : (x == no) = false := by simpa using h
    simp only [this, if_neg h]
theorem fill_cons (m : Msg) (q : Req) (no : Int) (r : List Int) (s : Str) (h : msgField m no = some s) : fillReq m q (no :: r) = fillReq m (setReq q no s) r := by
  rw [fillReq, h]
theorem fill_nil (m : Msg) (q : Req) : fillReq m q [] = some q := rfl
theorem msg_1 (acct other hold trace : Str) (amount ttl : Int) : reqMsg ⟨1, acct, [], hold, trace, [48, 49, 48, 48], amount, ttl⟩ = ⟨[48, 49, 48, 48], [⟨2, acct⟩, ⟨3, [48, 48, 48, 48, 48, 48]⟩, ⟨4, wideN amount.toNat 12⟩, ⟨11, trace⟩, ⟨14, wideN ttl.toNat 4⟩, ⟨38, fieldFit 38 hold⟩]⟩ := by
  simp [reqMsg, keepL_eq, seven, keepB, opOf, opRows]
theorem req_1 (acct other hold trace : Str) (amount ttl : Int) (h38 : bare (fieldFit 38 hold) = hold) (h4 : narrowV (wideN amount.toNat 12) = amount) (h14 : narrowV (wideN ttl.toNat 4) = ttl) (ok : msgOk ⟨[48, 49, 48, 48], [⟨2, acct⟩, ⟨3, [48, 48, 48, 48, 48, 48]⟩, ⟨4, wideN amount.toNat 12⟩, ⟨11, trace⟩, ⟨14, wideN ttl.toNat 4⟩, ⟨38, fieldFit 38 hold⟩]⟩) (rok : reqOk ⟨1, acct, [], hold, trace, [48, 49, 48, 48], amount, ttl⟩) : reqOf ⟨[48, 49, 48, 48], [⟨2, acct⟩, ⟨3, [48, 48, 48, 48, 48, 48]⟩, ⟨4, wideN amount.toNat 12⟩, ⟨11, trace⟩, ⟨14, wideN ttl.toNat 4⟩, ⟨38, fieldFit 38 hold⟩]⟩ = (⟨1, acct, [], hold, trace, [48, 49, 48, 48], amount, ttl⟩, 0) := by
  have kn : mtiKnown [48, 49, 48, 48] := by unfold mtiKnown; decide
  have g3 : msgField ⟨[48, 49, 48, 48], [⟨2, acct⟩, ⟨3, [48, 48, 48, 48, 48, 48]⟩, ⟨4, wideN amount.toNat 12⟩, ⟨11, trace⟩, ⟨14, wideN ttl.toNat 4⟩, ⟨38, fieldFit 38 hold⟩]⟩ 3 = some [48, 48, 48, 48, 48, 48] := by simp [get_field, find_no]
  have ho : opFor ⟨[48, 49, 48, 48], [⟨2, acct⟩, ⟨3, [48, 48, 48, 48, 48, 48]⟩, ⟨4, wideN amount.toNat 12⟩, ⟨11, trace⟩, ⟨14, wideN ttl.toNat 4⟩, ⟨38, fieldFit 38 hold⟩]⟩ [48, 48, 48, 48, 48, 48] = 1 := by
    unfold opFor
    rw [idx_at (i := 0) (l := opRows) (by decide) (by simp only; decide) (by simp only; decide)]; rfl
  have hf : (opOf 1).fields = [4, 14, 38] := rfl
  unfold reqOf
  rw [tf_true ok, if_pos rfl, tf_true kn, if_pos rfl, g3]
  simp only
  rw [ho, hf]
  rw [fill_cons _ _ 2 _ (acct) (by simp [get_field, find_no])]
  rw [fill_cons _ _ 11 _ (trace) (by simp [get_field, find_no])]
  rw [fill_cons _ _ 4 _ (wideN amount.toNat 12) (by simp [get_field, find_no])]
  rw [fill_cons _ _ 14 _ (wideN ttl.toNat 4) (by simp [get_field, find_no])]
  rw [fill_cons _ _ 38 _ (fieldFit 38 hold) (by simp [get_field, find_no])]
  rw [fill_nil]
  simp only [setReq, if_pos, if_neg, Int.reduceEq, if_true, if_false, h38, h4, h14]
  rw [tf_true rok, if_pos rfl]
theorem msg_2 (acct other hold trace : Str) (amount ttl : Int) : reqMsg ⟨2, acct, [], hold, trace, [48, 49, 48, 48], amount, 0⟩ = ⟨[48, 49, 48, 48], [⟨2, acct⟩, ⟨3, [48, 50, 48, 48, 48, 48]⟩, ⟨4, wideN amount.toNat 12⟩, ⟨11, trace⟩, ⟨38, fieldFit 38 hold⟩]⟩ := by
  simp [reqMsg, keepL_eq, seven, keepB, opOf, opRows]
theorem req_2 (acct other hold trace : Str) (amount ttl : Int) (h38 : bare (fieldFit 38 hold) = hold) (h4 : narrowV (wideN amount.toNat 12) = amount) (ok : msgOk ⟨[48, 49, 48, 48], [⟨2, acct⟩, ⟨3, [48, 50, 48, 48, 48, 48]⟩, ⟨4, wideN amount.toNat 12⟩, ⟨11, trace⟩, ⟨38, fieldFit 38 hold⟩]⟩) (rok : reqOk ⟨2, acct, [], hold, trace, [48, 49, 48, 48], amount, 0⟩) : reqOf ⟨[48, 49, 48, 48], [⟨2, acct⟩, ⟨3, [48, 50, 48, 48, 48, 48]⟩, ⟨4, wideN amount.toNat 12⟩, ⟨11, trace⟩, ⟨38, fieldFit 38 hold⟩]⟩ = (⟨2, acct, [], hold, trace, [48, 49, 48, 48], amount, 0⟩, 0) := by
  have kn : mtiKnown [48, 49, 48, 48] := by unfold mtiKnown; decide
  have g3 : msgField ⟨[48, 49, 48, 48], [⟨2, acct⟩, ⟨3, [48, 50, 48, 48, 48, 48]⟩, ⟨4, wideN amount.toNat 12⟩, ⟨11, trace⟩, ⟨38, fieldFit 38 hold⟩]⟩ 3 = some [48, 50, 48, 48, 48, 48] := by simp [get_field, find_no]
  have ho : opFor ⟨[48, 49, 48, 48], [⟨2, acct⟩, ⟨3, [48, 50, 48, 48, 48, 48]⟩, ⟨4, wideN amount.toNat 12⟩, ⟨11, trace⟩, ⟨38, fieldFit 38 hold⟩]⟩ [48, 50, 48, 48, 48, 48] = 2 := by
    unfold opFor
    rw [idx_at (i := 1) (l := opRows) (by decide) (by simp only; decide) (by simp only; decide)]; rfl
  have hf : (opOf 2).fields = [4, 38] := rfl
  unfold reqOf
  rw [tf_true ok, if_pos rfl, tf_true kn, if_pos rfl, g3]
  simp only
  rw [ho, hf]
  rw [fill_cons _ _ 2 _ (acct) (by simp [get_field, find_no])]
  rw [fill_cons _ _ 11 _ (trace) (by simp [get_field, find_no])]
  rw [fill_cons _ _ 4 _ (wideN amount.toNat 12) (by simp [get_field, find_no])]
  rw [fill_cons _ _ 38 _ (fieldFit 38 hold) (by simp [get_field, find_no])]
  rw [fill_nil]
  simp only [setReq, if_pos, if_neg, Int.reduceEq, if_true, if_false, h38, h4]
  rw [tf_true rok, if_pos rfl]
theorem msg_3 (acct other hold trace : Str) (amount ttl : Int) : reqMsg ⟨3, acct, [], hold, trace, [48, 50, 50, 48], amount, 0⟩ = ⟨[48, 50, 50, 48], [⟨2, acct⟩, ⟨3, [48, 49, 48, 48, 48, 48]⟩, ⟨4, wideN amount.toNat 12⟩, ⟨11, trace⟩, ⟨38, fieldFit 38 hold⟩]⟩ := by
  simp [reqMsg, keepL_eq, seven, keepB, opOf, opRows]
theorem req_3 (acct other hold trace : Str) (amount ttl : Int) (h38 : bare (fieldFit 38 hold) = hold) (h4 : narrowV (wideN amount.toNat 12) = amount) (ok : msgOk ⟨[48, 50, 50, 48], [⟨2, acct⟩, ⟨3, [48, 49, 48, 48, 48, 48]⟩, ⟨4, wideN amount.toNat 12⟩, ⟨11, trace⟩, ⟨38, fieldFit 38 hold⟩]⟩) (rok : reqOk ⟨3, acct, [], hold, trace, [48, 50, 50, 48], amount, 0⟩) : reqOf ⟨[48, 50, 50, 48], [⟨2, acct⟩, ⟨3, [48, 49, 48, 48, 48, 48]⟩, ⟨4, wideN amount.toNat 12⟩, ⟨11, trace⟩, ⟨38, fieldFit 38 hold⟩]⟩ = (⟨3, acct, [], hold, trace, [48, 50, 50, 48], amount, 0⟩, 0) := by
  have kn : mtiKnown [48, 50, 50, 48] := by unfold mtiKnown; decide
  have g3 : msgField ⟨[48, 50, 50, 48], [⟨2, acct⟩, ⟨3, [48, 49, 48, 48, 48, 48]⟩, ⟨4, wideN amount.toNat 12⟩, ⟨11, trace⟩, ⟨38, fieldFit 38 hold⟩]⟩ 3 = some [48, 49, 48, 48, 48, 48] := by simp [get_field, find_no]
  have ho : opFor ⟨[48, 50, 50, 48], [⟨2, acct⟩, ⟨3, [48, 49, 48, 48, 48, 48]⟩, ⟨4, wideN amount.toNat 12⟩, ⟨11, trace⟩, ⟨38, fieldFit 38 hold⟩]⟩ [48, 49, 48, 48, 48, 48] = 3 := by
    unfold opFor
    rw [idx_at (i := 2) (l := opRows) (by decide) (by simp only; decide) (by simp only; decide)]; rfl
  have hf : (opOf 3).fields = [4, 38] := rfl
  unfold reqOf
  rw [tf_true ok, if_pos rfl, tf_true kn, if_pos rfl, g3]
  simp only
  rw [ho, hf]
  rw [fill_cons _ _ 2 _ (acct) (by simp [get_field, find_no])]
  rw [fill_cons _ _ 11 _ (trace) (by simp [get_field, find_no])]
  rw [fill_cons _ _ 4 _ (wideN amount.toNat 12) (by simp [get_field, find_no])]
  rw [fill_cons _ _ 38 _ (fieldFit 38 hold) (by simp [get_field, find_no])]
  rw [fill_nil]
  simp only [setReq, if_pos, if_neg, Int.reduceEq, if_true, if_false, h38, h4]
  rw [tf_true rok, if_pos rfl]
theorem msg_4 (acct other hold trace : Str) (amount ttl : Int) : reqMsg ⟨4, acct, [], hold, trace, [48, 50, 50, 48], amount, 0⟩ = ⟨[48, 50, 50, 48], [⟨2, acct⟩, ⟨3, [48, 48, 48, 48, 48, 48]⟩, ⟨4, wideN amount.toNat 12⟩, ⟨11, trace⟩, ⟨38, fieldFit 38 hold⟩]⟩ := by
  simp [reqMsg, keepL_eq, seven, keepB, opOf, opRows]
theorem req_4 (acct other hold trace : Str) (amount ttl : Int) (h38 : bare (fieldFit 38 hold) = hold) (h4 : narrowV (wideN amount.toNat 12) = amount) (ok : msgOk ⟨[48, 50, 50, 48], [⟨2, acct⟩, ⟨3, [48, 48, 48, 48, 48, 48]⟩, ⟨4, wideN amount.toNat 12⟩, ⟨11, trace⟩, ⟨38, fieldFit 38 hold⟩]⟩) (rok : reqOk ⟨4, acct, [], hold, trace, [48, 50, 50, 48], amount, 0⟩) : reqOf ⟨[48, 50, 50, 48], [⟨2, acct⟩, ⟨3, [48, 48, 48, 48, 48, 48]⟩, ⟨4, wideN amount.toNat 12⟩, ⟨11, trace⟩, ⟨38, fieldFit 38 hold⟩]⟩ = (⟨4, acct, [], hold, trace, [48, 50, 50, 48], amount, 0⟩, 0) := by
  have kn : mtiKnown [48, 50, 50, 48] := by unfold mtiKnown; decide
  have g3 : msgField ⟨[48, 50, 50, 48], [⟨2, acct⟩, ⟨3, [48, 48, 48, 48, 48, 48]⟩, ⟨4, wideN amount.toNat 12⟩, ⟨11, trace⟩, ⟨38, fieldFit 38 hold⟩]⟩ 3 = some [48, 48, 48, 48, 48, 48] := by simp [get_field, find_no]
  have ho : opFor ⟨[48, 50, 50, 48], [⟨2, acct⟩, ⟨3, [48, 48, 48, 48, 48, 48]⟩, ⟨4, wideN amount.toNat 12⟩, ⟨11, trace⟩, ⟨38, fieldFit 38 hold⟩]⟩ [48, 48, 48, 48, 48, 48] = 4 := by
    unfold opFor
    rw [idx_at (i := 3) (l := opRows) (by decide) (by simp only; decide) (by simp only; decide)]; rfl
  have hf : (opOf 4).fields = [4, 38] := rfl
  unfold reqOf
  rw [tf_true ok, if_pos rfl, tf_true kn, if_pos rfl, g3]
  simp only
  rw [ho, hf]
  rw [fill_cons _ _ 2 _ (acct) (by simp [get_field, find_no])]
  rw [fill_cons _ _ 11 _ (trace) (by simp [get_field, find_no])]
  rw [fill_cons _ _ 4 _ (wideN amount.toNat 12) (by simp [get_field, find_no])]
  rw [fill_cons _ _ 38 _ (fieldFit 38 hold) (by simp [get_field, find_no])]
  rw [fill_nil]
  simp only [setReq, if_pos, if_neg, Int.reduceEq, if_true, if_false, h38, h4]
  rw [tf_true rok, if_pos rfl]
theorem msg_5 (acct other hold trace : Str) (amount ttl : Int) : reqMsg ⟨5, acct, [], hold, trace, [48, 50, 50, 48], 0, 0⟩ = ⟨[48, 50, 50, 48], [⟨2, acct⟩, ⟨3, [50, 48, 48, 48, 48, 48]⟩, ⟨11, trace⟩, ⟨38, fieldFit 38 hold⟩]⟩ := by
  simp [reqMsg, keepL_eq, seven, keepB, opOf, opRows]
theorem req_5 (acct other hold trace : Str) (amount ttl : Int) (h38 : bare (fieldFit 38 hold) = hold) (ok : msgOk ⟨[48, 50, 50, 48], [⟨2, acct⟩, ⟨3, [50, 48, 48, 48, 48, 48]⟩, ⟨11, trace⟩, ⟨38, fieldFit 38 hold⟩]⟩) (rok : reqOk ⟨5, acct, [], hold, trace, [48, 50, 50, 48], 0, 0⟩) : reqOf ⟨[48, 50, 50, 48], [⟨2, acct⟩, ⟨3, [50, 48, 48, 48, 48, 48]⟩, ⟨11, trace⟩, ⟨38, fieldFit 38 hold⟩]⟩ = (⟨5, acct, [], hold, trace, [48, 50, 50, 48], 0, 0⟩, 0) := by
  have kn : mtiKnown [48, 50, 50, 48] := by unfold mtiKnown; decide
  have g3 : msgField ⟨[48, 50, 50, 48], [⟨2, acct⟩, ⟨3, [50, 48, 48, 48, 48, 48]⟩, ⟨11, trace⟩, ⟨38, fieldFit 38 hold⟩]⟩ 3 = some [50, 48, 48, 48, 48, 48] := by simp [get_field, find_no]
  have ho : opFor ⟨[48, 50, 50, 48], [⟨2, acct⟩, ⟨3, [50, 48, 48, 48, 48, 48]⟩, ⟨11, trace⟩, ⟨38, fieldFit 38 hold⟩]⟩ [50, 48, 48, 48, 48, 48] = 5 := by
    unfold opFor
    rw [idx_at (i := 4) (l := opRows) (by decide) (by simp only; decide) (by simp only; decide)]; rfl
  have hf : (opOf 5).fields = [38] := rfl
  unfold reqOf
  rw [tf_true ok, if_pos rfl, tf_true kn, if_pos rfl, g3]
  simp only
  rw [ho, hf]
  rw [fill_cons _ _ 2 _ (acct) (by simp [get_field, find_no])]
  rw [fill_cons _ _ 11 _ (trace) (by simp [get_field, find_no])]
  rw [fill_cons _ _ 38 _ (fieldFit 38 hold) (by simp [get_field, find_no])]
  rw [fill_nil]
  simp only [setReq, if_pos, if_neg, Int.reduceEq, if_true, if_false, h38]
  rw [tf_true rok, if_pos rfl]
theorem msg_6 (acct other hold trace : Str) (amount ttl : Int) : reqMsg ⟨6, acct, other, hold, trace, [48, 50, 48, 48], 0, 0⟩ = ⟨[48, 50, 48, 48], [⟨2, acct⟩, ⟨3, [52, 48, 48, 48, 48, 48]⟩, ⟨11, trace⟩, ⟨38, fieldFit 38 hold⟩, ⟨103, other⟩]⟩ := by
  simp [reqMsg, keepL_eq, seven, keepB, opOf, opRows]
theorem req_6 (acct other hold trace : Str) (amount ttl : Int) (h38 : bare (fieldFit 38 hold) = hold) (ok : msgOk ⟨[48, 50, 48, 48], [⟨2, acct⟩, ⟨3, [52, 48, 48, 48, 48, 48]⟩, ⟨11, trace⟩, ⟨38, fieldFit 38 hold⟩, ⟨103, other⟩]⟩) (rok : reqOk ⟨6, acct, other, hold, trace, [48, 50, 48, 48], 0, 0⟩) : reqOf ⟨[48, 50, 48, 48], [⟨2, acct⟩, ⟨3, [52, 48, 48, 48, 48, 48]⟩, ⟨11, trace⟩, ⟨38, fieldFit 38 hold⟩, ⟨103, other⟩]⟩ = (⟨6, acct, other, hold, trace, [48, 50, 48, 48], 0, 0⟩, 0) := by
  have kn : mtiKnown [48, 50, 48, 48] := by unfold mtiKnown; decide
  have g3 : msgField ⟨[48, 50, 48, 48], [⟨2, acct⟩, ⟨3, [52, 48, 48, 48, 48, 48]⟩, ⟨11, trace⟩, ⟨38, fieldFit 38 hold⟩, ⟨103, other⟩]⟩ 3 = some [52, 48, 48, 48, 48, 48] := by simp [get_field, find_no]
  have ho : opFor ⟨[48, 50, 48, 48], [⟨2, acct⟩, ⟨3, [52, 48, 48, 48, 48, 48]⟩, ⟨11, trace⟩, ⟨38, fieldFit 38 hold⟩, ⟨103, other⟩]⟩ [52, 48, 48, 48, 48, 48] = 6 := by
    unfold opFor
    rw [idx_at (i := 5) (l := opRows) (by decide) (by simp only; decide) (by simp only; decide)]; rfl
  have hf : (opOf 6).fields = [38, 103] := rfl
  unfold reqOf
  rw [tf_true ok, if_pos rfl, tf_true kn, if_pos rfl, g3]
  simp only
  rw [ho, hf]
  rw [fill_cons _ _ 2 _ (acct) (by simp [get_field, find_no])]
  rw [fill_cons _ _ 11 _ (trace) (by simp [get_field, find_no])]
  rw [fill_cons _ _ 38 _ (fieldFit 38 hold) (by simp [get_field, find_no])]
  rw [fill_cons _ _ 103 _ (other) (by simp [get_field, find_no])]
  rw [fill_nil]
  simp only [setReq, if_pos, if_neg, Int.reduceEq, if_true, if_false, h38]
  rw [tf_true rok, if_pos rfl]
theorem msg_7 (acct other hold trace : Str) (amount ttl : Int) : reqMsg ⟨7, acct, [], [], trace, [48, 49, 48, 48], 0, 0⟩ = ⟨[48, 49, 48, 48], [⟨2, acct⟩, ⟨3, [51, 49, 48, 48, 48, 48]⟩, ⟨11, trace⟩]⟩ := by
  simp [reqMsg, keepL_eq, seven, keepB, opOf, opRows]
theorem req_7 (acct other hold trace : Str) (amount ttl : Int)  (ok : msgOk ⟨[48, 49, 48, 48], [⟨2, acct⟩, ⟨3, [51, 49, 48, 48, 48, 48]⟩, ⟨11, trace⟩]⟩) (rok : reqOk ⟨7, acct, [], [], trace, [48, 49, 48, 48], 0, 0⟩) : reqOf ⟨[48, 49, 48, 48], [⟨2, acct⟩, ⟨3, [51, 49, 48, 48, 48, 48]⟩, ⟨11, trace⟩]⟩ = (⟨7, acct, [], [], trace, [48, 49, 48, 48], 0, 0⟩, 0) := by
  have kn : mtiKnown [48, 49, 48, 48] := by unfold mtiKnown; decide
  have g3 : msgField ⟨[48, 49, 48, 48], [⟨2, acct⟩, ⟨3, [51, 49, 48, 48, 48, 48]⟩, ⟨11, trace⟩]⟩ 3 = some [51, 49, 48, 48, 48, 48] := by simp [get_field, find_no]
  have ho : opFor ⟨[48, 49, 48, 48], [⟨2, acct⟩, ⟨3, [51, 49, 48, 48, 48, 48]⟩, ⟨11, trace⟩]⟩ [51, 49, 48, 48, 48, 48] = 7 := by
    unfold opFor
    rw [idx_at (i := 6) (l := opRows) (by decide) (by simp only; decide) (by simp only; decide)]; rfl
  have hf : (opOf 7).fields = [] := rfl
  unfold reqOf
  rw [tf_true ok, if_pos rfl, tf_true kn, if_pos rfl, g3]
  simp only
  rw [ho, hf]
  rw [fill_cons _ _ 2 _ (acct) (by simp [get_field, find_no])]
  rw [fill_cons _ _ 11 _ (trace) (by simp [get_field, find_no])]
  rw [fill_nil]
  simp only [setReq, if_pos, if_neg, Int.reduceEq, if_true, if_false]
  rw [tf_true rok, if_pos rfl]
theorem msg_8 (acct other hold trace : Str) (amount ttl : Int) : reqMsg ⟨8, acct, [], [], trace, [48, 50, 48, 48], 0, 0⟩ = ⟨[48, 50, 48, 48], [⟨2, acct⟩, ⟨3, [57, 48, 48, 48, 48, 48]⟩, ⟨11, trace⟩]⟩ := by
  simp [reqMsg, keepL_eq, seven, keepB, opOf, opRows]
theorem req_8 (acct other hold trace : Str) (amount ttl : Int)  (ok : msgOk ⟨[48, 50, 48, 48], [⟨2, acct⟩, ⟨3, [57, 48, 48, 48, 48, 48]⟩, ⟨11, trace⟩]⟩) (rok : reqOk ⟨8, acct, [], [], trace, [48, 50, 48, 48], 0, 0⟩) : reqOf ⟨[48, 50, 48, 48], [⟨2, acct⟩, ⟨3, [57, 48, 48, 48, 48, 48]⟩, ⟨11, trace⟩]⟩ = (⟨8, acct, [], [], trace, [48, 50, 48, 48], 0, 0⟩, 0) := by
  have kn : mtiKnown [48, 50, 48, 48] := by unfold mtiKnown; decide
  have g3 : msgField ⟨[48, 50, 48, 48], [⟨2, acct⟩, ⟨3, [57, 48, 48, 48, 48, 48]⟩, ⟨11, trace⟩]⟩ 3 = some [57, 48, 48, 48, 48, 48] := by simp [get_field, find_no]
  have ho : opFor ⟨[48, 50, 48, 48], [⟨2, acct⟩, ⟨3, [57, 48, 48, 48, 48, 48]⟩, ⟨11, trace⟩]⟩ [57, 48, 48, 48, 48, 48] = 8 := by
    unfold opFor
    rw [idx_at (i := 7) (l := opRows) (by decide) (by simp only; decide) (by simp only; decide)]; rfl
  have hf : (opOf 8).fields = [] := rfl
  unfold reqOf
  rw [tf_true ok, if_pos rfl, tf_true kn, if_pos rfl, g3]
  simp only
  rw [ho, hf]
  rw [fill_cons _ _ 2 _ (acct) (by simp [get_field, find_no])]
  rw [fill_cons _ _ 11 _ (trace) (by simp [get_field, find_no])]
  rw [fill_nil]
  simp only [setReq, if_pos, if_neg, Int.reduceEq, if_true, if_false]
  rw [tf_true rok, if_pos rfl]
theorem reqOf_msg {q : Req} (g : GReq q) : reqOf (reqMsg q) = (q, 0) := by
  have ok := req_msg_ok g
  have rok := greq_ok g
  obtain ⟨h1, h2, h3, h4, h5, h6, h7, h8⟩ := g
  obtain ⟨op, acct, other, hold, trace, mti, amount, ttl⟩ := q
  simp only at h1 h2 h3 h4 h5 h6 h7 h8
  subst h2
  rcases op_cases h1 with rfl | rfl | rfl | rfl | rfl | rfl | rfl | rfl
  · rcases h5 with ⟨_, hh⟩ | ⟨hn, _⟩
    rotate_left
    · omega
    rcases h6 with ⟨_, ha⟩ | ⟨hn, _⟩
    rotate_left
    · omega
    rcases h7 with ⟨_, ht⟩ | ⟨hn, _⟩
    rotate_left
    · omega
    rcases h8 with ⟨hn, _⟩ | ⟨_, hx⟩
    · omega
    subst hx
    have e := msg_1 acct [] hold trace amount ttl
    have em : (opOf 1).mti = [48, 49, 48, 48] := rfl
    rw [em] at ok rok ⊢
    rw [e] at ok ⊢
    exact req_1 acct [] hold trace amount ttl (hold_bare hh) (narrow_wide amount 12 ha (by omega)) (narrow_wide ttl 4 ht (by omega)) ok rok
  · rcases h5 with ⟨_, hh⟩ | ⟨hn, _⟩
    rotate_left
    · omega
    rcases h6 with ⟨_, ha⟩ | ⟨hn, _⟩
    rotate_left
    · omega
    rcases h7 with ⟨hn, _⟩ | ⟨_, ht⟩
    · omega
    subst ht
    rcases h8 with ⟨hn, _⟩ | ⟨_, hx⟩
    · omega
    subst hx
    have e := msg_2 acct [] hold trace amount 0
    have em : (opOf 2).mti = [48, 49, 48, 48] := rfl
    rw [em] at ok rok ⊢
    rw [e] at ok ⊢
    exact req_2 acct [] hold trace amount 0 (hold_bare hh) (narrow_wide amount 12 ha (by omega)) ok rok
  · rcases h5 with ⟨_, hh⟩ | ⟨hn, _⟩
    rotate_left
    · omega
    rcases h6 with ⟨_, ha⟩ | ⟨hn, _⟩
    rotate_left
    · omega
    rcases h7 with ⟨hn, _⟩ | ⟨_, ht⟩
    · omega
    subst ht
    rcases h8 with ⟨hn, _⟩ | ⟨_, hx⟩
    · omega
    subst hx
    have e := msg_3 acct [] hold trace amount 0
    have em : (opOf 3).mti = [48, 50, 50, 48] := rfl
    rw [em] at ok rok ⊢
    rw [e] at ok ⊢
    exact req_3 acct [] hold trace amount 0 (hold_bare hh) (narrow_wide amount 12 ha (by omega)) ok rok
  · rcases h5 with ⟨_, hh⟩ | ⟨hn, _⟩
    rotate_left
    · omega
    rcases h6 with ⟨_, ha⟩ | ⟨hn, _⟩
    rotate_left
    · omega
    rcases h7 with ⟨hn, _⟩ | ⟨_, ht⟩
    · omega
    subst ht
    rcases h8 with ⟨hn, _⟩ | ⟨_, hx⟩
    · omega
    subst hx
    have e := msg_4 acct [] hold trace amount 0
    have em : (opOf 4).mti = [48, 50, 50, 48] := rfl
    rw [em] at ok rok ⊢
    rw [e] at ok ⊢
    exact req_4 acct [] hold trace amount 0 (hold_bare hh) (narrow_wide amount 12 ha (by omega)) ok rok
  · rcases h5 with ⟨_, hh⟩ | ⟨hn, _⟩
    rotate_left
    · omega
    rcases h6 with ⟨hn, _⟩ | ⟨_, ha⟩
    · omega
    subst ha
    rcases h7 with ⟨hn, _⟩ | ⟨_, ht⟩
    · omega
    subst ht
    rcases h8 with ⟨hn, _⟩ | ⟨_, hx⟩
    · omega
    subst hx
    have e := msg_5 acct [] hold trace 0 0
    have em : (opOf 5).mti = [48, 50, 50, 48] := rfl
    rw [em] at ok rok ⊢
    rw [e] at ok ⊢
    exact req_5 acct [] hold trace 0 0 (hold_bare hh) ok rok
  · rcases h5 with ⟨_, hh⟩ | ⟨hn, _⟩
    rotate_left
    · omega
    rcases h6 with ⟨hn, _⟩ | ⟨_, ha⟩
    · omega
    subst ha
    rcases h7 with ⟨hn, _⟩ | ⟨_, ht⟩
    · omega
    subst ht
    rcases h8 with ⟨_, hx⟩ | ⟨hn, _⟩
    rotate_left
    · omega
    have e := msg_6 acct other hold trace 0 0
    have em : (opOf 6).mti = [48, 50, 48, 48] := rfl
    rw [em] at ok rok ⊢
    rw [e] at ok ⊢
    exact req_6 acct other hold trace 0 0 (hold_bare hh) ok rok
  · rcases h5 with ⟨hn, _⟩ | ⟨_, hh⟩
    · omega
    subst hh
    rcases h6 with ⟨hn, _⟩ | ⟨_, ha⟩
    · omega
    subst ha
    rcases h7 with ⟨hn, _⟩ | ⟨_, ht⟩
    · omega
    subst ht
    rcases h8 with ⟨hn, _⟩ | ⟨_, hx⟩
    · omega
    subst hx
    have e := msg_7 acct [] [] trace 0 0
    have em : (opOf 7).mti = [48, 49, 48, 48] := rfl
    rw [em] at ok rok ⊢
    rw [e] at ok ⊢
    exact req_7 acct [] [] trace 0 0  ok rok
  · rcases h5 with ⟨hn, _⟩ | ⟨_, hh⟩
    · omega
    subst hh
    rcases h6 with ⟨hn, _⟩ | ⟨_, ha⟩
    · omega
    subst ha
    rcases h7 with ⟨hn, _⟩ | ⟨_, ht⟩
    · omega
    subst ht
    rcases h8 with ⟨hn, _⟩ | ⟨_, hx⟩
    · omega
    subst hx
    have e := msg_8 acct [] [] trace 0 0
    have em : (opOf 8).mti = [48, 50, 48, 48] := rfl
    rw [em] at ok rok ⊢
    rw [e] at ok ⊢
    exact req_8 acct [] [] trace 0 0  ok rok
end Go.AW
namespace Go.AW
open IntWalk
set_option maxRecDepth 20000
theorem repStep_cases (m : Msg) (code : Int) (hold told : Str) (acc : List Field) (no : Int) :
    repStep m code hold told acc no = acc ∨ ∃ s, repStep m code hold told acc no = acc ++ [⟨no, s⟩] ∧
      ((no = 38 ∧ code = 0 ∧ hold ≠ [] ∧ s = fieldFit 38 hold) ∨ (no = 39 ∧ s = rsText code) ∨ (no = 54 ∧ told ≠ [] ∧ s = told) ∨ msgField m no = some s) := by
  unfold repStep
  by_cases h1 : no = 38
  · subst h1
    rw [if_pos rfl]
    by_cases h2 : code = 0 ∧ hold ≠ []
    · rw [if_pos h2]; exact .inr ⟨_, rfl, .inl ⟨rfl, h2.1, h2.2, rfl⟩⟩
    · rw [if_neg h2]; exact .inl rfl
  · rw [if_neg h1]
    by_cases h2 : no = 39
    · subst h2; rw [if_pos rfl]; exact .inr ⟨_, rfl, .inr (.inl ⟨rfl, rfl⟩)⟩
    · rw [if_neg h2]
      by_cases h3 : no = 54
      · subst h3
        rw [if_pos rfl]
        by_cases h4 : told ≠ []
        · rw [if_pos h4]; exact .inr ⟨_, rfl, .inr (.inr (.inl ⟨rfl, h4, rfl⟩))⟩
        · rw [if_neg h4]; exact .inl rfl
      · rw [if_neg h3]
        cases h4 : msgField m no with
        | none => exact .inl rfl
        | some s => exact .inr ⟨s, rfl, .inr (.inr (.inr rfl))⟩
theorem rep_sub (m : Msg) (code : Int) (hold told : Str) : ∀ (l : List Int) (acc : List Field) (pre : List Int), (acc.map Field.no).Sublist pre → ((l.foldl (repStep m code hold told) acc).map Field.no).Sublist (pre ++ l)
  | [], acc, pre, h => by simpa using h
  | no :: l, acc, pre, h => by
    rw [List.foldl_cons]
    have h1 : ((repStep m code hold told acc no).map Field.no).Sublist (pre ++ [no]) := by
      rcases repStep_cases m code hold told acc no with e | ⟨s, e, _⟩
      · rw [e]; exact h.trans (List.sublist_append_left _ _)
      · rw [e, List.map_append]; exact h.append (List.Sublist.refl _)
    have := rep_sub m code hold told l _ _ h1
    rwa [List.append_assoc] at this
theorem rep_all (m : Msg) (code : Int) (hold told : Str) (Q : Field → Prop) (h : ∀ acc no s, repStep m code hold told acc no = acc ++ [⟨no, s⟩] → ((no = 38 ∧ code = 0 ∧ hold ≠ [] ∧ s = fieldFit 38 hold) ∨ (no = 39 ∧ s = rsText code) ∨ (no = 54 ∧ told ≠ [] ∧ s = told) ∨ msgField m no = some s) → Q ⟨no, s⟩) :
    ∀ (l : List Int) (acc : List Field), (∀ f ∈ acc, Q f) → ∀ f ∈ l.foldl (repStep m code hold told) acc, Q f
  | [], acc, ha => ha
  | no :: l, acc, ha => by
    rw [List.foldl_cons]
    refine rep_all m code hold told Q h l _ ?_
    rcases repStep_cases m code hold told acc no with e | ⟨s, e, hs⟩
    · rw [e]; exact ha
    · rw [e]; exact app_all ha (h acc no s e hs)
theorem rep_keep (m : Msg) (code : Int) (hold told : Str) (f : Field) : ∀ (l : List Int) (acc : List Field), f ∈ acc → f ∈ l.foldl (repStep m code hold told) acc
  | [], acc, h => h
  | no :: l, acc, h => by
    rw [List.foldl_cons]
    refine rep_keep m code hold told f l _ ?_
    rcases repStep_cases m code hold told acc no with e | ⟨s, e, _⟩
    · rw [e]; exact h
    · rw [e]; exact List.mem_append_left _ h
theorem rep_39 (m : Msg) (code : Int) (hold told : Str) : (⟨39, rsText code⟩ : Field) ∈ repList m code hold told := by
  have : nos13 = [2, 3, 4, 7, 11, 37, 38] ++ (39 :: [41, 49, 54, 102, 103]) := rfl
  unfold repList
  rw [this, List.foldl_append, List.foldl_cons]
  refine rep_keep _ _ _ _ _ _ _ ?_
  have e : ∀ acc, repStep m code hold told acc 39 = acc ++ [⟨39, rsText code⟩] := fun acc => by simp [repStep]
  rw [e]; simp
theorem rsText_ok {code : Int} (h : 0 ≤ code ∧ code ≤ 10) : fieldOk 39 (rsText code) ∧ textRs (rsText code) = code := by
  have hl : rsTexts.length = 11 := rfl
  have e : rsText code = rsTexts[code.toNat]'(by omega) := by
    unfold rsText; rw [if_pos h]; simp [hl, show code.toNat < 11 by omega]
  have e2 : fieldSize 39 = 2 := by decide
  refine ⟨.inr (.inl ⟨by decide, ?_, ?_⟩), ?_⟩
  · have : ∀ s ∈ rsTexts, ∀ b ∈ s, 32 ≤ b.toNat ∧ b.toNat ≤ 126 := by decide
    rw [e]; exact this _ (at_mem _)
  · have : ∀ s ∈ rsTexts, (s.length : Int) = 2 := by decide
    rw [e, e2]; exact this _ (at_mem _)
  · unfold textRs
    rw [e, idx_at (i := code.toNat) (by omega) ?_ rfl]
    · omega
    · have : ∀ i, i < 11 → ∀ x ∈ rsTexts.take i, ¬ rsTexts.getD i [] = x := by decide
      intro x hx
      have := this code.toNat (by omega) x hx
      simpa [hl, show code.toNat < 11 by omega] using this
theorem nos13_pw : nos13.Pairwise (fun a b => a < b) := by decide
theorem replyMti_wide {s : Str} (h : mtiOk s) : wide (replyMti s) 4 := by
  obtain ⟨⟨⟨h1, h2⟩, h3⟩, h4⟩ := h
  unfold replyMti
  rw [tf_true (show mtiOk s from ⟨⟨⟨h1, h2⟩, h3⟩, h4⟩), if_pos rfl]
  match s, h3 with
  | [a, b, c, d], _ =>
    simp only [List.getD_cons_succ, List.getD_cons_zero] at h4 ⊢
    have hc := h2 c (by simp)
    unfold digit at hc
    refine ⟨⟨by simp, ?_⟩, by simp⟩
    intro x hx
    simp only [List.take_succ_cons, List.take_zero, List.drop_succ_cons, List.drop_zero, List.cons_append, List.nil_append, List.mem_cons, List.not_mem_nil, or_false] at hx
    rcases hx with rfl | rfl | rfl | rfl
    · exact h2 _ (by simp)
    · exact h2 _ (by simp)
    · have : (UInt8.ofNat (c.toNat + 1)).toNat = c.toNat + 1 := by rw [UInt8.toNat_ofNat']; exact Nat.mod_eq_of_lt (by omega)
      unfold digit; rw [this]; omega
    · exact h2 _ (by simp)
theorem rep_pw (m : Msg) (code : Int) (hold told : Str) : ((repList m code hold told).map Field.no).Pairwise (fun a b => a < b) := by
  have := rep_sub m code hold told nos13 [] [] (by simp)
  exact nos13_pw.sublist this
theorem rep_ok {m : Msg} {code : Int} {hold told : Str} (h : msgOk m) (mt : mtiOk m.mti) (hc : 0 ≤ code ∧ code ≤ 10) (hh : code = 0 → hold ≠ [] → fieldOk 38 (fieldFit 38 hold)) (ht : told ≠ [] → fieldOk 54 told) (hl : hold.length < 1000000) : RepOk m code hold told := by
  have ok : msgOk (repMsg m code hold told) := by
    refine ⟨replyMti_wide mt, ?_, ?_⟩
    · refine rep_all m code hold told (fun f => fieldOk f.no f.text) ?_ nos13 [] (by simp)
      rintro acc no s - (⟨rfl, h1, h2, rfl⟩ | ⟨rfl, rfl⟩ | ⟨rfl, h1, rfl⟩ | h1)
      · exact hh h1 h2
      · exact (rsText_ok hc).1
      · exact ht h1
      · exact msgField_ok h h1
    · have := asc_filter (rep_pw m code hold told) (fun _ => true)
      have e : (repList m code hold told).filter (fun _ => true) = repList m code hold told := by rw [List.filter_eq_self]; intro _ _; rfl
      rw [e] at this; exact this
  exact ⟨msg_fit h, h, mt, hc, hl, ok, msg_fit ok⟩
theorem field_of_mem {l : List Field} (h : (l.map Field.no).Pairwise (fun a b => a < b)) {no : Int} {s : Str} (hm : (⟨no, s⟩ : Field) ∈ l) (mti : Str) : msgField ⟨mti, l⟩ no = some s := by
  induction l with
  | nil => simp at hm
  | cons f l ih =>
    rw [List.map_cons, List.pairwise_cons] at h
    unfold msgField
    rw [List.find?_cons]
    rcases List.mem_cons.1 hm with e | e
    · subst e; simp
    · have h1 := h.1 no (List.mem_map.2 ⟨_, e, rfl⟩)
      have : (f.no == no) = false := by simp; omega
      rw [this]
      exact ih h.2 e
theorem reply_code {m : Msg} {code : Int} {hold told : Str} (h : RepOk m code hold told) : replyCode (encode (repMsg m code hold told)) = (code, true) := by
  unfold replyCode
  rw [parse_encode _ h.rok]
  simp only [if_true]
  have h1 : msgField (repMsg m code hold told) 39 = some (rsText code) := field_of_mem (rep_pw m code hold told) (rep_39 m code hold told) _
  rw [h1]
  simp only
  have h2 := (rsText_ok h.cin).2
  have h3 := h.cin
  rw [h2, if_neg (by omega), tf_true h3.1]
theorem plain_req (q : Req) (g : GReq q) : PlainReq q := by
  have ok := req_msg_ok g
  have mt : mtiOk (reqMsg q).mti := by
    have := (mti_ok g.op).1
    rw [← g.mti] at this; exact this
  have rep : RepOk (reqMsg q) 10 [] [] := rep_ok ok mt (by omega) (fun e => by omega) (fun e => absurd rfl e) (by simp)
  refine ⟨msg_fit ok, ok, ?_, parse_encode _ ok, getBcd_encode _ ok, reqOf_msg g, rep, ?_, ?_, reply_code rep⟩
  · have := encode_len ok; omega
  · have := encode_len rep.rok; omega
  · rw [parse_encode _ rep.rok]; exact rep.rfit.len
theorem laws_FnFull (x : List UInt8) (hx : x.length ≤ 1048576) : Ret PG f_laws_FnFull [aBs x] (oB true) [] := lawsFull_ret x hx plain_req
theorem laws_FnFull_all (x : List UInt8) : Ret PG f_laws_FnFull [aBs x] (oB true) [] := by
  by_cases hx : x.length ≤ 1048576
  · exact laws_FnFull x hx
  · have h : 1048576 < (x.length : Int) := by omega
    refine exact_of (p_laws_FnFull rfl rfl ?_)
    simp only [seval, go_sem, i_laws_FnFull, h, List.length_map]
end Go.AW
