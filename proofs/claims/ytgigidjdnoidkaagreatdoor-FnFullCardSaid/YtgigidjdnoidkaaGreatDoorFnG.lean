/- Part 7 of the proof that laws.FnFull answers true at every input and leaves it as it was: an own small semantics of the translated code, contracts of the functions, the plain law. No condition. -/
import Derived.Test.YtgigidjdnoidkaaGreatDoorFnF
set_option linter.unusedVariables false
set_option linter.unusedSimpArgs false
set_option linter.unnecessarySimpa false
namespace Go.AW
open IntWalk
theorem Grow0_ret : Ret PG f_slices_Grow_int_int [.v (.z 1), aI 0] (.o (.p (.z 1))) [] := by
  have e1 : IntKind.i64.wrap 0 = 0 := i64_in _ (by omega)
  have e2 : ¬ (0 : Int) < 0 := by omega
  refine exact_of (p_slices_Grow_int_int rfl rfl ?_)
  simp only [seval, go_sem, i_slices_Grow_int_int, e1, e2, Int.sub_zero, Int.sub_self]
def sumLen (ls : List (List Int)) : Nat := (ls.map List.length).sum
theorem sumLen_take (ls : List (List Int)) (i : Nat) (h : i < ls.length) : sumLen (ls.take (i + 1)) = sumLen (ls.take i) + ls[i].length := by
  unfold sumLen; rw [take_at ls i h, List.map_append, List.sum_append]; simp
theorem sumLen_le (ls : List (List Int)) (i : Nat) : sumLen (ls.take i) ≤ sumLen ls := by
  have h2 : sumLen ls = sumLen (ls.take i) + sumLen (ls.drop i) := by
    unfold sumLen; rw [← List.sum_append, ← List.map_append, List.take_append_drop]
  omega
theorem sumLen_flat : ∀ (ls : List (List Int)), ls.flatten.length = sumLen ls
  | [] => rfl
  | l :: ls => by have := sumLen_flat ls; simp [sumLen] at this ⊢
def eil (l : List Int) : P := .sl 1 (l.map ei)
def flatO (ls : List (List Int)) : O := if sumLen ls = 0 then .p (.z 1) else .own 1 (ls.flatten.map ei)
theorem concat_own (ls : List (List Int)) (h1 : ls.length < 4294967296) (h2 : sumLen ls < 4294967296) : Ret PG f_slices_Concat_int_int [.v (.sl 1 (ls.map eil))] (.o (flatO ls)) [] := by
  refine exact_of (p_slices_Concat_int_int rfl rfl ?_)
  simp only [seval, go_sem, i_slices_Concat_int_int]
  refine go_lp (β := Nat) (fun i => [(3, .p (.int .i64 (sumLen (ls.take i)))), (11, .p (.int .i64 i))]) (fun _ => []) (fun i => i ≤ ls.length) (fun i => ls.length - i) 0 ?_ ?_ ?_
  · rfl
  · simp
  · intro i hi
    by_cases h : (i : Int) < ls.length
    · have h' : i < ls.length := by omega
      have hs := sumLen_le ls i
      have hs1 := sumLen_le ls (i + 1)
      have hst := sumLen_take ls i h'
      have e1 : IntKind.i64.wrap ((sumLen (ls.take i) : Int) + (ls[i].length : Int)) = (sumLen (ls.take (i + 1)) : Nat) := by rw [i64_in _ (by omega)]; omega
      have e2 : ¬ (((sumLen (ls.take (i + 1)) : Nat) : Int) < 0) := by omega
      simp only [seval, go_sem, h, getD_map eil ls i h', eil, wrap_succ i (by omega), e1, e2]
      repeat' (first
       | ((with_reducible_and_instances first | refine go_br (fun hc => ?_) (fun hc => ?_) | refine go_grd (fun hc => ?_) (fun hc => ?_) | refine go_dgrd (fun hc => ?_) (fun hc => ?_)) <;> (try simp only [decide_eq_true_eq, decide_eq_false_iff_not, Bool.not_eq_true', Bool.not_eq_false'] at hc) <;> simp only [seval, go_sem, hc, h, getD_map eil ls i h', eil, wrap_succ i (by omega), e1, e2]))
      exact ⟨i + 1, rfl, h', by (try dsimp only); omega⟩
    · have e : i = ls.length := by omega
      subst e
      rw [List.take_length] at *
      by_cases h0 : sumLen ls = 0
      · have hl0 : ls.flatten = [] := by rw [← List.length_eq_zero_iff, sumLen_flat, h0]
        have hz : ∀ i (h : i < ls.length), ls[i] = [] := by
          intro i hi
          have := List.flatten_eq_nil_iff.1 hl0 _ (at_mem hi)
          exact this
        have hg := Grow0_ret
        simp only [seval, go_sem, h, h0]
        repeat' (first
         | ((with_reducible_and_instances first | refine go_br (fun hc => ?_) (fun hc => ?_) | refine go_grd (fun hc => ?_) (fun hc => ?_) | refine go_dgrd (fun hc => ?_) (fun hc => ?_)) <;> (try simp only [decide_eq_true_eq, decide_eq_false_iff_not, Bool.not_eq_true', Bool.not_eq_false'] at hc) <;> simp only [seval, go_sem, hc, h, h0])
         | ((with_reducible_and_instances first | refine go_use (hg) ?_); simp only [seval, go_sem, h, h0]))
        refine go_lp (β := Nat) (fun i => [(27, .p (.int .i64 i))]) (fun _ => []) (fun i => i ≤ ls.length) (fun i => ls.length - i) 0 ?_ ?_ ?_
        · rfl
        · simp
        · intro i hi
          by_cases h : (i : Int) < ls.length
          · have h' : i < ls.length := by omega
            simp only [seval, go_sem, h, getD_map eil ls i h', eil, hz i h', List.map_nil, wrap_succ i (by omega)]
            repeat' (first
             | ((with_reducible_and_instances first | refine go_br (fun hc => ?_) (fun hc => ?_) | refine go_grd (fun hc => ?_) (fun hc => ?_) | refine go_dgrd (fun hc => ?_) (fun hc => ?_)) <;> (try simp only [decide_eq_true_eq, decide_eq_false_iff_not, Bool.not_eq_true', Bool.not_eq_false'] at hc) <;> simp only [seval, go_sem, hc, h, getD_map eil ls i h', eil, hz i h', List.map_nil, wrap_succ i (by omega)]))
            exact ⟨i + 1, rfl, h', by (try dsimp only); omega⟩
          · simp only [seval, go_sem, h]
            repeat' (first
             | ((with_reducible_and_instances first | refine go_br (fun hc => ?_) (fun hc => ?_) | refine go_grd (fun hc => ?_) (fun hc => ?_) | refine go_dgrd (fun hc => ?_) (fun hc => ?_)) <;> (try simp only [decide_eq_true_eq, decide_eq_false_iff_not, Bool.not_eq_true', Bool.not_eq_false'] at hc) <;> simp only [seval, go_sem, hc, h]))
            simp [flatO, h0]
      · simp only [seval, go_sem, h]
        repeat' (first
         | ((with_reducible_and_instances first | refine go_br (fun hc => ?_) (fun hc => ?_) | refine go_grd (fun hc => ?_) (fun hc => ?_) | refine go_dgrd (fun hc => ?_) (fun hc => ?_)) <;> (try simp only [decide_eq_true_eq, decide_eq_false_iff_not, Bool.not_eq_true', Bool.not_eq_false'] at hc) <;> simp only [seval, go_sem, hc, h])
         | ((with_reducible_and_instances first | refine go_use (Grow_ret (sumLen ls) (by omega) (by omega) (by omega)) ?_); simp only [seval, go_sem, h]))
        refine go_lp (β := Nat) (fun i => [(6, .sl 1001536 i 0 (sumLen (ls.take i))), (27, .p (.int .i64 i))]) (fun i => [(1001536, i, .arr 1 ((ls.take i).flatten.map ei) false)]) (fun i => i ≤ ls.length) (fun i => ls.length - i) 0 ?_ ?_ ?_
        · rfl
        · simp
        · intro i hi
          have hs := sumLen_le ls i
          have ef : (ls.take i).flatten.length = sumLen (ls.take i) := sumLen_flat _
          by_cases h : (i : Int) < ls.length
          · have h' : i < ls.length := by omega
            have hs1 := sumLen_le ls (i + 1)
            have hst := sumLen_take ls i h'
            simp only [seval, go_sem, h, getD_map eil ls i h', eil, wrap_succ i (by omega), ef]
            repeat' (first
             | ((with_reducible_and_instances first | refine go_br (fun hc => ?_) (fun hc => ?_) | refine go_grd (fun hc => ?_) (fun hc => ?_) | refine go_dgrd (fun hc => ?_) (fun hc => ?_)) <;> (try simp only [decide_eq_true_eq, decide_eq_false_iff_not, Bool.not_eq_true', Bool.not_eq_false'] at hc) <;> simp only [seval, go_sem, hc, h, getD_map eil ls i h', eil, wrap_succ i (by omega), ef]))
            refine ⟨by omega, i + 1, ?_, h', by (try dsimp only); omega⟩
            rw [hst, take_at ls i h', List.flatten_append, List.map_append]
            simp only [List.flatten_cons, List.flatten_nil, List.append_nil]; rfl
          · have e : i = ls.length := by omega
            subst e
            rw [List.take_length] at *
            have hq : flatO ls = .own 1 (ls.flatten.map ei) := by unfold flatO; rw [if_neg h0]
            rw [hq]
            generalize ls.flatten = fl at *
            have e9 : (fl.map ei).take (sumLen ls) = fl.map ei := by rw [← ef, take_len_map]
            have e8 : sumLen ls ≤ fl.length := by omega
            simp only [seval, go_sem, h, e9, e8]
            repeat' (first
             | ((with_reducible_and_instances first | refine go_br (fun hc => ?_) (fun hc => ?_) | refine go_grd (fun hc => ?_) (fun hc => ?_) | refine go_dgrd (fun hc => ?_) (fun hc => ?_)) <;> (try simp only [decide_eq_true_eq, decide_eq_false_iff_not, Bool.not_eq_true', Bool.not_eq_false'] at hc) <;> simp only [seval, go_sem, hc, h, e9, e8]))
theorem concat_ret (ls : List (List Int)) (h1 : ls.length < 4294967296) (h2 : sumLen ls < 4294967296) : Ret PG f_slices_Concat_int_int [.v (.sl 1 (ls.map eil))] (.o (.p (.sl 1 (ls.flatten.map ei)))) [] := by
  have := (concat_own ls h1 h2).wkO
  unfold flatO at this
  split at this
  · rename_i h0
    have hl0 : ls.flatten = [] := by rw [← List.length_eq_zero_iff, sumLen_flat, h0]
    rw [hl0]; exact this
  · exact this
theorem iRingOk_ret (r : Ring) (f : RFit r) : Ret PG f_impl_RingOk [.v r.p] (oB (tf (ringOk r))) [] := by
  have hc1 := f.counts
  have hs1 := f.sums
  have hx := concat_ret [r.counts, r.sums] (by simp) (by simp [sumLen]; omega)
  simp only [List.map_cons, List.map_nil, eil, List.flatten_cons, List.flatten_nil, List.append_nil] at hx
  have hcl : (r.counts ++ r.sums).length = r.counts.length + r.sums.length := List.length_append
  generalize hm : r.counts ++ r.sums = m at hx hcl
  refine exact_of (p_impl_RingOk rfl rfl ?_)
  simp only [seval, go_sem, i_impl_RingOk, Ring.p]
  repeat' (first
   | ((with_reducible_and_instances first | refine go_br (fun hc => ?_) (fun hc => ?_) | refine go_grd (fun hc => ?_) (fun hc => ?_) | refine go_dgrd (fun hc => ?_) (fun hc => ?_)) <;> (try simp only [decide_eq_true_eq, decide_eq_false_iff_not, Bool.not_eq_true', Bool.not_eq_false'] at hc) <;> simp only [seval, go_sem, hc])
   | ((with_reducible_and_instances first | refine go_use (hx) ?_); simp only [seval, go_sem]))
  refine go_lp (β := Nat) (fun i => [(16, .p (.int .i64 i))]) (fun _ => []) (fun i => i ≤ m.length ∧ (∀ x ∈ m.take i, money x)) (fun i => m.length - i) 0 ?_ ?_ ?_
  · rfl
  · simp
  · rintro i ⟨hi, hd⟩
    by_cases h : (i : Int) < m.length
    · have h' : i < m.length := by omega
      simp only [seval, go_sem, h, getD_map ei m i h', ei, wrap_succ i (by omega)]
      repeat' (first
       | ((with_reducible_and_instances first | refine go_br (fun hc => ?_) (fun hc => ?_) | refine go_grd (fun hc => ?_) (fun hc => ?_) | refine go_dgrd (fun hc => ?_) (fun hc => ?_)) <;> (try simp only [decide_eq_true_eq, decide_eq_false_iff_not, Bool.not_eq_true', Bool.not_eq_false'] at hc) <;> simp only [seval, go_sem, hc, h, getD_map ei m i h', ei, wrap_succ i (by omega)])
       | ((with_reducible_and_instances first | refine go_use (iMoney_ret _) ?_); simp only [seval, go_sem, h, getD_map ei m i h', ei, wrap_succ i (by omega)]))
      all_goals first
        | exact ⟨i + 1, rfl, ⟨h', take_all h' hd (tf_iff.1 hc)⟩, by (try dsimp only); omega⟩
        | (refine oB_f (fun (g : ringOk r) => tf_not.1 hc ?_)
           have hmem : m[i] ∈ r.counts ++ r.sums := by rw [hm]; exact at_mem h'
           rcases List.mem_append.1 hmem with hq | hq
           · exact g.2.2.2.2.1 _ hq
           · exact g.2.2.2.2.2 _ hq)
    · have ha := all_of_take h hd
      rw [← hm] at ha
      have ha1 : ∀ x ∈ r.counts, money x := fun x hx => ha x (List.mem_append_left _ hx)
      have ha2 : ∀ x ∈ r.sums, money x := fun x hx => ha x (List.mem_append_right _ hx)
      simp only [seval, go_sem, h]
      repeat' (first
       | ((with_reducible_and_instances first | refine go_br (fun hc => ?_) (fun hc => ?_) | refine go_grd (fun hc => ?_) (fun hc => ?_) | refine go_dgrd (fun hc => ?_) (fun hc => ?_)) <;> (try simp only [decide_eq_true_eq, decide_eq_false_iff_not, Bool.not_eq_true', Bool.not_eq_false'] at hc) <;> simp only [seval, go_sem, hc, h])
       | ((with_reducible_and_instances first | refine go_use (iwithin_ret _ _ _) ?_ | refine go_use (iTime_ret _) ?_); simp only [seval, go_sem, h]))
      all_goals ((try simp only [tf_iff, tf_not] at *); first | (refine oB_f ?_; simp_all [ringOk]; done) | (refine oB_tf ?_; simp_all [ringOk]; done) | (refine oB_d ?_; simp_all [ringOk]; done) | (refine oB_t ?_; simp_all [ringOk]; done) | (refine oB_f ?_; simp only [ringOk]; grind) | (refine oB_tf ?_; simp only [ringOk]; grind) | (refine oB_d ?_; simp only [ringOk]; grind) | (refine oB_t ?_; simp only [ringOk]; grind))
end Go.AW
namespace Go.AW
open IntWalk
def acctOk (a : Acct) : Prop := acctIdOk a.id ∧ inr a.limit 0 9007199254740992 ∧ inr a.most 0 1000 ∧ inr a.mostSum 0 9007199254740992 ∧ money a.posted ∧ holdsOk a.holds ∧ ringOk a.ring ∧ slotsOk a.slots ∧ addSat a.posted (stored a.holds) ≤ a.limit
theorem Acct.Fit.s {a : Acct} (h : a.Fit) : SFit a.slots := ⟨h.slots, h.trace, h.mti, h.reply⟩
theorem Acct.Fit.r {a : Acct} (h : a.Fit) : RFit a.ring := ⟨h.counts, h.sums⟩
theorem iAcctOk_ret (a : Acct) (f : a.Fit) : Ret PG f_impl_AcctOk [.v a.p] (oB (tf (acctOk a))) [] := by
  have hr := iRingOk_ret a.ring f.r
  unfold Ring.p at hr
  refine exact_of (p_impl_AcctOk rfl rfl ?_)
  simp only [seval, go_sem, i_impl_AcctOk, Acct.p]
  repeat' (first
   | ((with_reducible_and_instances first | refine go_br (fun hc => ?_) (fun hc => ?_) | refine go_grd (fun hc => ?_) (fun hc => ?_) | refine go_dgrd (fun hc => ?_) (fun hc => ?_)) <;> (try simp only [decide_eq_true_eq, decide_eq_false_iff_not, Bool.not_eq_true', Bool.not_eq_false'] at hc) <;> simp only [seval, go_sem, hc])
   | ((with_reducible_and_instances first | refine go_use (iAcctIdOk_ret _ f.id) ?_ | refine go_use (iwithin_ret _ _ _) ?_ | refine go_use (iMoney_ret _) ?_ | refine go_use (iHoldsOk_ret _ f.holds f.hid) ?_ | refine go_use (hr) ?_ | refine go_use (islotsOk_ret _ f.s) ?_ | refine go_use (iStored_ret _ f.holds) ?_ | refine go_use (iAddSat_ret _ _) ?_); simp only [seval, go_sem]))
  all_goals ((try simp only [tf_iff, tf_not] at *); first | (refine oB_f ?_; simp_all [acctOk]; done) | (refine oB_tf ?_; simp_all [acctOk]; done) | (refine oB_d ?_; simp_all [acctOk]; done) | (refine oB_t ?_; simp_all [acctOk]; done) | (refine oB_f ?_; simp only [acctOk]; grind) | (refine oB_tf ?_; simp only [acctOk]; grind) | (refine oB_d ?_; simp only [acctOk]; grind) | (refine oB_t ?_; simp only [acctOk]; grind))
theorem sAcctOk_ret (a : Acct) (f : a.Fit) : Ret PG f_spec_AcctOk [.v a.p] (oB (tf (acctOk a))) [] := by
  have hr := sringOk_ret a.ring f.r
  unfold Ring.p at hr
  refine exact_of (p_spec_AcctOk rfl rfl ?_)
  simp only [seval, go_sem, i_spec_AcctOk, Acct.p]
  repeat' (first
   | ((with_reducible_and_instances first | refine go_br (fun hc => ?_) (fun hc => ?_) | refine go_grd (fun hc => ?_) (fun hc => ?_) | refine go_dgrd (fun hc => ?_) (fun hc => ?_)) <;> (try simp only [decide_eq_true_eq, decide_eq_false_iff_not, Bool.not_eq_true', Bool.not_eq_false'] at hc) <;> simp only [seval, go_sem, hc])
   | ((with_reducible_and_instances first | refine go_use (sAcctIdOk_ret _ f.id) ?_ | refine go_use (sIn_ret _ _ _) ?_ | refine go_use (sMoney_ret _) ?_ | refine go_use (sHoldsOk_ret _ f.holds f.hid) ?_ | refine go_use (hr) ?_ | refine go_use (sslotsOk_ret _ f.s) ?_ | refine go_use (sStored_ret _ f.holds) ?_ | refine go_use (sAddSat_ret _ _) ?_); simp only [seval, go_sem]))
  all_goals ((try simp only [tf_iff, tf_not] at *); first | (refine oB_f ?_; simp_all [acctOk]; done) | (refine oB_tf ?_; simp_all [acctOk]; done) | (refine oB_d ?_; simp_all [acctOk]; done) | (refine oB_t ?_; simp_all [acctOk]; done) | (refine oB_f ?_; simp only [acctOk]; grind) | (refine oB_tf ?_; simp only [acctOk]; grind) | (refine oB_d ?_; simp only [acctOk]; grind) | (refine oB_t ?_; simp only [acctOk]; grind))
def bookOk (l : Book) : Prop := (l.length : Int) ≤ 6 ∧ (∀ a ∈ l, acctOk a) ∧ asc Acct.id l
theorem iBookOk_ret (l : Book) (f : BFit l) : Ret PG f_impl_BookOk [.v (bookP l)] (oB (tf (bookOk l))) [] := by
  have hl := f.len
  refine exact_of (p_impl_BookOk rfl rfl ?_)
  simp only [seval, go_sem, i_impl_BookOk, bookP]
  refine go_lp (β := Nat) (fun i => [(8, .p (.int .i64 i))]) (fun _ => []) (fun i => i ≤ l.length ∧ (∀ x ∈ l.take i, acctOk x) ∧ asc Acct.id (l.take i)) (fun i => l.length - i) 0 ?_ ?_ ?_
  · rfl
  · simp [asc]
  · rintro i ⟨hi, hd, ha⟩
    by_cases h : (i : Int) < l.length
    · have h' : i < l.length := by omega
      have hx := iAcctOk_ret l[i] (f.all _ (at_mem h'))
      unfold Acct.p at hx
      by_cases h0 : (0 : Int) < i
      · have hj : i - 1 < l.length := by omega
        have e1 : IntKind.i64.wrap ((i : Int) - 1) = ((i - 1 : Nat) : Int) := by rw [i64_in _ (by omega)]; omega
        have e2 : ((i - 1 : Nat) : Int) < l.length := by omega
        simp only [seval, go_sem, h, h0, e1, e2, getD_map Acct.p l i h', getD_map Acct.p l (i - 1) hj, Acct.p, wrap_succ i (by omega), less_or_eq]
        repeat' (first
         | ((with_reducible_and_instances first | refine go_br (fun hc => ?_) (fun hc => ?_) | refine go_grd (fun hc => ?_) (fun hc => ?_) | refine go_dgrd (fun hc => ?_) (fun hc => ?_)) <;> (try simp only [decide_eq_true_eq, decide_eq_false_iff_not, Bool.not_eq_true', Bool.not_eq_false'] at hc) <;> simp only [seval, go_sem, hc, h, h0, e1, e2, getD_map Acct.p l i h', getD_map Acct.p l (i - 1) hj, Acct.p, wrap_succ i (by omega), less_or_eq])
         | ((with_reducible_and_instances first | refine go_use (hx) ?_); simp only [seval, go_sem, h, h0, e1, e2, getD_map Acct.p l i h', getD_map Acct.p l (i - 1) hj, Acct.p, wrap_succ i (by omega), less_or_eq]))
        · exact oB_f (fun (g : bookOk l) => (tf_iff.1 hc) (by have := g.2.2 (i - 1) (by omega); simpa [show i - 1 + 1 = i by omega] using this))
        · rename_i hh
          exact ⟨i + 1, rfl, ⟨h', take_all h' hd (tf_iff.1 hh), asc_take h' ha fun _ => Classical.not_not.1 (tf_not.1 hc)⟩, by (try dsimp only); omega⟩
        · exact oB_f (fun (g : bookOk l) => tf_not.1 hc (g.2.1 _ (at_mem h')))
      · obtain rfl : i = 0 := by omega
        have h00 : (0 : Int) < l.length := by omega
        simp only [seval, go_sem, h, h0, h00, getD_map Acct.p l 0 h', Acct.p, wrap_succ 0 (by omega)]
        repeat' (first
         | ((with_reducible_and_instances first | refine go_br (fun hc => ?_) (fun hc => ?_) | refine go_grd (fun hc => ?_) (fun hc => ?_) | refine go_dgrd (fun hc => ?_) (fun hc => ?_)) <;> (try simp only [decide_eq_true_eq, decide_eq_false_iff_not, Bool.not_eq_true', Bool.not_eq_false'] at hc) <;> simp only [seval, go_sem, hc, h, h0, h00, getD_map Acct.p l 0 h', Acct.p, wrap_succ 0 (by omega)])
         | ((with_reducible_and_instances first | refine go_use (hx) ?_); simp only [seval, go_sem, h, h0, h00, getD_map Acct.p l 0 h', Acct.p, wrap_succ 0 (by omega)]))
        · exact ⟨1, rfl, ⟨h', take_all h' hd (tf_iff.1 hc), asc_take h' ha fun h00 => absurd h00 (by omega)⟩, by (try dsimp only); omega⟩
        · exact oB_f (fun (g : bookOk l) => tf_not.1 hc (g.2.1 _ (at_mem h')))
    · simp only [seval, go_sem, h]
      have e : l.take i = l := List.take_of_length_le (by omega)
      rw [e] at hd ha
      exact oB_d ⟨fun g => ⟨g, hd, ha⟩, fun g => g.1⟩
end Go.AW
namespace Go.AW
open IntWalk
/-! packed digits -/
def pk (a b : UInt8) : UInt8 := UInt8.ofNat ((a.toNat - 48) * 16 + (b.toNat - 48))
def packs : Str → List UInt8
  | a :: b :: r => pk a b :: packs r
  | _ => []
def pad2 (s : Str) : Str := if s.length % 2 = 1 then 48 :: s else s
def bcd (s : Str) : List UInt8 := packs (pad2 s)
theorem pad2_even (s : Str) : (pad2 s).length % 2 = 0 := by
  unfold pad2; split
  · simp only [List.length_cons]; omega
  · omega
theorem packs_len : ∀ (s : Str), (packs s).length = s.length / 2
  | [] => rfl
  | [_] => by simp [packs]
  | a :: b :: r => by simp only [packs, List.length_cons, packs_len r]; omega
theorem packs_app : ∀ (x y : Str), x.length % 2 = 0 → packs (x ++ y) = packs x ++ packs y
  | [], y, _ => rfl
  | [_], y, h => by simp at h
  | a :: b :: r, y, h => by simp only [List.cons_append, packs]; rw [packs_app r y (by simp at h; omega)]
theorem take2 (s : Str) (i : Nat) (h : i + 1 < s.length) : s.take (i + 2) = s.take i ++ [s[i], s[i + 1]] := by
  rw [take_at s (i + 1) h, take_at s i (by omega), List.append_assoc]; rfl
def bcdOk (s : Str) : Prop := digits s ∧ (s.length : Int) ≤ 38
theorem pk_tab : ∀ a, a < 10 → ∀ b, b < 10 → IntKind.u8.wrap ((BitVec.ofInt 8 (IntKind.u8.wrap (((a : Nat) : Int) * 16)) ||| BitVec.ofInt 8 ((b : Nat) : Int)).toNat : Int) = ((a * 16 + b : Nat) : Int) := by decide
theorem pk_eq (a b : UInt8) (ha : digit a) (hb : digit b) : IntKind.u8.wrap ((BitVec.ofInt 8 (IntKind.u8.wrap (IntKind.u8.wrap ((a.toNat : Int) - 48) * 2 ^ min 4 8)) ||| BitVec.ofInt 8 (IntKind.u8.wrap ((b.toNat : Int) - 48))).toNat : Int) = ((pk a b).toNat : Int) := by
  unfold digit at ha hb
  obtain ⟨x, hx⟩ : ∃ x, x + 48 = a.toNat := ⟨a.toNat - 48, by omega⟩
  obtain ⟨y, hy⟩ : ∃ y, y + 48 = b.toNat := ⟨b.toNat - 48, by omega⟩
  have e1 : IntKind.u8.wrap ((a.toNat : Int) - 48) = (x : Int) := by rw [u8_in _ (by omega)]; omega
  have e2 : IntKind.u8.wrap ((b.toNat : Int) - 48) = (y : Int) := by rw [u8_in _ (by omega)]; omega
  rw [e1, e2, show (2 : Int) ^ min 4 8 = 16 by rfl, pk_tab x (by omega) y (by omega)]
  have : (pk a b).toNat = x * 16 + y := by
    unfold pk
    rw [show a.toNat - 48 = x by omega, show b.toNat - 48 = y by omega]
    simp
    omega
  rw [this]
theorem pad2_digits {s : Str} (h : digits s) : ∀ b ∈ pad2 s, digit b := by
  unfold pad2; split
  · intro b hb
    rcases List.mem_cons.1 hb with rfl | hb
    · decide
    · exact h.2 b hb
  · exact h.2
theorem pad2_len (s : Str) : (pad2 s).length ≤ s.length + 1 := by
  unfold pad2; split <;> simp
theorem iPutBcd_ok (s : Str) (h : bcdOk s) : Ret PG f_impl_PutBcd [aS s] (.tup [.o (.own 1 ((bcd s).map eb)), oB true]) [] := by
  have h0 : ∀ n : Nat, ((n : Int)).tmod 2 = ((n % 2 : Nat) : Int) := fun n => by rw [Int.tmod_eq_emod_of_nonneg (by omega)]; rfl
  have hl := h.2
  have hn : ¬ (38 : Int) < s.length := by omega
  have hd := pad2_digits h.1
  have hp := pad2_len s
  have hv := pad2_even s
  have hsm : (1 : Nat) + s.length ≤ 4611686018427387904 := by omega
  refine exact_of (p_impl_PutBcd rfl rfl ?_)
  simp only [seval, go_sem, i_impl_PutBcd]
  repeat' (first
   | ((with_reducible_and_instances first | refine go_br (fun hc => ?_) (fun hc => ?_) | refine go_grd (fun hc => ?_) (fun hc => ?_) | refine go_dgrd (fun hc => ?_) (fun hc => ?_)) <;> (try simp only [decide_eq_true_eq, decide_eq_false_iff_not, Bool.not_eq_true', Bool.not_eq_false'] at hc) <;> simp only [seval, go_sem, hc, h0, hn, tf_true h.1, hsm])
   | ((with_reducible_and_instances first | refine go_use (iDigits_ret s (by omega)) ?_); simp only [seval, go_sem, h0, hn, tf_true h.1, hsm]))
  all_goals
    refine go_lp (β := Nat) (fun j => [(0, .p (.str (pad2 s))), (4, .sl 20 j 0 j), (5, .p (.int .i64 (2 * j : Nat)))]) (fun j => [(20, j, .arr 1 ((packs ((pad2 s).take (2 * j))).map eb) false)]) (fun j => 2 * j ≤ (pad2 s).length) (fun j => (pad2 s).length - 2 * j) 0 ?_ ?_ ?_
    · first
        | (have : pad2 s = 48 :: s := by unfold pad2; rw [if_pos (by omega)]
           rw [this]; rfl)
        | (have : pad2 s = s := by unfold pad2; rw [if_neg (by omega)]
           rw [this]; rfl)
    · simp
    · intro j hj
      rw [show bcd s = packs (pad2 s) from rfl]
      generalize pad2 s = t at *
      have el : (packs (t.take (2 * j))).length = j := by rw [packs_len, List.length_take, Nat.min_eq_left hj]; omega
      by_cases hlt : ((2 * j : Nat) : Int) < t.length
      · have hi0 : 2 * j < t.length := by omega
        have hi1 : 2 * j + 1 < t.length := by omega
        have e1 : IntKind.i64.wrap (((2 * j : Nat) : Int) + 1) = ((2 * j + 1 : Nat) : Int) := by rw [i64_in _ (by omega)]; omega
        have e2 : IntKind.i64.wrap (((2 * j : Nat) : Int) + 2) = ((2 * (j + 1) : Nat) : Int) := by rw [i64_in _ (by omega)]; omega
        have e3 : ((2 * j + 1 : Nat) : Int) < t.length := by omega
        have hpk := pk_eq t[2 * j] t[2 * j + 1] (hd _ (at_mem _)) (hd _ (at_mem _))
        simp only [seval, go_sem, hlt, getD_str t (2 * j) hi0, getD_str t (2 * j + 1) hi1, e1, e2, e3, hpk, el]
        repeat' (first
         | ((with_reducible_and_instances first | refine go_br (fun hc => ?_) (fun hc => ?_) | refine go_grd (fun hc => ?_) (fun hc => ?_) | refine go_dgrd (fun hc => ?_) (fun hc => ?_)) <;> (try simp only [decide_eq_true_eq, decide_eq_false_iff_not, Bool.not_eq_true', Bool.not_eq_false'] at hc) <;> simp only [seval, go_sem, hc, hlt, getD_str t (2 * j) hi0, getD_str t (2 * j + 1) hi1, e1, e2, e3, hpk, el]))
        refine ⟨by omega, j + 1, ?_, by omega, by (try dsimp only); omega⟩
        rw [show 2 * (j + 1) = 2 * j + 2 by omega, take2 t (2 * j) hi1, packs_app _ _ (by simp; omega), List.map_append]
        erw [hpk]
        rfl
      · have e : 2 * j = t.length := by omega
        have et : t.take (2 * j) = t := List.take_of_length_le (by omega)
        rw [et] at el
        have e8 : j ≤ (packs t).length := by omega
        have e9 : ((packs t).map eb).take j = (packs t).map eb := List.take_of_length_le (by simp; omega)
        simp only [seval, go_sem, hlt, et, e8, e9]
        repeat' (first
         | ((with_reducible_and_instances first | refine go_br (fun hc => ?_) (fun hc => ?_) | refine go_grd (fun hc => ?_) (fun hc => ?_) | refine go_dgrd (fun hc => ?_) (fun hc => ?_)) <;> (try simp only [decide_eq_true_eq, decide_eq_false_iff_not, Bool.not_eq_true', Bool.not_eq_false'] at hc) <;> simp only [seval, go_sem, hc, hlt, et, e8, e9]))
theorem iPutBcd_no (s : Str) (hs : s.length < 4294967296) (h : ¬ bcdOk s) : Ret PG f_impl_PutBcd [aS s] (.tup [.o (.p (.z 1)), oB false]) [] := by
  by_cases hn : (38 : Int) < s.length
  · refine exact_of (p_impl_PutBcd rfl rfl ?_)
    simp only [seval, go_sem, i_impl_PutBcd]
    repeat' (first
     | ((with_reducible_and_instances first | refine go_br (fun hc => ?_) (fun hc => ?_) | refine go_grd (fun hc => ?_) (fun hc => ?_) | refine go_dgrd (fun hc => ?_) (fun hc => ?_)) <;> (try simp only [decide_eq_true_eq, decide_eq_false_iff_not, Bool.not_eq_true', Bool.not_eq_false'] at hc) <;> simp only [seval, go_sem, hc, hn])
     | ((with_reducible_and_instances first | refine go_use (iDigits_ret s hs) ?_); simp only [seval, go_sem, hn]))
  · have hd : ¬ digits s := fun g => h ⟨g, by omega⟩
    refine exact_of (p_impl_PutBcd rfl rfl ?_)
    simp only [seval, go_sem, i_impl_PutBcd]
    repeat' (first
     | ((with_reducible_and_instances first | refine go_br (fun hc => ?_) (fun hc => ?_) | refine go_grd (fun hc => ?_) (fun hc => ?_) | refine go_dgrd (fun hc => ?_) (fun hc => ?_)) <;> (try simp only [decide_eq_true_eq, decide_eq_false_iff_not, Bool.not_eq_true', Bool.not_eq_false'] at hc) <;> simp only [seval, go_sem, hc, tf_false hd])
     | ((with_reducible_and_instances first | refine go_use (iDigits_ret s hs) ?_); simp only [seval, go_sem, tf_false hd]))
def pieceP (l : Nat) (at' n : Int) : Prop := 0 ≤ at' ∧ at' ≤ l ∧ 0 ≤ n ∧ n ≤ l - at'
theorem ipiece_no (b : List UInt8) (at' n : Int) (hb : b.length < 4294967296) (h : ¬ pieceP b.length at' n) : Ret PG f_impl_piece [aBs b, aI at', aI n] (.tup [.o (.p (.z 1)), oB false]) [] := by
  refine exact_of (p_impl_piece rfl rfl ?_)
  simp only [seval, go_sem, i_impl_piece]
  repeat' (first
   | ((with_reducible_and_instances first | refine go_br (fun hc => ?_) (fun hc => ?_) | refine go_grd (fun hc => ?_) (fun hc => ?_) | refine go_dgrd (fun hc => ?_) (fun hc => ?_)) <;> (try simp only [decide_eq_true_eq, decide_eq_false_iff_not, Bool.not_eq_true', Bool.not_eq_false'] at hc) <;> simp only [seval, go_sem, hc])
   | ((with_reducible_and_instances first | refine go_use (iwithin_ret _ _ _) ?_); simp only [seval, go_sem]))
  rename_i h1 h2
  have g := tf_iff.1 h1
  unfold inr at g
  rw [i64_in _ (by omega)] at hc
  exact absurd ⟨g.1, g.2, by omega, by omega⟩ h
theorem ipiece_ok (b : List UInt8) (at' n : Int) (hb : b.length < 4294967296) (h : pieceP b.length at' n) : Ret PG f_impl_piece [aBs b, aI at', aI n] (.tup [.o (.p (.sl 1 (((b.drop at'.toNat).take n.toNat).map eb))), oB true]) [] := by
  obtain ⟨h1, h2, h3, h4⟩ := h
  have e0 : tf (inr at' 0 b.length) = true := tf_true ⟨h1, h2⟩
  have e1 : IntKind.i64.wrap ((b.length : Int) - at') = (b.length : Int) - at' := i64_in _ (by omega)
  have e2 : IntKind.i64.wrap (at' + n) = at' + n := i64_in _ (by omega)
  have e3 : ¬ n < 0 := by omega
  have e4 : ¬ (b.length : Int) - at' < n := by omega
  have e5 : at' ≤ at' + n := by omega
  have e6 : at' + n ≤ b.length := by omega
  have e7 : ((b.map eb).take (at' + n).toNat).drop at'.toNat = ((b.drop at'.toNat).take n.toNat).map eb := by
    rw [← List.map_take, ← List.map_drop, List.drop_take]
    congr 2; omega
  refine exact_of (p_impl_piece rfl rfl ?_)
  simp only [seval, go_sem, i_impl_piece]
  repeat' (first
   | ((with_reducible_and_instances first | refine go_br (fun hc => ?_) (fun hc => ?_) | refine go_grd (fun hc => ?_) (fun hc => ?_) | refine go_dgrd (fun hc => ?_) (fun hc => ?_)) <;> (try simp only [decide_eq_true_eq, decide_eq_false_iff_not, Bool.not_eq_true', Bool.not_eq_false'] at hc) <;> simp only [seval, go_sem, hc, e0, e1, e2, e3, e4, h1, e5, e6, e7])
   | ((with_reducible_and_instances first | refine go_use (iwithin_ret _ _ _) ?_); simp only [seval, go_sem, e0, e1, e2, e3, e4, h1, e5, e6, e7]))
end Go.AW
namespace Go.AW
open IntWalk
def unpk (c : UInt8) : Str := [UInt8.ofNat (48 + c.toNat / 16), UInt8.ofNat (48 + c.toNat % 16)]
def unpacks (b : List UInt8) : Str := b.flatMap unpk
theorem unpacks_len : ∀ (b : List UInt8), (unpacks b).length = 2 * b.length
  | [] => rfl
  | c :: b => by have := unpacks_len b; simp only [unpacks, List.flatMap_cons, List.length_append, List.length_cons] at this ⊢; rw [this]; simp [unpk]; omega
theorem unpacks_take (b : List UInt8) (i : Nat) (h : i < b.length) : unpacks (b.take (i + 1)) = unpacks (b.take i) ++ unpk b[i] := by
  rw [take_at b i h]; unfold unpacks; rw [List.flatMap_append]; simp
set_option maxRecDepth 20000 in
theorem and_tab : ∀ x, x < 256 → IntKind.u8.wrap (48 + IntKind.u8.wrap ((BitVec.ofInt 8 ((x : Nat) : Int) &&& BitVec.ofInt 8 15).toNat : Int)) = ((48 + x % 16 : Nat) : Int) := by decide
set_option maxRecDepth 20000 in
theorem shr_tab : ∀ x, x < 256 → IntKind.u8.wrap (48 + ((x : Nat) : Int).fdiv (2 ^ (4 : Int).toNat)) = ((48 + x / 16 : Nat) : Int) := by decide
theorem unpk_map (c : UInt8) : (unpk c).map eb = [.int .u8 (IntKind.u8.wrap (48 + (c.toNat : Int).fdiv (2 ^ (4 : Int).toNat))), .int .u8 (IntKind.u8.wrap (48 + IntKind.u8.wrap ((BitVec.ofInt 8 (c.toNat : Int) &&& BitVec.ofInt 8 15).toNat : Int)))] := by
  have h : c.toNat < 256 := c.toNat_lt
  rw [and_tab _ h, shr_tab _ h]
  unfold unpk eb
  simp only [List.map_cons, List.map_nil]
  have h1 : (UInt8.ofNat (48 + c.toNat / 16)).toNat = 48 + c.toNat / 16 := by simp; omega
  have h2 : (UInt8.ofNat (48 + c.toNat % 16)).toNat = 48 + c.toNat % 16 := by simp; omega
  rw [h1, h2]
theorem u8s_map : ∀ (s : Str), u8s (s.map eb) = some s
  | [] => rfl
  | b :: s => by
    simp only [List.map_cons, eb, u8s]
    have := u8s_map s
    rw [this]
    simp
def half (n : Int) : Int := (n + 1) / 2
def ownOf (b : List UInt8) (at' n : Int) : List UInt8 := (b.drop at'.toNat).take (half n).toNat
noncomputable def getBcd (b : List UInt8) (at' n : Int) : Option (Str × Int) :=
  if tf (inr n 1 38 ∧ pieceP b.length at' (half n) ∧ digits (unpacks (ownOf b at' n)) ∧ (n % 2 = 1 → (unpacks (ownOf b at' n)).getD 0 0 = 48)) = true then
    some ((unpacks (ownOf b at' n)).drop ((unpacks (ownOf b at' n)).length - n.toNat), at' + half n) else none
def bcdR : Option (Str × Int) → R
  | some (s, e) => .tup [oS s, oI e, oB true]
  | none => .tup [oS [], oI 0, oB false]
theorem iGetBcd_ret (b : List UInt8) (at' n : Int) (hb : b.length < 4294967296) : Ret PG f_impl_GetBcd [aBs b, aI at', aI n] (bcdR (getBcd b at' n)) [] := by
  by_cases hn : inr n 1 38
  · have hn' : 1 ≤ n ∧ n ≤ 38 := hn
    have e0 : IntKind.i64.wrap ((IntKind.i64.wrap (n + 1)).tdiv 2) = half n := by rw [i64_in (n + 1) (by omega), i64_quo _ _ (by omega)]; rfl
    by_cases hp : pieceP b.length at' (half n)
    · have hp0 := hp
      obtain ⟨p1, p2, p3, p4⟩ := hp
      have hol : (ownOf b at' n).length = (half n).toNat := by unfold ownOf; simp; omega
      have hox : half n ≤ 20 := by unfold half; omega
      refine exact_of (p_impl_GetBcd rfl rfl ?_)
      simp only [seval, go_sem, i_impl_GetBcd]
      repeat' (first
       | ((with_reducible_and_instances first | refine go_br (fun hc => ?_) (fun hc => ?_) | refine go_grd (fun hc => ?_) (fun hc => ?_) | refine go_dgrd (fun hc => ?_) (fun hc => ?_)) <;> (try simp only [decide_eq_true_eq, decide_eq_false_iff_not, Bool.not_eq_true', Bool.not_eq_false'] at hc) <;> simp only [seval, go_sem, hc, e0, tf_true hn])
       | ((with_reducible_and_instances first | refine go_use (iwithin_ret _ _ _) ?_ | refine go_use (ipiece_ok b at' (half n) hb hp0) ?_); simp only [seval, go_sem, e0, tf_true hn]))
      rw [show (b.drop at'.toNat).take (half n).toNat = ownOf b at' n from rfl]
      have hg : getBcd b at' n = if tf (digits (unpacks (ownOf b at' n)) ∧ (n % 2 = 1 → (unpacks (ownOf b at' n)).getD 0 0 = 48)) = true then some ((unpacks (ownOf b at' n)).drop ((unpacks (ownOf b at' n)).length - n.toNat), at' + half n) else none := by
        unfold getBcd
        congr 2
        exact congrArg tf (propext ⟨fun g => g.2.2, fun g => ⟨hn, ⟨p1, p2, p3, p4⟩, g⟩⟩)
      rw [hg]
      generalize ownOf b at' n = own at *
      refine go_lp (β := Nat) (fun i => [(11, .sl 26 i 0 (2 * i)), (29, .p (.int .i64 i))]) (fun i => [(26, i, .arr 1 ((unpacks (own.take i)).map eb) false)]) (fun i => i ≤ own.length) (fun i => own.length - i) 0 ?_ ?_ ?_
      · rfl
      · simp
      · intro i hi
        have el : (unpacks (own.take i)).length = 2 * i := by rw [unpacks_len, List.length_take, Nat.min_eq_left hi]
        by_cases h : (i : Int) < own.length
        · have h' : i < own.length := by omega
          have hu := unpk_map own[i]
          simp only [seval, go_sem, h, getD_map eb own i h', eb, wrap_succ i (by omega), el]
          repeat' (first
           | ((with_reducible_and_instances first | refine go_br (fun hc => ?_) (fun hc => ?_) | refine go_grd (fun hc => ?_) (fun hc => ?_) | refine go_dgrd (fun hc => ?_) (fun hc => ?_)) <;> (try simp only [decide_eq_true_eq, decide_eq_false_iff_not, Bool.not_eq_true', Bool.not_eq_false'] at hc) <;> simp only [seval, go_sem, hc, h, getD_map eb own i h', eb, wrap_succ i (by omega), el]))
          refine ⟨by omega, i + 1, ?_, h', by (try dsimp only); omega⟩
          rw [unpacks_take own i h', List.map_append]
          erw [hu]
          rfl
        · have e : i = own.length := by omega
          subst e
          rw [List.take_length] at *
          have hl2 : (unpacks own).length = 2 * own.length := el
          have hh : (own.length : Int) = half n := by omega
          have e2 : n.tmod 2 = n % 2 := Int.tmod_eq_emod_of_nonneg (by omega)
          have hhd : half n = (n + 1) / 2 := rfl
          have hdig := iDigits_ret (unpacks own) (by omega)
          clear el
          generalize unpacks own = u at *
          obtain ⟨m, hm⟩ : ∃ m, m = 2 * own.length := ⟨_, rfl⟩
          rw [← hm] at hl2 ⊢
          obtain ⟨k, hk⟩ : ∃ k, k = m - n.toNat := ⟨_, rfl⟩
          have e3 : (0 : Int) < m := by omega
          have e31 : 0 < m := by omega
          have e4 : IntKind.i64.wrap ((m : Int) - n) = (k : Int) := by rw [i64_in _ (by omega)]; omega
          have e5 : IntKind.i64.wrap (at' + (own.length : Int)) = at' + half n := by rw [hh, i64_in _ (by omega)]
          have e6 : (k : Int) ≤ m := by omega
          have e7 : ¬ (k : Int) = m := by omega
          have e8 : k ≤ m := by omega
          have hg0 : u.getD 0 0 = u[0]'(by omega) := getD_str _ _ (by omega)
          have e9 : (u.map eb).take m = u.map eb := List.take_of_length_le (by simp; omega)
          have e10 : (u.map eb).getD 0 default = eb (u[0]'(by omega)) := getD_map eb _ 0 (by omega)
          have e11 : k + (m - k) ≤ m := by omega
          have e12 : ((u.map eb).drop k).take (m - k) = (u.drop k).map eb := by rw [List.map_drop, List.take_of_length_le (by simp; omega)]
          rw [hl2, ← hk, hg0]
          have hgd : ∀ q : Prop, tf (digits u) = true → (q ↔ (n % 2 = 1 → u[0] = 48)) → tf (digits u ∧ (n % 2 = 1 → u[0] = 48)) = tf q := fun q h1 h2 => congrArg tf (propext ⟨fun g => h2.2 g.2, fun g => ⟨tf_iff.1 h1, h2.1 g⟩⟩)
          have hb48 : ((u[0].toNat : Nat) : Int) = 48 ↔ u[0] = 48 := ⟨fun g => UInt8.toNat_inj.1 (by simpa using (by omega : u[0].toNat = 48)), fun g => by rw [g]; rfl⟩
          by_cases hdg : digits u
          · by_cases hodd : n % 2 = 1
            · by_cases h48 : ((u[0].toNat : Nat) : Int) = 48
              · rw [tf_true ⟨hdg, fun _ => hb48.1 h48⟩, if_pos rfl]
                simp only [seval, go_sem, h, hl2, tf_true hdg, e2, hodd, h48, e3, e31, e4, e5, e6, e7, e8, e9, e10, e11, e12, eb, u8s_map]
                repeat' (first
                 | ((with_reducible_and_instances first | refine go_br (fun hc => ?_) (fun hc => ?_) | refine go_grd (fun hc => ?_) (fun hc => ?_) | refine go_dgrd (fun hc => ?_) (fun hc => ?_)) <;> (try simp only [decide_eq_true_eq, decide_eq_false_iff_not, Bool.not_eq_true', Bool.not_eq_false'] at hc) <;> simp only [seval, go_sem, hc, h, hl2, tf_true hdg, e2, hodd, h48, e3, e31, e4, e5, e6, e7, e8, e9, e10, e11, e12, eb, u8s_map])
                 | ((with_reducible_and_instances first | refine go_use (hdig) ?_); simp only [seval, go_sem, h, hl2, tf_true hdg, e2, hodd, h48, e3, e31, e4, e5, e6, e7, e8, e9, e10, e11, e12, eb, u8s_map]))
                all_goals rfl
              · rw [tf_false (fun g => h48 (hb48.2 (g.2 hodd)))]
                simp only [seval, go_sem, h, hl2, tf_true hdg, e2, hodd, h48, e3, e31, e4, e5, e6, e7, e8, e9, e10, e11, e12, eb, u8s_map]
                repeat' (first
                 | ((with_reducible_and_instances first | refine go_br (fun hc => ?_) (fun hc => ?_) | refine go_grd (fun hc => ?_) (fun hc => ?_) | refine go_dgrd (fun hc => ?_) (fun hc => ?_)) <;> (try simp only [decide_eq_true_eq, decide_eq_false_iff_not, Bool.not_eq_true', Bool.not_eq_false'] at hc) <;> simp only [seval, go_sem, hc, h, hl2, tf_true hdg, e2, hodd, h48, e3, e31, e4, e5, e6, e7, e8, e9, e10, e11, e12, eb, u8s_map])
                 | ((with_reducible_and_instances first | refine go_use (hdig) ?_); simp only [seval, go_sem, h, hl2, tf_true hdg, e2, hodd, h48, e3, e31, e4, e5, e6, e7, e8, e9, e10, e11, e12, eb, u8s_map]))
                all_goals rfl
            · rw [tf_true ⟨hdg, fun g => absurd g hodd⟩, if_pos rfl]
              simp only [seval, go_sem, h, hl2, tf_true hdg, e2, hodd, e3, e31, e4, e5, e6, e7, e8, e9, e10, e11, e12, eb, u8s_map]
              repeat' (first
               | ((with_reducible_and_instances first | refine go_br (fun hc => ?_) (fun hc => ?_) | refine go_grd (fun hc => ?_) (fun hc => ?_) | refine go_dgrd (fun hc => ?_) (fun hc => ?_)) <;> (try simp only [decide_eq_true_eq, decide_eq_false_iff_not, Bool.not_eq_true', Bool.not_eq_false'] at hc) <;> simp only [seval, go_sem, hc, h, hl2, tf_true hdg, e2, hodd, e3, e31, e4, e5, e6, e7, e8, e9, e10, e11, e12, eb, u8s_map])
               | ((with_reducible_and_instances first | refine go_use (hdig) ?_); simp only [seval, go_sem, h, hl2, tf_true hdg, e2, hodd, e3, e31, e4, e5, e6, e7, e8, e9, e10, e11, e12, eb, u8s_map]))
              all_goals rfl
          · rw [tf_false (fun g => hdg g.1)]
            simp only [seval, go_sem, h, hl2, tf_false hdg, e9, eb, u8s_map]
            repeat' (first
             | ((with_reducible_and_instances first | refine go_br (fun hc => ?_) (fun hc => ?_) | refine go_grd (fun hc => ?_) (fun hc => ?_) | refine go_dgrd (fun hc => ?_) (fun hc => ?_)) <;> (try simp only [decide_eq_true_eq, decide_eq_false_iff_not, Bool.not_eq_true', Bool.not_eq_false'] at hc) <;> simp only [seval, go_sem, hc, h, hl2, tf_false hdg, e9, eb, u8s_map])
             | ((with_reducible_and_instances first | refine go_use (hdig) ?_); simp only [seval, go_sem, h, hl2, tf_false hdg, e9, eb, u8s_map]))
            all_goals rfl
    · refine exact_of (p_impl_GetBcd rfl rfl ?_)
      simp only [seval, go_sem, i_impl_GetBcd]
      repeat' (first
       | ((with_reducible_and_instances first | refine go_br (fun hc => ?_) (fun hc => ?_) | refine go_grd (fun hc => ?_) (fun hc => ?_) | refine go_dgrd (fun hc => ?_) (fun hc => ?_)) <;> (try simp only [decide_eq_true_eq, decide_eq_false_iff_not, Bool.not_eq_true', Bool.not_eq_false'] at hc) <;> simp only [seval, go_sem, hc, e0, tf_true hn])
       | ((with_reducible_and_instances first | refine go_use (iwithin_ret _ _ _) ?_ | refine go_use (ipiece_no b at' (half n) hb hp) ?_); simp only [seval, go_sem, e0, tf_true hn]))
      refine go_lp (β := Nat) (fun i => []) (fun i => []) (fun i => True) (fun i => 0) 0 ?_ ?_ ?_
      · rfl
      · trivial
      · intro i _
        have h0 : ¬ (0 : Int) < 0 := by omega
        simp only [seval, go_sem, h0]
        repeat' (first
         | ((with_reducible_and_instances first | refine go_br (fun hc => ?_) (fun hc => ?_) | refine go_grd (fun hc => ?_) (fun hc => ?_) | refine go_dgrd (fun hc => ?_) (fun hc => ?_)) <;> (try simp only [decide_eq_true_eq, decide_eq_false_iff_not, Bool.not_eq_true', Bool.not_eq_false'] at hc) <;> simp only [seval, go_sem, hc, h0]))
        rw [getBcd, tf_false (fun g => hp g.2.1)]; rfl
  · refine exact_of (p_impl_GetBcd rfl rfl ?_)
    simp only [seval, go_sem, i_impl_GetBcd]
    repeat' (first
     | ((with_reducible_and_instances first | refine go_br (fun hc => ?_) (fun hc => ?_) | refine go_grd (fun hc => ?_) (fun hc => ?_) | refine go_dgrd (fun hc => ?_) (fun hc => ?_)) <;> (try simp only [decide_eq_true_eq, decide_eq_false_iff_not, Bool.not_eq_true', Bool.not_eq_false'] at hc) <;> simp only [seval, go_sem, hc, tf_false hn])
     | ((with_reducible_and_instances first | refine go_use (iwithin_ret _ _ _) ?_); simp only [seval, go_sem, tf_false hn]))
    rw [getBcd, tf_false (fun g => hn g.1)]; rfl
end Go.AW
namespace Go.AW
open IntWalk
def bitAt (bs : List UInt8) (k : Nat) : Prop := ¬ ((bs.getD (k / 8) 0).toNat &&& (128 >>> (k % 8))) = 0
noncomputable def bitsUp (bs : List UInt8) (n : Nat) : List Int := ((List.range n).filter fun k => tf (bitAt bs k)).map fun k => ((k + 1 : Nat) : Int)
noncomputable def getBits (b : List UInt8) (at' : Int) : Option (List Int × Int) :=
  if tf (pieceP b.length at' 8) = true then some (bitsUp ((b.drop at'.toNat).take 8) 64, at' + 8) else none
theorem bitsUp_succ (bs : List UInt8) (n : Nat) : bitsUp bs (n + 1) = if tf (bitAt bs n) = true then bitsUp bs n ++ [((n + 1 : Nat) : Int)] else bitsUp bs n := by
  unfold bitsUp
  rw [List.range_succ, List.filter_append]
  by_cases h : tf (bitAt bs n) = true
  · simp [h]
  · simp [h]
set_option maxRecDepth 40000 in
theorem bit_tab : ∀ x, x < 256 → ∀ r, r < 8 → (IntKind.u8.wrap ((BitVec.ofInt 8 ((x : Nat) : Int) &&& BitVec.ofInt 8 ((128 : Int).fdiv (2 ^ min r 8))).toNat : Int) = 0 ↔ x &&& (128 >>> r) = 0) := by decide
theorem quo_nat (a b : Nat) (hb : 0 < b) (ha : a < 4294967296) : IntKind.i64.wrap ((a : Int).tdiv b) = ((a / b : Nat) : Int) := by
  rw [i64_quo _ _ (by omega)]; rfl
theorem rem_nat (a b : Nat) : ((a : Int)).tmod b = ((a % b : Nat) : Int) := by
  rw [Int.tmod_eq_emod_of_nonneg (by omega)]; rfl
def bitsR : Option (List Int × Int) → R
  | some (l, e) => .tup [.o (.own 1 (l.map ei)), oI e, oB true]
  | none => .tup [.o (.p (.z 1)), oI 0, oB false]
theorem iGetBits_ret (b : List UInt8) (at' : Int) (hb : b.length < 4294967296) : Ret PG f_impl_GetBits [aBs b, aI at'] (bitsR (getBits b at')) [] := by
  by_cases hp : pieceP b.length at' 8
  · have e5 : IntKind.i64.wrap (at' + 8) = at' + 8 := by have h1 := hp.1; have h2 := hp.2.1; rw [i64_in _ (by omega)]
    have hol : ((b.drop at'.toNat).take 8).length = 8 := by have h1 := hp.1; have h2 := hp.2.2.2; simp; omega
    have e8 : (8 : Int).toNat = 8 := rfl
    rw [getBits, tf_true hp, if_pos rfl]
    refine exact_of (p_impl_GetBits rfl rfl ?_)
    simp only [seval, go_sem, i_impl_GetBits]
    repeat' (first
     | ((with_reducible_and_instances first | refine go_br (fun hc => ?_) (fun hc => ?_) | refine go_grd (fun hc => ?_) (fun hc => ?_) | refine go_dgrd (fun hc => ?_) (fun hc => ?_)) <;> (try simp only [decide_eq_true_eq, decide_eq_false_iff_not, Bool.not_eq_true', Bool.not_eq_false'] at hc) <;> simp only [seval, go_sem, hc, e8])
     | ((with_reducible_and_instances first | refine go_use (ipiece_ok b at' 8 hb hp) ?_); simp only [seval, go_sem, e8]))
    generalize (b.drop at'.toNat).take 8 = own at *
    refine go_lp (β := Nat) (fun j => [(9, .sl 19 (bitsUp own j).length 0 (bitsUp own j).length), (10, .p (.int .i64 (j + 1 : Nat)))]) (fun j => [(19, (bitsUp own j).length, .arr 1 ((bitsUp own j).map ei) false)]) (fun j => j ≤ 64) (fun j => 64 - j) 0 ?_ ?_ ?_
    · rfl
    · simp
    · intro j hj
      have hlen : (bitsUp own j).length ≤ 64 := by
        unfold bitsUp; rw [List.length_map]; exact Nat.le_trans (List.length_filter_le _ _) (by simp; omega)
      by_cases h : (((j + 1 : Nat) : Int)) ≤ 64
      · have e1 : IntKind.i64.wrap (((j + 1 : Nat) : Int) - 1) = (j : Int) := by rw [i64_in _ (by omega)]; omega
        have e2 : IntKind.i64.wrap ((j : Int).tdiv 8) = ((j / 8 : Nat) : Int) := quo_nat j 8 (by omega) (by omega)
        have e3 : ((j : Int)).tmod 8 = ((j % 8 : Nat) : Int) := rem_nat j 8
        have h8 : j / 8 < own.length := by omega
        have h9 : ((j / 8 : Nat) : Int) < own.length := by omega
        have h10 : ¬ ((j % 8 : Nat) : Int) < 0 := by omega
        have hbt := bit_tab own[j / 8].toNat own[j / 8].toNat_lt (j % 8) (by omega)
        have hbit : bitAt own j ↔ ¬ (own[j / 8].toNat &&& (128 >>> (j % 8))) = 0 := by unfold bitAt; rw [getD_str _ _ h8]
        have hsu := bitsUp_succ own j
        generalize hl : bitsUp own j = l at *
        by_cases hset : bitAt own j
        · rw [tf_true hset, if_pos rfl] at hsu
          have hnz := mt hbt.1 (hbit.1 hset)
          simp only [seval, go_sem, h, e1, e2, e3, h9, h10, hnz, getD_map eb own (j / 8) h8, eb, wrap_succ (j + 1) (by omega)]
          repeat' (first
           | ((with_reducible_and_instances first | refine go_br (fun hc => ?_) (fun hc => ?_) | refine go_grd (fun hc => ?_) (fun hc => ?_) | refine go_dgrd (fun hc => ?_) (fun hc => ?_)) <;> (try simp only [decide_eq_true_eq, decide_eq_false_iff_not, Bool.not_eq_true', Bool.not_eq_false'] at hc) <;> simp only [seval, go_sem, hc, h, e1, e2, e3, h9, h10, hnz, getD_map eb own (j / 8) h8, eb, wrap_succ (j + 1) (by omega)]))
          · refine ⟨by omega, j + 1, ?_, by omega, by (try dsimp only); omega⟩
            rw [hsu, List.length_append, List.map_append]; rfl
          · exact absurd hnz hc
        · rw [tf_false hset] at hsu
          have hnz := hbt.2 (Classical.not_not.1 (mt hbit.2 hset))
          simp only [seval, go_sem, h, e1, e2, e3, h9, h10, hnz, getD_map eb own (j / 8) h8, eb, wrap_succ (j + 1) (by omega)]
          repeat' (first
           | ((with_reducible_and_instances first | refine go_br (fun hc => ?_) (fun hc => ?_) | refine go_grd (fun hc => ?_) (fun hc => ?_) | refine go_dgrd (fun hc => ?_) (fun hc => ?_)) <;> (try simp only [decide_eq_true_eq, decide_eq_false_iff_not, Bool.not_eq_true', Bool.not_eq_false'] at hc) <;> simp only [seval, go_sem, hc, h, e1, e2, e3, h9, h10, hnz, getD_map eb own (j / 8) h8, eb, wrap_succ (j + 1) (by omega)]))
          · exact absurd hnz hc
          · refine ⟨j + 1, ?_, by omega, by (try dsimp only); omega⟩
            rw [hsu, if_neg (by simp)]; rfl
      · obtain rfl : j = 64 := by omega
        simp only [seval, go_sem, h, e5]
        repeat' (first
         | ((with_reducible_and_instances first | refine go_br (fun hc => ?_) (fun hc => ?_) | refine go_grd (fun hc => ?_) (fun hc => ?_) | refine go_dgrd (fun hc => ?_) (fun hc => ?_)) <;> (try simp only [decide_eq_true_eq, decide_eq_false_iff_not, Bool.not_eq_true', Bool.not_eq_false'] at hc) <;> simp only [seval, go_sem, hc, h, e5]))
        rfl
  · rw [getBits, tf_false hp]
    refine exact_of (p_impl_GetBits rfl rfl ?_)
    simp only [seval, go_sem, i_impl_GetBits]
    repeat' (first
     | ((with_reducible_and_instances first | refine go_br (fun hc => ?_) (fun hc => ?_) | refine go_grd (fun hc => ?_) (fun hc => ?_) | refine go_dgrd (fun hc => ?_) (fun hc => ?_)) <;> (try simp only [decide_eq_true_eq, decide_eq_false_iff_not, Bool.not_eq_true', Bool.not_eq_false'] at hc) <;> simp only [seval, go_sem, hc])
     | ((with_reducible_and_instances first | refine go_use (ipiece_no b at' 8 hb hp) ?_); simp only [seval, go_sem]))
    rfl
def setBit (bs : List UInt8) (k : Nat) : List UInt8 := bs.set (k / 8) (UInt8.ofNat ((bs.getD (k / 8) 0).toNat ||| (128 >>> (k % 8))))
noncomputable def putStep (bs : List UInt8) (k : Int) : List UInt8 := if tf (inr k 1 64) = true then setBit bs (k - 1).toNat else bs
noncomputable def putBits (l : List Int) : List UInt8 := l.foldl putStep [0, 0, 0, 0, 0, 0, 0, 0]
theorem putStep_len (bs : List UInt8) (k : Int) : (putStep bs k).length = bs.length := by unfold putStep; split <;> simp [setBit]
theorem putFold_len (l : List Int) : ∀ (bs : List UInt8), (l.foldl putStep bs).length = bs.length := by
  induction l with
  | nil => intro bs; rfl
  | cons k l ih => intro bs; rw [List.foldl_cons, ih, putStep_len]
theorem putBits_len (l : List Int) : (putBits l).length = 8 := putFold_len l _
set_option maxRecDepth 40000 in
theorem or_tab : ∀ x, x < 256 → ∀ r, r < 8 → IntKind.u8.wrap ((BitVec.ofInt 8 ((x : Nat) : Int) ||| BitVec.ofInt 8 ((128 : Int).fdiv (2 ^ min r 8))).toNat : Int) = ((x ||| (128 >>> r) : Nat) : Int) ∧ (x ||| (128 >>> r)) < 256 := by decide
theorem iPutBits_ret (l : List Int) (hl : l.length < 4294967296) : Ret PG f_impl_PutBits [aIs l] (.o (.own 1 ((putBits l).map eb))) [] := by
  have z1 : (0 : Int) ≤ 8 := by omega
  have z2 : (8 : Int) < 9223372036854775808 := by omega
  have z3 : (1 : Int) * 8 ≤ 281474976710656 := by omega
  have z4 : (8 : Int).toNat = 8 := rfl
  refine exact_of (p_impl_PutBits rfl rfl ?_)
  simp only [seval, go_sem, i_impl_PutBits, z1, z2, z3, z4]
  refine go_lp (β := Nat) (fun i => [(9, .p (.int .i64 i))]) (fun i => [(6, 0, .arr 1 ((putBits (l.take i)).map eb) false)]) (fun i => i ≤ l.length) (fun i => l.length - i) 0 ?_ ?_ ?_
  · rfl
  · simp
  · intro i hi
    have hbl := putBits_len (l.take i)
    by_cases h : (i : Int) < l.length
    · have h' : i < l.length := by omega
      have hst : putBits (l.take (i + 1)) = putStep (putBits (l.take i)) l[i] := foldl_take putStep _ l i h'
      generalize putBits (l.take i) = bs at *
      by_cases hr : inr l[i] 1 64
      · obtain ⟨k, hk⟩ : ∃ k : Nat, l[i] = ((k + 1 : Nat) : Int) := ⟨(l[i] - 1).toNat, by unfold inr at hr; omega⟩
        have hk64 : k < 64 := by unfold inr at hr; omega
        have e1 : IntKind.i64.wrap (((k + 1 : Nat) : Int) - 1) = (k : Int) := by rw [i64_in _ (by omega)]; omega
        have e2 : IntKind.i64.wrap ((k : Int).tdiv 8) = ((k / 8 : Nat) : Int) := quo_nat k 8 (by omega) (by omega)
        have e3 : ((k : Int)).tmod 8 = ((k % 8 : Nat) : Int) := rem_nat k 8
        have h8 : k / 8 < bs.length := by omega
        have h9 : ((k / 8 : Nat) : Int) < bs.length := by omega
        have h10 : ¬ ((k % 8 : Nat) : Int) < 0 := by omega
        have hot := or_tab bs[k / 8].toNat bs[k / 8].toNat_lt (k % 8) (by omega)
        have hps : putStep bs l[i] = setBit bs k := by
          unfold putStep; rw [tf_true hr, if_pos rfl, hk]; congr 1; omega
        rw [hps] at hst
        have hx : tf (inr ((k + 1 : Nat) : Int) 1 64) = true := by rw [← hk]; exact tf_true hr
        have hgd : (l.map ei).getD i default = ei ((k + 1 : Nat) : Int) := by rw [getD_map ei l i h', hk]
        have h98 : ((k / 8 : Nat) : Int) < 8 := by omega
        have hset : (bs.map eb).set (k / 8) (P.int .u8 ((bs[k / 8].toNat ||| 128 >>> (k % 8) : Nat) : Int)) = (setBit bs k).map eb := by
          unfold setBit
          rw [List.map_set, getD_str _ _ h8]
          congr 1
          unfold eb
          have : (UInt8.ofNat (bs[k / 8].toNat ||| 128 >>> (k % 8))).toNat = bs[k / 8].toNat ||| 128 >>> (k % 8) := by
            rw [UInt8.toNat_ofNat']; exact Nat.mod_eq_of_lt hot.2
          rw [this]
        have hot1 := hot.1
        simp only [seval, go_sem, h, hgd, getD_map eb bs (k / 8) h8, eb, ei, hx, e1, e2, e3, h9, h98, h10, hot1, hset, h8, wrap_succ i (by omega)]
        repeat' (first
         | ((with_reducible_and_instances first | refine go_br (fun hc => ?_) (fun hc => ?_) | refine go_grd (fun hc => ?_) (fun hc => ?_) | refine go_dgrd (fun hc => ?_) (fun hc => ?_)) <;> (try simp only [decide_eq_true_eq, decide_eq_false_iff_not, Bool.not_eq_true', Bool.not_eq_false'] at hc) <;> simp only [seval, go_sem, hc, h, hgd, getD_map eb bs (k / 8) h8, eb, ei, hx, e1, e2, e3, h9, h98, h10, hot1, hset, h8, wrap_succ i (by omega)])
         | ((with_reducible_and_instances first | refine go_use (iwithin_ret _ _ _) ?_); simp only [seval, go_sem, h, hgd, getD_map eb bs (k / 8) h8, eb, ei, hx, e1, e2, e3, h9, h98, h10, hot1, hset, h8, wrap_succ i (by omega)]))
        refine ⟨i + 1, ?_, h', by (try dsimp only); omega⟩
        rw [hst]
        erw [hot1, hset]
        rfl
      · have hps : putStep bs l[i] = bs := by unfold putStep; rw [tf_false hr]; rfl
        rw [hps] at hst
        simp only [seval, go_sem, h, getD_map ei l i h', ei, tf_false hr, wrap_succ i (by omega)]
        repeat' (first
         | ((with_reducible_and_instances first | refine go_br (fun hc => ?_) (fun hc => ?_) | refine go_grd (fun hc => ?_) (fun hc => ?_) | refine go_dgrd (fun hc => ?_) (fun hc => ?_)) <;> (try simp only [decide_eq_true_eq, decide_eq_false_iff_not, Bool.not_eq_true', Bool.not_eq_false'] at hc) <;> simp only [seval, go_sem, hc, h, getD_map ei l i h', ei, tf_false hr, wrap_succ i (by omega)])
         | ((with_reducible_and_instances first | refine go_use (iwithin_ret _ _ _) ?_); simp only [seval, go_sem, h, getD_map ei l i h', ei, tf_false hr, wrap_succ i (by omega)]))
        exact ⟨i + 1, by rw [hst]; rfl, h', by (try dsimp only); omega⟩
    · obtain rfl : i = l.length := by omega
      rw [List.take_length] at *
      have hbl2 : 8 ≤ (putBits l).length := by omega
      have hbl3 : ((putBits l).map eb).take 8 = (putBits l).map eb := List.take_of_length_le (by simp; omega)
      simp only [seval, go_sem, h, hbl2, hbl3]
      repeat' (first
       | ((with_reducible_and_instances first | refine go_br (fun hc => ?_) (fun hc => ?_) | refine go_grd (fun hc => ?_) (fun hc => ?_) | refine go_dgrd (fun hc => ?_) (fun hc => ?_)) <;> (try simp only [decide_eq_true_eq, decide_eq_false_iff_not, Bool.not_eq_true', Bool.not_eq_false'] at hc) <;> simp only [seval, go_sem, hc, h, hbl2, hbl3]))
end Go.AW
namespace Go.AW
open IntWalk
/-! numbers as text -/
def val (s : Str) : Nat := s.foldl (fun n b => n * 10 + (b.toNat - 48)) 0
theorem decFrom_digits : ∀ (s : Str) (acc : Nat), (∀ b ∈ s, digit b) → Lib.decFrom acc s = some (s.foldl (fun n b => n * 10 + (b.toNat - 48)) acc)
  | [], acc, _ => rfl
  | b :: s, acc, h => by
    have hb : digit b := h b List.mem_cons_self
    unfold digit at hb
    rw [Lib.decFrom, Lib.digitVal, if_pos hb]
    exact decFrom_digits s _ fun x hx => h x (List.mem_cons_of_mem _ hx)
theorem atoi_digits (s : Str) (h : digits s) : Lib.atoi s = some (val s : Int) := by
  cases s with
  | nil => exact absurd rfl h.1
  | cons b r =>
    have hb : digit b := h.2 b List.mem_cons_self
    unfold digit at hb
    have h1 : (b == 45) = false := by
      rw [beq_eq_false_iff_ne]; rintro rfl; simp at hb
    have h2 : (b == 43) = false := by
      rw [beq_eq_false_iff_ne]; rintro rfl; simp at hb
    rw [Lib.atoi, h1, h2]
    simp only [Bool.false_eq_true, if_false, Lib.decNat, List.isEmpty_cons]
    rw [decFrom_digits _ _ h.2]
    rfl
def narrowOk (s : Str) : Prop := digits s ∧ (s.length : Int) ≤ 18
theorem iNarrow_ok (s : Str) (h : narrowOk s) : Ret PG f_impl_Narrow [aS s] (.tup [oI (val s), oB true]) [] := by
  have h2 := h.2
  have h3 : ¬ (18 : Int) < s.length := by omega
  have ha := Atoi_short s _ (by omega) (atoi_digits s h.1)
  have ht := tf_true h.1
  refine exact_of (p_impl_Narrow rfl rfl ?_)
  simp only [seval, go_sem, i_impl_Narrow]
  repeat' (first
   | ((with_reducible_and_instances first | refine go_br (fun hc => ?_) (fun hc => ?_) | refine go_grd (fun hc => ?_) (fun hc => ?_) | refine go_dgrd (fun hc => ?_) (fun hc => ?_)) <;> (try simp only [decide_eq_true_eq, decide_eq_false_iff_not, Bool.not_eq_true', Bool.not_eq_false'] at hc) <;> simp only [seval, go_sem, hc, ht, h3])
   | ((with_reducible_and_instances first | refine go_use (iDigits_ret s (by omega)) ?_ | refine go_use (ha) ?_); simp only [seval, go_sem, ht, h3]))
theorem iNarrow_no (s : Str) (hs : s.length < 4294967296) (h : ¬ narrowOk s) : Ret PG f_impl_Narrow [aS s] (.tup [oI 0, oB false]) [] := by
  by_cases h3 : (18 : Int) < s.length
  · refine exact_of (p_impl_Narrow rfl rfl ?_)
    simp only [seval, go_sem, i_impl_Narrow]
    repeat' (first
     | ((with_reducible_and_instances first | refine go_br (fun hc => ?_) (fun hc => ?_) | refine go_grd (fun hc => ?_) (fun hc => ?_) | refine go_dgrd (fun hc => ?_) (fun hc => ?_)) <;> (try simp only [decide_eq_true_eq, decide_eq_false_iff_not, Bool.not_eq_true', Bool.not_eq_false'] at hc) <;> simp only [seval, go_sem, hc, h3])
     | ((with_reducible_and_instances first | refine go_use (iDigits_ret s hs) ?_); simp only [seval, go_sem, h3]))
  · have hd : ¬ digits s := fun g => h ⟨g, by omega⟩
    refine exact_of (p_impl_Narrow rfl rfl ?_)
    simp only [seval, go_sem, i_impl_Narrow]
    repeat' (first
     | ((with_reducible_and_instances first | refine go_br (fun hc => ?_) (fun hc => ?_) | refine go_grd (fun hc => ?_) (fun hc => ?_) | refine go_dgrd (fun hc => ?_) (fun hc => ?_)) <;> (try simp only [decide_eq_true_eq, decide_eq_false_iff_not, Bool.not_eq_true', Bool.not_eq_false'] at hc) <;> simp only [seval, go_sem, hc, tf_false hd])
     | ((with_reducible_and_instances first | refine go_use (iDigits_ret s hs) ?_); simp only [seval, go_sem, tf_false hd]))
def wideN (n w : Nat) : Str := Lib.repeatL [48] (w - (Lib.decDigits n).length) ++ Lib.decDigits n
theorem iWide_ret (n w : Nat) (hi : Ret PG f_strconv_Itoa [aI n] (oS (Lib.decDigits n)) []) (hw : 1 ≤ w ∧ w ≤ 18) (hl : (Lib.decDigits n).length ≤ w) : Ret PG f_impl_Wide [aI n, aI w] (oS (wideN n w)) [] := by
  have h1 : ¬ ((n : Int) < 0) := by omega
  have h2 : inr (w : Int) 1 18 := ⟨by omega, by omega⟩
  have h3 : ¬ ((w : Int) < (Lib.decDigits n).length) := by omega
  have h4 : IntKind.i64.wrap ((w : Int) - (Lib.decDigits n).length) = ((w - (Lib.decDigits n).length : Nat) : Int) := by rw [i64_in _ (by omega)]; omega
  have h5 : (Lib.repeatL [48] (w - (Lib.decDigits n).length)).length + (Lib.decDigits n).length ≤ 4611686018427387904 := by rw [Lib.repeatL_length]; simp; omega
  have hr := Repeat_ret [48] (w - (Lib.decDigits n).length) (by simp only [List.length_cons, List.length_nil]; omega) (by omega)
  have ht := tf_true h2
  refine exact_of (p_impl_Wide rfl rfl ?_)
  simp only [seval, go_sem, i_impl_Wide]
  repeat' (first
   | ((with_reducible_and_instances first | refine go_br (fun hc => ?_) (fun hc => ?_) | refine go_grd (fun hc => ?_) (fun hc => ?_) | refine go_dgrd (fun hc => ?_) (fun hc => ?_)) <;> (try simp only [decide_eq_true_eq, decide_eq_false_iff_not, Bool.not_eq_true', Bool.not_eq_false'] at hc) <;> simp only [seval, go_sem, hc, h1, ht, h3, h4, h5])
   | ((with_reducible_and_instances first | refine go_use (hi) ?_ | refine go_use (iwithin_ret _ _ _) ?_ | refine go_use (hr) ?_); simp only [seval, go_sem, h1, ht, h3, h4, h5]))
  rfl
def dec2 (n : Nat) : Str := if n < 10 then [UInt8.ofNat (48 + n)] else [UInt8.ofNat (48 + n / 10), UInt8.ofNat (48 + n % 10)]
theorem dec_small (n : Nat) (h : n < 100) : Lib.decDigits n = dec2 n := by
  unfold dec2
  rw [Lib.decDigits]
  by_cases h1 : n < 10
  · simp [h1]
  · have h2 : n / 10 < 10 := by omega
    rw [dif_neg h1, if_neg h1, Lib.decDigits, dif_pos h2]; rfl
theorem dec2_len (n : Nat) : 1 ≤ (dec2 n).length ∧ (dec2 n).length ≤ 2 := by unfold dec2; split <;> simp
theorem iWide_small (n w : Nat) (hn : n < 100) (hw : 2 ≤ w ∧ w ≤ 18) : Ret PG f_impl_Wide [aI n, aI w] (oS (wideN n w)) [] :=
  iWide_ret n w (Itoa_small n hn) ⟨by omega, hw.2⟩ (by rw [dec_small n hn]; have := dec2_len n; omega)

/-! fields -/
def rows : List (Int × Int × Int) := [(2, 3, 19), (3, 1, 6), (4, 1, 12), (7, 1, 10), (11, 1, 6), (14, 1, 4), (37, 2, 12), (38, 2, 6), (39, 2, 2), (41, 2, 8), (48, 5, 60), (49, 1, 3), (54, 5, 60), (95, 2, 12), (102, 4, 20), (103, 4, 20)]
def rowP (r : Int × Int × Int) : P := .agg [.int .i64 r.1, .int .i64 r.2.1, .int .i64 r.2.2]
def rowOf (no : Int) : Int × Int × Int := (rows.find? fun r => r.1 == no).getD (0, 0, 0)
theorem ifieldRows_ret : Ret PG f_impl_fieldRows [] (.o (.p (.sl 3 (rows.map rowP)))) [] := by
  have h : Ret PG f_impl_fieldRows [] (.o (.own 3 (rows.map rowP))) [] := by
    refine exact_of (p_impl_fieldRows rfl rfl ?_)
    simp only [seval, go_sem, i_impl_fieldRows]
    rfl
  exact h.wkO
theorem rows_find {α : Type} {p : α → Bool} {l : List α} {i : Nat} (h : i < l.length) (h1 : ∀ x ∈ l.take i, p x = false) (h2 : p l[i] = true) : l.find? p = some l[i] := by
  induction l generalizing i with
  | nil => simp at h
  | cons x l ih =>
    cases i with
    | zero => simp at h2; simp [h2]
    | succ i =>
      have hx : p x = false := h1 x (by simp)
      rw [List.find?_cons, hx]
      exact ih (by simpa using h) (fun y hy => h1 y (by simp [hy])) (by simpa using h2)
theorem irowOf_ret (no : Int) : Ret PG f_impl_rowOf [aI no] (.agg [.p (.int .i64 (rowOf no).1), .p (.int .i64 (rowOf no).2.1), .p (.int .i64 (rowOf no).2.2)]) [] := by
  have hlen : rows.length = 16 := rfl
  refine exact_of (p_impl_rowOf rfl rfl ?_)
  simp only [seval, go_sem, i_impl_rowOf]
  with_reducible_and_instances refine go_use (ifieldRows_ret) ?_
  simp only [seval, go_sem]
  refine go_lp (β := Nat) (fun i => [(7, .p (.int .i64 i))]) (fun _ => []) (fun i => i ≤ rows.length ∧ ∀ r ∈ rows.take i, (r.1 == no) = false) (fun i => rows.length - i) 0 ?_ ?_ ?_
  · rfl
  · simp
  · rintro i ⟨hi, hd⟩
    have hro : rowOf no = (rows.find? fun r => r.1 == no).getD (0, 0, 0) := rfl
    by_cases h : (i : Int) < rows.length
    · have h' : i < rows.length := by omega
      generalize rows = l at *
      simp only [seval, go_sem, h, getD_map rowP l i h', rowP, wrap_succ i (by omega)]
      repeat' (first
       | ((with_reducible_and_instances first | refine go_br (fun hc => ?_) (fun hc => ?_) | refine go_grd (fun hc => ?_) (fun hc => ?_) | refine go_dgrd (fun hc => ?_) (fun hc => ?_)) <;> (try simp only [decide_eq_true_eq, decide_eq_false_iff_not, Bool.not_eq_true', Bool.not_eq_false'] at hc) <;> simp only [seval, go_sem, hc, h, getD_map rowP l i h', rowP, wrap_succ i (by omega)]))
      · rw [hro, rows_find h' hd (by simpa using hc)]; simp [hc]
      · exact ⟨i + 1, rfl, ⟨h', take_all h' hd (by simpa using hc)⟩, by (try dsimp only); omega⟩
    · have ha := all_of_take h hd
      generalize rows = l at *
      simp only [seval, go_sem, h]
      repeat' (first
       | ((with_reducible_and_instances first | refine go_br (fun hc => ?_) (fun hc => ?_) | refine go_grd (fun hc => ?_) (fun hc => ?_) | refine go_dgrd (fun hc => ?_) (fun hc => ?_)) <;> (try simp only [decide_eq_true_eq, decide_eq_false_iff_not, Bool.not_eq_true', Bool.not_eq_false'] at hc) <;> simp only [seval, go_sem, hc, h]))
      rw [hro, List.find?_eq_none.2 (fun x hx => by simp [ha x hx])]; rfl
def fieldKind (no : Int) : Int := (rowOf no).2.1
def fieldSize (no : Int) : Int := (rowOf no).2.2
theorem iFieldKind_ret (no : Int) : Ret PG f_impl_FieldKind [aI no] (oI (fieldKind no)) [] := by
  refine exact_of (p_impl_FieldKind rfl rfl ?_)
  simp only [seval, go_sem, i_impl_FieldKind]
  with_reducible_and_instances refine go_use (irowOf_ret no) ?_
  simp only [seval, go_sem]
  rfl
theorem iFieldSize_ret (no : Int) : Ret PG f_impl_FieldSize [aI no] (oI (fieldSize no)) [] := by
  refine exact_of (p_impl_FieldSize rfl rfl ?_)
  simp only [seval, go_sem, i_impl_FieldSize]
  with_reducible_and_instances refine go_use (irowOf_ret no) ?_
  simp only [seval, go_sem]
  rfl
theorem rowOf_mem (no : Int) : rowOf no = (0, 0, 0) ∨ rowOf no ∈ rows := by
  unfold rowOf
  cases h : rows.find? fun r => r.1 == no with
  | none => exact .inl rfl
  | some r => exact .inr (List.mem_of_find?_eq_some h)
theorem kindSize (no : Int) : 0 ≤ fieldKind no ∧ fieldKind no ≤ 5 ∧ 0 ≤ fieldSize no ∧ fieldSize no ≤ 60 := by
  unfold fieldKind fieldSize
  rcases rowOf_mem no with h | h
  · rw [h]; decide
  · have : ∀ r ∈ rows, 0 ≤ r.2.1 ∧ r.2.1 ≤ 5 ∧ 0 ≤ r.2.2 ∧ r.2.2 ≤ 60 := by decide
    exact this _ h
def fieldOk (no : Int) (s : Str) : Prop := (fieldKind no = 1 ∧ digits s ∧ (s.length : Int) = fieldSize no) ∨ (fieldKind no = 2 ∧ printable s ∧ (s.length : Int) = fieldSize no) ∨
  (fieldKind no = 3 ∧ digits s ∧ inr s.length 1 (fieldSize no)) ∨ ((fieldKind no = 4 ∨ fieldKind no = 5) ∧ printable s ∧ inr s.length 1 (fieldSize no))
theorem iFieldOk_ret (no : Int) (s : Str) (hs : s.length < 4294967296) : Ret PG f_impl_FieldOk [aI no, aS s] (oB (tf (fieldOk no s))) [] := by
  have hk : (rowOf no).2.1 = fieldKind no := rfl
  have hz : (rowOf no).2.2 = fieldSize no := rfl
  refine exact_of (p_impl_FieldOk rfl rfl ?_)
  simp only [seval, go_sem, i_impl_FieldOk]
  with_reducible_and_instances refine go_use (irowOf_ret no) ?_
  rw [hk, hz]
  have hf : fieldOk no s = fieldOk no s := rfl
  conv at hf => rhs; unfold fieldOk
  rw [hf]
  generalize fieldKind no = k at *
  generalize fieldSize no = z at *
  simp only [seval, go_sem]
  repeat' (first
   | ((with_reducible_and_instances first | refine go_br (fun hc => ?_) (fun hc => ?_) | refine go_grd (fun hc => ?_) (fun hc => ?_) | refine go_dgrd (fun hc => ?_) (fun hc => ?_)) <;> (try simp only [decide_eq_true_eq, decide_eq_false_iff_not, Bool.not_eq_true', Bool.not_eq_false'] at hc) <;> simp only [seval, go_sem, hc])
   | ((with_reducible_and_instances first | refine go_use (iDigits_ret s hs) ?_ | refine go_use (iPrintable_ret s hs) ?_ | refine go_use (iwithin_ret _ _ _) ?_); simp only [seval, go_sem]))
  all_goals (try simp only [tf_iff, tf_not] at *)
  all_goals first | (refine oB_f ?_; grind) | (refine oB_tf ?_; grind) | (refine oB_d ?_; grind) | (refine oB_t ?_; grind) | trace_state
end Go.AW
namespace Go.AW
open IntWalk
theorem Ret.wkT {f : FuncId} {args : List A} {x : O} {b : Bool} {outs : List (List O)} (h : Ret PG f args (.tup [.o x, oB b]) outs) : Ret PG f args (.tup [.o x.wk, oB b]) outs := h.wk rfl
def lenD (no : Int) : Nat := if fieldKind no = 5 then 3 else 2
theorem ilenDigits_ret (no : Int) : Ret PG f_impl_lenDigits [aI no] (oI (lenD no)) [] := by
  refine exact_of (p_impl_lenDigits rfl rfl ?_)
  simp only [seval, go_sem, i_impl_lenDigits]
  repeat' (first
   | ((with_reducible_and_instances first | refine go_br (fun hc => ?_) (fun hc => ?_) | refine go_grd (fun hc => ?_) (fun hc => ?_) | refine go_dgrd (fun hc => ?_) (fun hc => ?_)) <;> (try simp only [decide_eq_true_eq, decide_eq_false_iff_not, Bool.not_eq_true', Bool.not_eq_false'] at hc) <;> simp only [seval, go_sem, hc])
   | ((with_reducible_and_instances first | refine go_use (iFieldKind_ret no) ?_); simp only [seval, go_sem]))
  · simp [lenD, hc]
  · simp [lenD, hc]
theorem repeat48 (k : Nat) : Lib.repeatL [48] k = List.replicate k 48 := by
  induction k with
  | zero => rfl
  | succ k ih => rw [Lib.repeatL, ih]; rfl
theorem repeat32 (k : Nat) : Lib.repeatL [32] k = List.replicate k 32 := by
  induction k with
  | zero => rfl
  | succ k ih => rw [Lib.repeatL, ih]; rfl
theorem digit_of (k : Nat) (h : k < 10) : digit (UInt8.ofNat (48 + k)) := by
  unfold digit
  have : (UInt8.ofNat (48 + k)).toNat = 48 + k := by rw [UInt8.toNat_ofNat']; omega
  omega
theorem dec2_digits (n : Nat) (h : n < 100) : ∀ b ∈ dec2 n, digit b := by
  unfold dec2
  split
  · intro b hb; rw [List.mem_singleton] at hb; subst hb; exact digit_of _ (by omega)
  · intro b hb
    simp only [List.mem_cons, List.not_mem_nil, or_false] at hb
    rcases hb with rfl | rfl <;> exact digit_of _ (by omega)
theorem wideN_ok (n w : Nat) (h : n < 100) (hw : 2 ≤ w) : digits (wideN n w) ∧ (wideN n w).length = w := by
  have h2 := dec2_len n
  unfold wideN
  rw [dec_small n h, repeat48]
  constructor
  · constructor
    · intro e
      have := congrArg List.length e
      simp only [List.length_append, List.length_replicate, List.length_nil] at this; omega
    · intro b hb
      rcases List.mem_append.1 hb with hb | hb
      · rw [(List.mem_replicate.1 hb).2]; decide
      · exact dec2_digits n h b hb
  · simp only [List.length_append, List.length_replicate]; omega
theorem iPutLen_ret (n d : Nat) (hn : n < 100) (hd : d = 2 ∨ d = 3) : Ret PG f_impl_PutLen [aI n, aI d] (.tup [.o (.own 1 ((bcd (wideN n d)).map eb)), oB true]) [] := by
  have h1 : tf (inr (d : Int) 2 3) = true := tf_true (by unfold inr; omega)
  have h2 := wideN_ok n d hn (by omega)
  have h3 := iPutBcd_ok (wideN n d) ⟨h2.1, by rw [h2.2]; omega⟩
  have h4 := iWide_small n d hn ⟨by omega, by omega⟩
  refine exact_of (p_impl_PutLen rfl rfl ?_)
  simp only [seval, go_sem, i_impl_PutLen]
  repeat' (first
   | ((with_reducible_and_instances first | refine go_br (fun hc => ?_) (fun hc => ?_) | refine go_grd (fun hc => ?_) (fun hc => ?_) | refine go_dgrd (fun hc => ?_) (fun hc => ?_)) <;> (try simp only [decide_eq_true_eq, decide_eq_false_iff_not, Bool.not_eq_true', Bool.not_eq_false'] at hc) <;> simp only [seval, go_sem, hc, h1])
   | ((with_reducible_and_instances first | refine go_use (iwithin_ret _ _ _) ?_ | refine go_use (h4) ?_ | refine go_use (h3) ?_); simp only [seval, go_sem, h1]))
theorem numSize (no : Int) (h : fieldKind no = 1 ∨ fieldKind no = 3) : fieldSize no ≤ 19 := by
  unfold fieldKind fieldSize at *
  rcases rowOf_mem no with h1 | h1
  · rw [h1]; decide
  · have : ∀ r ∈ rows, (r.2.1 = 1 ∨ r.2.1 = 3) → r.2.2 ≤ 19 := by decide
    exact this _ h1 h
theorem fieldOk_len {no : Int} {s : Str} (h : fieldOk no s) : (s.length : Int) ≤ 60 ∧ 1 ≤ (s.length : Int) := by
  have h2 := kindSize no
  have hz : fieldKind no = 1 ∨ fieldKind no = 2 → 1 ≤ fieldSize no := by
    unfold fieldKind fieldSize
    rcases rowOf_mem no with h1 | h1
    · rw [h1]; decide
    · have : ∀ r ∈ rows, (r.2.1 = 1 ∨ r.2.1 = 2) → 1 ≤ r.2.2 := by decide
      exact this _ h1
  unfold fieldOk inr at h
  omega
theorem fieldOk_bcd {no : Int} {s : Str} (h : fieldOk no s) (hk : fieldKind no = 1 ∨ fieldKind no = 3) : bcdOk s := by
  have h2 := numSize no hk
  unfold fieldOk inr at h
  refine ⟨by grind, by omega⟩
def putField (no : Int) (s : Str) : List UInt8 :=
  if fieldKind no = 1 then bcd s else if fieldKind no = 2 then s else if fieldKind no = 3 then bcd (wideN s.length (lenD no)) ++ bcd s else bcd (wideN s.length (lenD no)) ++ s
theorem strBytes_eb (s : Str) : (s.map fun b => P.int .u8 b.toNat) = s.map eb := rfl
theorem iPutField_ok (no : Int) (s : Str) (h : fieldOk no s) : Ret PG f_impl_PutField [aI no, aS s] (.tup [.o (.p (.sl 1 ((putField no s).map eb))), oB true]) [] := by
  have hl := fieldOk_len h
  have hf : tf (fieldOk no s) = true := tf_true h
  have hld : lenD no = 2 ∨ lenD no = 3 := by unfold lenD; split <;> simp
  have hpl := iPutLen_ret s.length (lenD no) (by omega) hld
  have hdl := ilenDigits_ret no
  have hks := kindSize no
  have hbl : (bcd (wideN s.length (lenD no))).length ≤ 3 := by
    unfold bcd
    rw [packs_len]
    have := pad2_len (wideN s.length (lenD no))
    rw [(wideN_ok s.length (lenD no) (by omega) (by omega)).2] at this
    omega
  by_cases h1 : fieldKind no = 1
  · have hb := iPutBcd_ok s (fieldOk_bcd h (.inl h1))
    have : Ret PG f_impl_PutField [aI no, aS s] (.tup [.o (.own 1 ((putField no s).map eb)), oB true]) [] := by
      rw [show putField no s = bcd s by simp [putField, h1]]
      refine exact_of (p_impl_PutField rfl rfl ?_)
      simp only [seval, go_sem, i_impl_PutField]
      repeat' (first
       | ((with_reducible_and_instances first | refine go_br (fun hc => ?_) (fun hc => ?_) | refine go_grd (fun hc => ?_) (fun hc => ?_) | refine go_dgrd (fun hc => ?_) (fun hc => ?_)) <;> (try simp only [decide_eq_true_eq, decide_eq_false_iff_not, Bool.not_eq_true', Bool.not_eq_false'] at hc) <;> simp only [seval, go_sem, hc, hf, h1])
       | ((with_reducible_and_instances first | refine go_use (iFieldOk_ret no s (by omega)) ?_ | refine go_use (iFieldKind_ret no) ?_ | refine go_use (hb) ?_); simp only [seval, go_sem, hf, h1]))
    exact this.wkT
  · by_cases h2 : fieldKind no = 2
    · have h3 : ¬ (2 : Int) = 3 := by omega
      rw [show putField no s = s by simp [putField, h2]]
      refine exact_of (p_impl_PutField rfl rfl ?_)
      simp only [seval, go_sem, i_impl_PutField, strBytes_eb]
      repeat' (first
       | ((with_reducible_and_instances first | refine go_br (fun hc => ?_) (fun hc => ?_) | refine go_grd (fun hc => ?_) (fun hc => ?_) | refine go_dgrd (fun hc => ?_) (fun hc => ?_)) <;> (try simp only [decide_eq_true_eq, decide_eq_false_iff_not, Bool.not_eq_true', Bool.not_eq_false'] at hc) <;> simp only [seval, go_sem, hc, hf, h1, h2, strBytes_eb])
       | ((with_reducible_and_instances first | refine go_use (iFieldOk_ret no s (by omega)) ?_ | refine go_use (iFieldKind_ret no) ?_); simp only [seval, go_sem, hf, h1, h2, strBytes_eb]))
    · by_cases h3 : fieldKind no = 3
      · have hb := iPutBcd_ok s (fieldOk_bcd h (.inr h3))
        have hb2 := (fieldOk_bcd h (.inr h3)).2
        have hb3 : (bcd s).length ≤ 20 := by unfold bcd; rw [packs_len]; have := pad2_len s; omega
        have : Ret PG f_impl_PutField [aI no, aS s] (.tup [.o (.own 1 ((putField no s).map eb)), oB true]) [] := by
          rw [show putField no s = bcd (wideN s.length (lenD no)) ++ bcd s by simp [putField, h3]]
          refine exact_of (p_impl_PutField rfl rfl ?_)
          simp only [seval, go_sem, i_impl_PutField, strBytes_eb]
          repeat' (first
           | ((with_reducible_and_instances first | refine go_br (fun hc => ?_) (fun hc => ?_) | refine go_grd (fun hc => ?_) (fun hc => ?_) | refine go_dgrd (fun hc => ?_) (fun hc => ?_)) <;> (try simp only [decide_eq_true_eq, decide_eq_false_iff_not, Bool.not_eq_true', Bool.not_eq_false'] at hc) <;> simp only [seval, go_sem, hc, hf, h1, h2, h3, strBytes_eb])
           | ((with_reducible_and_instances first | refine go_use (iFieldOk_ret no s (by omega)) ?_ | refine go_use (iFieldKind_ret no) ?_ | refine go_use (hb) ?_ | refine go_use (hdl) ?_ | refine go_use (hpl) ?_); simp only [seval, go_sem, hf, h1, h2, h3, strBytes_eb]))
          refine ⟨by omega, ?_⟩
          rw [List.map_append]
        exact this.wkT
      · have : Ret PG f_impl_PutField [aI no, aS s] (.tup [.o (.own 1 ((putField no s).map eb)), oB true]) [] := by
          rw [show putField no s = bcd (wideN s.length (lenD no)) ++ s by simp [putField, h1, h2, h3]]
          refine exact_of (p_impl_PutField rfl rfl ?_)
          simp only [seval, go_sem, i_impl_PutField, strBytes_eb]
          repeat' (first
           | ((with_reducible_and_instances first | refine go_br (fun hc => ?_) (fun hc => ?_) | refine go_grd (fun hc => ?_) (fun hc => ?_) | refine go_dgrd (fun hc => ?_) (fun hc => ?_)) <;> (try simp only [decide_eq_true_eq, decide_eq_false_iff_not, Bool.not_eq_true', Bool.not_eq_false'] at hc) <;> simp only [seval, go_sem, hc, hf, h1, h2, h3, strBytes_eb])
           | ((with_reducible_and_instances first | refine go_use (iFieldOk_ret no s (by omega)) ?_ | refine go_use (iFieldKind_ret no) ?_ | refine go_use (hdl) ?_ | refine go_use (hpl) ?_); simp only [seval, go_sem, hf, h1, h2, h3, strBytes_eb]))
          refine ⟨by omega, ?_⟩
          rw [List.map_append]
        exact this.wkT
end Go.AW
namespace Go.AW
open IntWalk
theorem getBcd_some {b : List UInt8} {at' n : Int} {s : Str} {e : Int} (h : getBcd b at' n = some (s, e)) : digits s ∧ (s.length : Int) = n ∧ 0 ≤ at' ∧ at' ≤ e ∧ e ≤ b.length ∧ e = at' + half n ∧ inr n 1 38 := by
  unfold getBcd at h
  split at h
  · rename_i hc
    obtain ⟨h1, h2, h3, h4⟩ := tf_iff.1 hc
    simp only [Option.some.injEq, Prod.mk.injEq] at h
    obtain ⟨rfl, rfl⟩ := h
    unfold inr at h1
    unfold pieceP at h2
    have hol : (ownOf b at' n).length = (half n).toNat := by unfold ownOf; simp; omega
    have hul := unpacks_len (ownOf b at' n)
    have hh : half n = (n + 1) / 2 := rfl
    refine ⟨⟨?_, fun x hx => h3.2 x (List.mem_of_mem_drop hx)⟩, ?_, by omega, by omega, by omega, rfl, h1⟩
    · intro e
      have := congrArg List.length e
      simp only [List.length_drop, List.length_nil] at this; omega
    · rw [List.length_drop]; omega
  · cases h
noncomputable def getLen (b : List UInt8) (at' d : Int) : Option (Nat × Int) := (getBcd b at' d).map fun x => (val x.1, x.2)
def lenR : Option (Nat × Int) → R
  | some (n, e) => .tup [oI n, oI e, oB true]
  | none => .tup [oI 0, oI 0, oB false]
theorem iGetLen_ret (b : List UInt8) (at' : Int) (d : Nat) (hb : b.length < 4294967296) (hd : d = 2 ∨ d = 3) : Ret PG f_impl_GetLen [aBs b, aI at', aI d] (lenR (getLen b at' d)) [] := by
  have h1 : tf (inr (d : Int) 2 3) = true := tf_true (by unfold inr; omega)
  have hg := iGetBcd_ret b at' d hb
  unfold getLen
  cases hx : getBcd b at' d with
  | none =>
    rw [hx, bcdR] at hg
    refine exact_of (p_impl_GetLen rfl rfl ?_)
    simp only [seval, go_sem, i_impl_GetLen]
    repeat' (first
     | ((with_reducible_and_instances first | refine go_br (fun hc => ?_) (fun hc => ?_) | refine go_grd (fun hc => ?_) (fun hc => ?_) | refine go_dgrd (fun hc => ?_) (fun hc => ?_)) <;> (try simp only [decide_eq_true_eq, decide_eq_false_iff_not, Bool.not_eq_true', Bool.not_eq_false'] at hc) <;> simp only [seval, go_sem, hc, h1])
     | ((with_reducible_and_instances first | refine go_use (iwithin_ret _ _ _) ?_ | refine go_use (hg) ?_); simp only [seval, go_sem, h1]))
    rfl
  | some x =>
    obtain ⟨s, e⟩ := x
    obtain ⟨k1, k2, _⟩ := getBcd_some hx
    have hn := iNarrow_ok s ⟨k1, by omega⟩
    rw [hx, bcdR] at hg
    refine exact_of (p_impl_GetLen rfl rfl ?_)
    simp only [seval, go_sem, i_impl_GetLen]
    repeat' (first
     | ((with_reducible_and_instances first | refine go_br (fun hc => ?_) (fun hc => ?_) | refine go_grd (fun hc => ?_) (fun hc => ?_) | refine go_dgrd (fun hc => ?_) (fun hc => ?_)) <;> (try simp only [decide_eq_true_eq, decide_eq_false_iff_not, Bool.not_eq_true', Bool.not_eq_false'] at hc) <;> simp only [seval, go_sem, hc, h1])
     | ((with_reducible_and_instances first | refine go_use (iwithin_ret _ _ _) ?_ | refine go_use (hg) ?_ | refine go_use (hn) ?_); simp only [seval, go_sem, h1]))
    rfl
noncomputable def getBody (b : List UInt8) (no n at' : Int) : Option (Str × Int) :=
  if fieldKind no = 1 ∨ fieldKind no = 3 then (match getBcd b at' n with
    | some (s, e) => if tf (fieldOk no s) = true then some (s, e) else none
    | none => none)
  else if tf (pieceP b.length at' n) = true then (if tf (fieldOk no ((b.drop at'.toNat).take n.toNat)) = true then some ((b.drop at'.toNat).take n.toNat, at' + n) else none) else none
noncomputable def getField (b : List UInt8) (at' no : Int) : Option (Str × Int) :=
  if fieldKind no = 3 ∨ fieldKind no = 4 ∨ fieldKind no = 5 then (match getLen b at' (lenD no) with
    | some (n, e) => getBody b no n e
    | none => none)
  else getBody b no (fieldSize no) at'
theorem iGetField_ret (b : List UInt8) (at' no : Int) (hb : b.length < 4294967296) : Ret PG f_impl_GetField [aBs b, aI at', aI no] (bcdR (getField b at' no)) [] := by
  have hld : lenD no = 2 ∨ lenD no = 3 := by unfold lenD; split <;> simp
  have hks := iFieldKind_ret no
  have hsz := iFieldSize_ret no
  have hdl := ilenDigits_ret no
  have hgl := iGetLen_ret b at' (lenD no) hb hld
  have hkr := kindSize no
  have n13 : ¬ (1 : Int) = 3 := by omega
  have n31 : ¬ (3 : Int) = 1 := by omega
  have n32 : ¬ (3 : Int) = 2 := by omega
  have n34 : ¬ (3 : Int) = 4 := by omega
  have n35 : ¬ (3 : Int) = 5 := by omega
  have n14 : ¬ (1 : Int) = 4 := by omega
  have n15 : ¬ (1 : Int) = 5 := by omega
  have n41 : ¬ (4 : Int) = 1 := by omega
  have n43 : ¬ (4 : Int) = 3 := by omega
  have n45 : ¬ (4 : Int) = 5 := by omega
  have n51 : ¬ (5 : Int) = 1 := by omega
  have n53 : ¬ (5 : Int) = 3 := by omega
  have n54 : ¬ (5 : Int) = 4 := by omega
  have n01 : ¬ (0 : Int) = 1 := by omega
  have n03 : ¬ (0 : Int) = 3 := by omega
  have n04 : ¬ (0 : Int) = 4 := by omega
  have n05 : ¬ (0 : Int) = 5 := by omega
  have n21 : ¬ (2 : Int) = 1 := by omega
  have n23 : ¬ (2 : Int) = 3 := by omega
  have n24 : ¬ (2 : Int) = 4 := by omega
  have n25 : ¬ (2 : Int) = 5 := by omega
  by_cases hvar : fieldKind no = 3 ∨ fieldKind no = 4 ∨ fieldKind no = 5
  · have hgf : getField b at' no = match getLen b at' (lenD no) with
      | some (n, e) => getBody b no n e
      | none => none := by unfold getField; rw [if_pos hvar]
    rw [hgf]
    cases hx : getLen b at' (lenD no) with
    | none =>
      rw [hx, lenR] at hgl
      rcases hvar with hv | hv | hv
      · refine exact_of (p_impl_GetField rfl rfl ?_)
        simp only [seval, go_sem, i_impl_GetField]
        repeat' (first
         | ((with_reducible_and_instances first | refine go_br (fun hc => ?_) (fun hc => ?_) | refine go_grd (fun hc => ?_) (fun hc => ?_) | refine go_dgrd (fun hc => ?_) (fun hc => ?_)) <;> (try simp only [decide_eq_true_eq, decide_eq_false_iff_not, Bool.not_eq_true', Bool.not_eq_false'] at hc) <;> simp only [seval, go_sem, hc, hv])
         | ((with_reducible_and_instances first | refine go_use (hks) ?_ | refine go_use (hsz) ?_ | refine go_use (hdl) ?_ | refine go_use (hgl) ?_); simp only [seval, go_sem, hv]))
        all_goals rfl
      · refine exact_of (p_impl_GetField rfl rfl ?_)
        simp only [seval, go_sem, i_impl_GetField]
        repeat' (first
         | ((with_reducible_and_instances first | refine go_br (fun hc => ?_) (fun hc => ?_) | refine go_grd (fun hc => ?_) (fun hc => ?_) | refine go_dgrd (fun hc => ?_) (fun hc => ?_)) <;> (try simp only [decide_eq_true_eq, decide_eq_false_iff_not, Bool.not_eq_true', Bool.not_eq_false'] at hc) <;> simp only [seval, go_sem, hc, hv])
         | ((with_reducible_and_instances first | refine go_use (hks) ?_ | refine go_use (hsz) ?_ | refine go_use (hdl) ?_ | refine go_use (hgl) ?_); simp only [seval, go_sem, hv]))
        all_goals rfl
      · refine exact_of (p_impl_GetField rfl rfl ?_)
        simp only [seval, go_sem, i_impl_GetField]
        repeat' (first
         | ((with_reducible_and_instances first | refine go_br (fun hc => ?_) (fun hc => ?_) | refine go_grd (fun hc => ?_) (fun hc => ?_) | refine go_dgrd (fun hc => ?_) (fun hc => ?_)) <;> (try simp only [decide_eq_true_eq, decide_eq_false_iff_not, Bool.not_eq_true', Bool.not_eq_false'] at hc) <;> simp only [seval, go_sem, hc, hv])
         | ((with_reducible_and_instances first | refine go_use (hks) ?_ | refine go_use (hsz) ?_ | refine go_use (hdl) ?_ | refine go_use (hgl) ?_); simp only [seval, go_sem, hv]))
        all_goals rfl
    | some x =>
      obtain ⟨n, e⟩ := x
      rw [hx, lenR] at hgl
      simp only
      by_cases hnum : fieldKind no = 1 ∨ fieldKind no = 3
      · have hkn : fieldKind no = 3 := by omega
        have hbcd := iGetBcd_ret b e (n : Int) hb
        have hgb : getBody b no (n : Int) e = match getBcd b e (n : Int) with
          | some (s, e) => if tf (fieldOk no s) = true then some (s, e) else none
          | none => none := by unfold getBody; rw [if_pos hnum]
        rw [hgb]
        cases hy : getBcd b e (n : Int) with
        | none =>
          rw [hy, bcdR] at hbcd
          have hv := hkn
          refine exact_of (p_impl_GetField rfl rfl ?_)
          simp only [seval, go_sem, i_impl_GetField]
          repeat' (first
           | ((with_reducible_and_instances first | refine go_br (fun hc => ?_) (fun hc => ?_) | refine go_grd (fun hc => ?_) (fun hc => ?_) | refine go_dgrd (fun hc => ?_) (fun hc => ?_)) <;> (try simp only [decide_eq_true_eq, decide_eq_false_iff_not, Bool.not_eq_true', Bool.not_eq_false'] at hc) <;> simp only [seval, go_sem, hc, hv, n13, n31, n32, n34, n35, n14, n15])
           | ((with_reducible_and_instances first | refine go_use (hks) ?_ | refine go_use (hsz) ?_ | refine go_use (hdl) ?_ | refine go_use (hgl) ?_ | refine go_use (hbcd) ?_); simp only [seval, go_sem, hv, n13, n31, n32, n34, n35, n14, n15]))
          all_goals rfl
        | some y =>
          obtain ⟨s, e2⟩ := y
          obtain ⟨k1, k2, _, _, _, _, k3⟩ := getBcd_some hy
          have k4 : s.length < 4294967296 := by unfold inr at k3; omega
          have hfo := iFieldOk_ret no s k4
          rw [hy, bcdR] at hbcd
          simp only
          by_cases hok : fieldOk no s
          · rw [tf_true hok] at hfo ⊢
            have hv := hkn
            refine exact_of (p_impl_GetField rfl rfl ?_)
            simp only [seval, go_sem, i_impl_GetField]
            repeat' (first
             | ((with_reducible_and_instances first | refine go_br (fun hc => ?_) (fun hc => ?_) | refine go_grd (fun hc => ?_) (fun hc => ?_) | refine go_dgrd (fun hc => ?_) (fun hc => ?_)) <;> (try simp only [decide_eq_true_eq, decide_eq_false_iff_not, Bool.not_eq_true', Bool.not_eq_false'] at hc) <;> simp only [seval, go_sem, hc, hv, n13, n31, n32, n34, n35, n14, n15])
             | ((with_reducible_and_instances first | refine go_use (hks) ?_ | refine go_use (hsz) ?_ | refine go_use (hdl) ?_ | refine go_use (hgl) ?_ | refine go_use (hbcd) ?_ | refine go_use (hfo) ?_); simp only [seval, go_sem, hv, n13, n31, n32, n34, n35, n14, n15]))
            all_goals rfl
          · rw [tf_false hok] at hfo ⊢
            have hv := hkn
            refine exact_of (p_impl_GetField rfl rfl ?_)
            simp only [seval, go_sem, i_impl_GetField]
            repeat' (first
             | ((with_reducible_and_instances first | refine go_br (fun hc => ?_) (fun hc => ?_) | refine go_grd (fun hc => ?_) (fun hc => ?_) | refine go_dgrd (fun hc => ?_) (fun hc => ?_)) <;> (try simp only [decide_eq_true_eq, decide_eq_false_iff_not, Bool.not_eq_true', Bool.not_eq_false'] at hc) <;> simp only [seval, go_sem, hc, hv, n13, n31, n32, n34, n35, n14, n15])
             | ((with_reducible_and_instances first | refine go_use (hks) ?_ | refine go_use (hsz) ?_ | refine go_use (hdl) ?_ | refine go_use (hgl) ?_ | refine go_use (hbcd) ?_ | refine go_use (hfo) ?_); simp only [seval, go_sem, hv, n13, n31, n32, n34, n35, n14, n15]))
            all_goals rfl
      · have hkt : fieldKind no = 4 ∨ fieldKind no = 5 := by omega
        have hgb : getBody b no (n : Int) e = if tf (pieceP b.length e (n : Int)) = true then (if tf (fieldOk no ((b.drop (e).toNat).take ((n : Int)).toNat)) = true then some ((b.drop (e).toNat).take ((n : Int)).toNat, e + (n : Int)) else none) else none := by unfold getBody; rw [if_neg hnum]
        rw [hgb]
        by_cases hp : pieceP b.length e (n : Int)
        · have hpc := ipiece_ok b e (n : Int) hb hp
          have hp4 := hp.2.2.2
          have hp1 := hp.1
          have hw : IntKind.i64.wrap (e + (n : Int)) = e + n := by rw [i64_in _ (by omega)]
          rw [tf_true hp]
          have k4 : ((b.drop (e).toNat).take ((n : Int)).toNat).length < 4294967296 := by rw [List.length_take, List.length_drop]; omega
          generalize (b.drop (e).toNat).take ((n : Int)).toNat = s at *
          have hfo := iFieldOk_ret no s k4
          simp only [if_true]
          by_cases hok : fieldOk no s
          · rw [tf_true hok] at hfo ⊢
            rcases hkt with hv | hv
            · refine exact_of (p_impl_GetField rfl rfl ?_)
              simp only [seval, go_sem, i_impl_GetField]
              repeat' (first
               | ((with_reducible_and_instances first | refine go_br (fun hc => ?_) (fun hc => ?_) | refine go_grd (fun hc => ?_) (fun hc => ?_) | refine go_dgrd (fun hc => ?_) (fun hc => ?_)) <;> (try simp only [decide_eq_true_eq, decide_eq_false_iff_not, Bool.not_eq_true', Bool.not_eq_false'] at hc) <;> simp only [seval, go_sem, hc, hv, u8s_map, hw, n41, n43, n45, n51, n53, n54, n01, n03, n04, n05, n21, n23, n24, n25])
               | ((with_reducible_and_instances first | refine go_use (hks) ?_ | refine go_use (hsz) ?_ | refine go_use (hdl) ?_ | refine go_use (hgl) ?_ | refine go_use (hpc) ?_ | refine go_use (hfo) ?_); simp only [seval, go_sem, hv, u8s_map, hw, n41, n43, n45, n51, n53, n54, n01, n03, n04, n05, n21, n23, n24, n25]))
              all_goals rfl
            · refine exact_of (p_impl_GetField rfl rfl ?_)
              simp only [seval, go_sem, i_impl_GetField]
              repeat' (first
               | ((with_reducible_and_instances first | refine go_br (fun hc => ?_) (fun hc => ?_) | refine go_grd (fun hc => ?_) (fun hc => ?_) | refine go_dgrd (fun hc => ?_) (fun hc => ?_)) <;> (try simp only [decide_eq_true_eq, decide_eq_false_iff_not, Bool.not_eq_true', Bool.not_eq_false'] at hc) <;> simp only [seval, go_sem, hc, hv, u8s_map, hw, n41, n43, n45, n51, n53, n54, n01, n03, n04, n05, n21, n23, n24, n25])
               | ((with_reducible_and_instances first | refine go_use (hks) ?_ | refine go_use (hsz) ?_ | refine go_use (hdl) ?_ | refine go_use (hgl) ?_ | refine go_use (hpc) ?_ | refine go_use (hfo) ?_); simp only [seval, go_sem, hv, u8s_map, hw, n41, n43, n45, n51, n53, n54, n01, n03, n04, n05, n21, n23, n24, n25]))
              all_goals rfl
          · rw [tf_false hok] at hfo ⊢
            rcases hkt with hv | hv
            · refine exact_of (p_impl_GetField rfl rfl ?_)
              simp only [seval, go_sem, i_impl_GetField]
              repeat' (first
               | ((with_reducible_and_instances first | refine go_br (fun hc => ?_) (fun hc => ?_) | refine go_grd (fun hc => ?_) (fun hc => ?_) | refine go_dgrd (fun hc => ?_) (fun hc => ?_)) <;> (try simp only [decide_eq_true_eq, decide_eq_false_iff_not, Bool.not_eq_true', Bool.not_eq_false'] at hc) <;> simp only [seval, go_sem, hc, hv, u8s_map, hw, n41, n43, n45, n51, n53, n54, n01, n03, n04, n05, n21, n23, n24, n25])
               | ((with_reducible_and_instances first | refine go_use (hks) ?_ | refine go_use (hsz) ?_ | refine go_use (hdl) ?_ | refine go_use (hgl) ?_ | refine go_use (hpc) ?_ | refine go_use (hfo) ?_); simp only [seval, go_sem, hv, u8s_map, hw, n41, n43, n45, n51, n53, n54, n01, n03, n04, n05, n21, n23, n24, n25]))
              all_goals rfl
            · refine exact_of (p_impl_GetField rfl rfl ?_)
              simp only [seval, go_sem, i_impl_GetField]
              repeat' (first
               | ((with_reducible_and_instances first | refine go_br (fun hc => ?_) (fun hc => ?_) | refine go_grd (fun hc => ?_) (fun hc => ?_) | refine go_dgrd (fun hc => ?_) (fun hc => ?_)) <;> (try simp only [decide_eq_true_eq, decide_eq_false_iff_not, Bool.not_eq_true', Bool.not_eq_false'] at hc) <;> simp only [seval, go_sem, hc, hv, u8s_map, hw, n41, n43, n45, n51, n53, n54, n01, n03, n04, n05, n21, n23, n24, n25])
               | ((with_reducible_and_instances first | refine go_use (hks) ?_ | refine go_use (hsz) ?_ | refine go_use (hdl) ?_ | refine go_use (hgl) ?_ | refine go_use (hpc) ?_ | refine go_use (hfo) ?_); simp only [seval, go_sem, hv, u8s_map, hw, n41, n43, n45, n51, n53, n54, n01, n03, n04, n05, n21, n23, n24, n25]))
              all_goals rfl
        · have hpc := ipiece_no b e (n : Int) hb hp
          have hu : u8s [] = some [] := rfl
          rw [tf_false hp]
          rcases hkt with hv | hv
          · refine exact_of (p_impl_GetField rfl rfl ?_)
            simp only [seval, go_sem, i_impl_GetField]
            repeat' (first
             | ((with_reducible_and_instances first | refine go_br (fun hc => ?_) (fun hc => ?_) | refine go_grd (fun hc => ?_) (fun hc => ?_) | refine go_dgrd (fun hc => ?_) (fun hc => ?_)) <;> (try simp only [decide_eq_true_eq, decide_eq_false_iff_not, Bool.not_eq_true', Bool.not_eq_false'] at hc) <;> simp only [seval, go_sem, hc, hv, hu, n41, n43, n45, n51, n53, n54, n01, n03, n04, n05, n21, n23, n24, n25])
             | ((with_reducible_and_instances first | refine go_use (hks) ?_ | refine go_use (hsz) ?_ | refine go_use (hdl) ?_ | refine go_use (hgl) ?_ | refine go_use (hpc) ?_); simp only [seval, go_sem, hv, hu, n41, n43, n45, n51, n53, n54, n01, n03, n04, n05, n21, n23, n24, n25]))
            all_goals rfl
          · refine exact_of (p_impl_GetField rfl rfl ?_)
            simp only [seval, go_sem, i_impl_GetField]
            repeat' (first
             | ((with_reducible_and_instances first | refine go_br (fun hc => ?_) (fun hc => ?_) | refine go_grd (fun hc => ?_) (fun hc => ?_) | refine go_dgrd (fun hc => ?_) (fun hc => ?_)) <;> (try simp only [decide_eq_true_eq, decide_eq_false_iff_not, Bool.not_eq_true', Bool.not_eq_false'] at hc) <;> simp only [seval, go_sem, hc, hv, hu, n41, n43, n45, n51, n53, n54, n01, n03, n04, n05, n21, n23, n24, n25])
             | ((with_reducible_and_instances first | refine go_use (hks) ?_ | refine go_use (hsz) ?_ | refine go_use (hdl) ?_ | refine go_use (hgl) ?_ | refine go_use (hpc) ?_); simp only [seval, go_sem, hv, hu, n41, n43, n45, n51, n53, n54, n01, n03, n04, n05, n21, n23, n24, n25]))
            all_goals rfl
  · have hgf : getField b at' no = getBody b no (fieldSize no) at' := by unfold getField; rw [if_neg hvar]
    rw [hgf]
    by_cases hnum : fieldKind no = 1 ∨ fieldKind no = 3
    · have hkn : fieldKind no = 1 := by omega
      have hbcd := iGetBcd_ret b at' (fieldSize no) hb
      have hgb : getBody b no (fieldSize no) at' = match getBcd b at' (fieldSize no) with
        | some (s, e) => if tf (fieldOk no s) = true then some (s, e) else none
        | none => none := by unfold getBody; rw [if_pos hnum]
      rw [hgb]
      cases hy : getBcd b at' (fieldSize no) with
      | none =>
        rw [hy, bcdR] at hbcd
        have hv := hkn
        refine exact_of (p_impl_GetField rfl rfl ?_)
        simp only [seval, go_sem, i_impl_GetField]
        repeat' (first
         | ((with_reducible_and_instances first | refine go_br (fun hc => ?_) (fun hc => ?_) | refine go_grd (fun hc => ?_) (fun hc => ?_) | refine go_dgrd (fun hc => ?_) (fun hc => ?_)) <;> (try simp only [decide_eq_true_eq, decide_eq_false_iff_not, Bool.not_eq_true', Bool.not_eq_false'] at hc) <;> simp only [seval, go_sem, hc, hv, n13, n31, n32, n34, n35, n14, n15])
         | ((with_reducible_and_instances first | refine go_use (hks) ?_ | refine go_use (hsz) ?_ | refine go_use (hdl) ?_ | refine go_use (hgl) ?_ | refine go_use (hbcd) ?_); simp only [seval, go_sem, hv, n13, n31, n32, n34, n35, n14, n15]))
        all_goals rfl
      | some y =>
        obtain ⟨s, e2⟩ := y
        obtain ⟨k1, k2, _, _, _, _, k3⟩ := getBcd_some hy
        have k4 : s.length < 4294967296 := by unfold inr at k3; omega
        have hfo := iFieldOk_ret no s k4
        rw [hy, bcdR] at hbcd
        simp only
        by_cases hok : fieldOk no s
        · rw [tf_true hok] at hfo ⊢
          have hv := hkn
          refine exact_of (p_impl_GetField rfl rfl ?_)
          simp only [seval, go_sem, i_impl_GetField]
          repeat' (first
           | ((with_reducible_and_instances first | refine go_br (fun hc => ?_) (fun hc => ?_) | refine go_grd (fun hc => ?_) (fun hc => ?_) | refine go_dgrd (fun hc => ?_) (fun hc => ?_)) <;> (try simp only [decide_eq_true_eq, decide_eq_false_iff_not, Bool.not_eq_true', Bool.not_eq_false'] at hc) <;> simp only [seval, go_sem, hc, hv, n13, n31, n32, n34, n35, n14, n15])
           | ((with_reducible_and_instances first | refine go_use (hks) ?_ | refine go_use (hsz) ?_ | refine go_use (hdl) ?_ | refine go_use (hgl) ?_ | refine go_use (hbcd) ?_ | refine go_use (hfo) ?_); simp only [seval, go_sem, hv, n13, n31, n32, n34, n35, n14, n15]))
          all_goals rfl
        · rw [tf_false hok] at hfo ⊢
          have hv := hkn
          refine exact_of (p_impl_GetField rfl rfl ?_)
          simp only [seval, go_sem, i_impl_GetField]
          repeat' (first
           | ((with_reducible_and_instances first | refine go_br (fun hc => ?_) (fun hc => ?_) | refine go_grd (fun hc => ?_) (fun hc => ?_) | refine go_dgrd (fun hc => ?_) (fun hc => ?_)) <;> (try simp only [decide_eq_true_eq, decide_eq_false_iff_not, Bool.not_eq_true', Bool.not_eq_false'] at hc) <;> simp only [seval, go_sem, hc, hv, n13, n31, n32, n34, n35, n14, n15])
           | ((with_reducible_and_instances first | refine go_use (hks) ?_ | refine go_use (hsz) ?_ | refine go_use (hdl) ?_ | refine go_use (hgl) ?_ | refine go_use (hbcd) ?_ | refine go_use (hfo) ?_); simp only [seval, go_sem, hv, n13, n31, n32, n34, n35, n14, n15]))
          all_goals rfl
    · have hkt : fieldKind no = 0 ∨ fieldKind no = 2 := by omega
      have hgb : getBody b no (fieldSize no) at' = if tf (pieceP b.length at' (fieldSize no)) = true then (if tf (fieldOk no ((b.drop (at').toNat).take ((fieldSize no)).toNat)) = true then some ((b.drop (at').toNat).take ((fieldSize no)).toNat, at' + (fieldSize no)) else none) else none := by unfold getBody; rw [if_neg hnum]
      rw [hgb]
      by_cases hp : pieceP b.length at' (fieldSize no)
      · have hpc := ipiece_ok b at' (fieldSize no) hb hp
        have hp4 := hp.2.2.2
        have hp1 := hp.1
        have hw : IntKind.i64.wrap (at' + (fieldSize no)) = at' + (fieldSize no) := by rw [i64_in _ (by omega)]
        rw [tf_true hp]
        have k4 : ((b.drop (at').toNat).take ((fieldSize no)).toNat).length < 4294967296 := by rw [List.length_take, List.length_drop]; omega
        generalize (b.drop (at').toNat).take ((fieldSize no)).toNat = s at *
        have hfo := iFieldOk_ret no s k4
        simp only [if_true]
        by_cases hok : fieldOk no s
        · rw [tf_true hok] at hfo ⊢
          rcases hkt with hv | hv
          · refine exact_of (p_impl_GetField rfl rfl ?_)
            simp only [seval, go_sem, i_impl_GetField]
            repeat' (first
             | ((with_reducible_and_instances first | refine go_br (fun hc => ?_) (fun hc => ?_) | refine go_grd (fun hc => ?_) (fun hc => ?_) | refine go_dgrd (fun hc => ?_) (fun hc => ?_)) <;> (try simp only [decide_eq_true_eq, decide_eq_false_iff_not, Bool.not_eq_true', Bool.not_eq_false'] at hc) <;> simp only [seval, go_sem, hc, hv, u8s_map, hw, n41, n43, n45, n51, n53, n54, n01, n03, n04, n05, n21, n23, n24, n25])
             | ((with_reducible_and_instances first | refine go_use (hks) ?_ | refine go_use (hsz) ?_ | refine go_use (hdl) ?_ | refine go_use (hgl) ?_ | refine go_use (hpc) ?_ | refine go_use (hfo) ?_); simp only [seval, go_sem, hv, u8s_map, hw, n41, n43, n45, n51, n53, n54, n01, n03, n04, n05, n21, n23, n24, n25]))
            all_goals rfl
          · refine exact_of (p_impl_GetField rfl rfl ?_)
            simp only [seval, go_sem, i_impl_GetField]
            repeat' (first
             | ((with_reducible_and_instances first | refine go_br (fun hc => ?_) (fun hc => ?_) | refine go_grd (fun hc => ?_) (fun hc => ?_) | refine go_dgrd (fun hc => ?_) (fun hc => ?_)) <;> (try simp only [decide_eq_true_eq, decide_eq_false_iff_not, Bool.not_eq_true', Bool.not_eq_false'] at hc) <;> simp only [seval, go_sem, hc, hv, u8s_map, hw, n41, n43, n45, n51, n53, n54, n01, n03, n04, n05, n21, n23, n24, n25])
             | ((with_reducible_and_instances first | refine go_use (hks) ?_ | refine go_use (hsz) ?_ | refine go_use (hdl) ?_ | refine go_use (hgl) ?_ | refine go_use (hpc) ?_ | refine go_use (hfo) ?_); simp only [seval, go_sem, hv, u8s_map, hw, n41, n43, n45, n51, n53, n54, n01, n03, n04, n05, n21, n23, n24, n25]))
            all_goals rfl
        · rw [tf_false hok] at hfo ⊢
          rcases hkt with hv | hv
          · refine exact_of (p_impl_GetField rfl rfl ?_)
            simp only [seval, go_sem, i_impl_GetField]
            repeat' (first
             | ((with_reducible_and_instances first | refine go_br (fun hc => ?_) (fun hc => ?_) | refine go_grd (fun hc => ?_) (fun hc => ?_) | refine go_dgrd (fun hc => ?_) (fun hc => ?_)) <;> (try simp only [decide_eq_true_eq, decide_eq_false_iff_not, Bool.not_eq_true', Bool.not_eq_false'] at hc) <;> simp only [seval, go_sem, hc, hv, u8s_map, hw, n41, n43, n45, n51, n53, n54, n01, n03, n04, n05, n21, n23, n24, n25])
             | ((with_reducible_and_instances first | refine go_use (hks) ?_ | refine go_use (hsz) ?_ | refine go_use (hdl) ?_ | refine go_use (hgl) ?_ | refine go_use (hpc) ?_ | refine go_use (hfo) ?_); simp only [seval, go_sem, hv, u8s_map, hw, n41, n43, n45, n51, n53, n54, n01, n03, n04, n05, n21, n23, n24, n25]))
            all_goals rfl
          · refine exact_of (p_impl_GetField rfl rfl ?_)
            simp only [seval, go_sem, i_impl_GetField]
            repeat' (first
             | ((with_reducible_and_instances first | refine go_br (fun hc => ?_) (fun hc => ?_) | refine go_grd (fun hc => ?_) (fun hc => ?_) | refine go_dgrd (fun hc => ?_) (fun hc => ?_)) <;> (try simp only [decide_eq_true_eq, decide_eq_false_iff_not, Bool.not_eq_true', Bool.not_eq_false'] at hc) <;> simp only [seval, go_sem, hc, hv, u8s_map, hw, n41, n43, n45, n51, n53, n54, n01, n03, n04, n05, n21, n23, n24, n25])
             | ((with_reducible_and_instances first | refine go_use (hks) ?_ | refine go_use (hsz) ?_ | refine go_use (hdl) ?_ | refine go_use (hgl) ?_ | refine go_use (hpc) ?_ | refine go_use (hfo) ?_); simp only [seval, go_sem, hv, u8s_map, hw, n41, n43, n45, n51, n53, n54, n01, n03, n04, n05, n21, n23, n24, n25]))
            all_goals rfl
      · have hpc := ipiece_no b at' (fieldSize no) hb hp
        have hu : u8s [] = some [] := rfl
        rw [tf_false hp]
        rcases hkt with hv | hv
        · refine exact_of (p_impl_GetField rfl rfl ?_)
          simp only [seval, go_sem, i_impl_GetField]
          repeat' (first
           | ((with_reducible_and_instances first | refine go_br (fun hc => ?_) (fun hc => ?_) | refine go_grd (fun hc => ?_) (fun hc => ?_) | refine go_dgrd (fun hc => ?_) (fun hc => ?_)) <;> (try simp only [decide_eq_true_eq, decide_eq_false_iff_not, Bool.not_eq_true', Bool.not_eq_false'] at hc) <;> simp only [seval, go_sem, hc, hv, hu, n41, n43, n45, n51, n53, n54, n01, n03, n04, n05, n21, n23, n24, n25])
           | ((with_reducible_and_instances first | refine go_use (hks) ?_ | refine go_use (hsz) ?_ | refine go_use (hdl) ?_ | refine go_use (hgl) ?_ | refine go_use (hpc) ?_); simp only [seval, go_sem, hv, hu, n41, n43, n45, n51, n53, n54, n01, n03, n04, n05, n21, n23, n24, n25]))
          all_goals rfl
        · refine exact_of (p_impl_GetField rfl rfl ?_)
          simp only [seval, go_sem, i_impl_GetField]
          repeat' (first
           | ((with_reducible_and_instances first | refine go_br (fun hc => ?_) (fun hc => ?_) | refine go_grd (fun hc => ?_) (fun hc => ?_) | refine go_dgrd (fun hc => ?_) (fun hc => ?_)) <;> (try simp only [decide_eq_true_eq, decide_eq_false_iff_not, Bool.not_eq_true', Bool.not_eq_false'] at hc) <;> simp only [seval, go_sem, hc, hv, hu, n41, n43, n45, n51, n53, n54, n01, n03, n04, n05, n21, n23, n24, n25])
           | ((with_reducible_and_instances first | refine go_use (hks) ?_ | refine go_use (hsz) ?_ | refine go_use (hdl) ?_ | refine go_use (hgl) ?_ | refine go_use (hpc) ?_); simp only [seval, go_sem, hv, hu, n41, n43, n45, n51, n53, n54, n01, n03, n04, n05, n21, n23, n24, n25]))
          all_goals rfl
end Go.AW
namespace Go.AW
open IntWalk
def pad48 (no : Int) (s : Str) : Nat := (fieldSize no - s.length).toNat
def fit0 (no : Int) (s : Str) : Str := if fieldKind no = 1 then List.replicate (pad48 no s) 48 ++ s else if fieldKind no = 2 then s ++ List.replicate (pad48 no s) 32 else s
noncomputable def fieldFit (no : Int) (s : Str) : Str := if tf (fieldOk no (fit0 no s)) = true then fit0 no s else []
theorem iFieldFit_ret (no : Int) (s : Str) (hs : s.length < 1000000) : Ret PG f_impl_FieldFit [aI no, aS s] (oS (fieldFit no s)) [] := by
  have hkr := kindSize no
  have hks := iFieldKind_ret no
  have hsz := iFieldSize_ret no
  have e1 : IntKind.i64.wrap (fieldSize no - s.length) = fieldSize no - s.length := by rw [i64_in _ (by omega)]
  have e2 : (if (0 : Int) > fieldSize no - s.length then 0 else fieldSize no - s.length) = (pad48 no s : Int) := by unfold pad48; split <;> omega
  have hpl : pad48 no s ≤ 60 := by unfold pad48; omega
  have r1 := Repeat_ret [48] (pad48 no s) (by simp only [List.length_cons, List.length_nil]; omega) (by omega)
  have r2 := Repeat_ret [32] (pad48 no s) (by simp only [List.length_cons, List.length_nil]; omega) (by omega)
  rw [repeat48] at r1
  rw [repeat32] at r2
  have hfl : (fit0 no s).length < 4294967296 := by
    unfold fit0
    split
    · rw [List.length_append, List.length_replicate]; omega
    · split
      · rw [List.length_append, List.length_replicate]; omega
      · omega
  have hfo := iFieldOk_ret no (fit0 no s) hfl
  have c1 : pad48 no s + s.length ≤ 4611686018427387904 := by omega
  have c2 : s.length + pad48 no s ≤ 4611686018427387904 := by omega
  unfold fieldFit
  by_cases hok : fieldOk no (fit0 no s)
  · rw [tf_true hok] at hfo ⊢
    rw [if_pos rfl]
    unfold fit0 at hfo ⊢
    by_cases k1 : fieldKind no = 1
    · simp only [k1, if_true] at hfo ⊢
      refine exact_of (p_impl_FieldFit rfl rfl ?_)
      simp only [seval, go_sem, i_impl_FieldFit]
      repeat' (first
       | ((with_reducible_and_instances first | refine go_br (fun hc => ?_) (fun hc => ?_) | refine go_grd (fun hc => ?_) (fun hc => ?_) | refine go_dgrd (fun hc => ?_) (fun hc => ?_)) <;> (try simp only [decide_eq_true_eq, decide_eq_false_iff_not, Bool.not_eq_true', Bool.not_eq_false'] at hc) <;> simp only [seval, go_sem, hc, e1, e2, k1, c1, List.length_replicate])
       | ((with_reducible_and_instances first | refine go_use (hks) ?_ | refine go_use (hsz) ?_ | refine go_use (r1) ?_ | refine go_use (hfo) ?_); simp only [seval, go_sem, e1, e2, k1, c1, List.length_replicate]))
    · by_cases k2 : fieldKind no = 2
      · have n21 : ¬ (2 : Int) = 1 := by omega
        simp only [k1, k2, n21, if_true, if_false] at hfo ⊢
        refine exact_of (p_impl_FieldFit rfl rfl ?_)
        simp only [seval, go_sem, i_impl_FieldFit]
        repeat' (first
         | ((with_reducible_and_instances first | refine go_br (fun hc => ?_) (fun hc => ?_) | refine go_grd (fun hc => ?_) (fun hc => ?_) | refine go_dgrd (fun hc => ?_) (fun hc => ?_)) <;> (try simp only [decide_eq_true_eq, decide_eq_false_iff_not, Bool.not_eq_true', Bool.not_eq_false'] at hc) <;> simp only [seval, go_sem, hc, e1, e2, k1, k2, n21, c2, List.length_replicate])
         | ((with_reducible_and_instances first | refine go_use (hks) ?_ | refine go_use (hsz) ?_ | refine go_use (r2) ?_ | refine go_use (hfo) ?_); simp only [seval, go_sem, e1, e2, k1, k2, n21, c2, List.length_replicate]))
      · simp only [k1, k2, if_false] at hfo ⊢
        refine exact_of (p_impl_FieldFit rfl rfl ?_)
        simp only [seval, go_sem, i_impl_FieldFit]
        repeat' (first
         | ((with_reducible_and_instances first | refine go_br (fun hc => ?_) (fun hc => ?_) | refine go_grd (fun hc => ?_) (fun hc => ?_) | refine go_dgrd (fun hc => ?_) (fun hc => ?_)) <;> (try simp only [decide_eq_true_eq, decide_eq_false_iff_not, Bool.not_eq_true', Bool.not_eq_false'] at hc) <;> simp only [seval, go_sem, hc, e1, e2, k1, k2])
         | ((with_reducible_and_instances first | refine go_use (hks) ?_ | refine go_use (hsz) ?_ | refine go_use (hfo) ?_); simp only [seval, go_sem, e1, e2, k1, k2]))
  · rw [tf_false hok] at hfo ⊢
    rw [if_neg (by simp)]
    unfold fit0 at hfo
    by_cases k1 : fieldKind no = 1
    · simp only [k1, if_true] at hfo ⊢
      refine exact_of (p_impl_FieldFit rfl rfl ?_)
      simp only [seval, go_sem, i_impl_FieldFit]
      repeat' (first
       | ((with_reducible_and_instances first | refine go_br (fun hc => ?_) (fun hc => ?_) | refine go_grd (fun hc => ?_) (fun hc => ?_) | refine go_dgrd (fun hc => ?_) (fun hc => ?_)) <;> (try simp only [decide_eq_true_eq, decide_eq_false_iff_not, Bool.not_eq_true', Bool.not_eq_false'] at hc) <;> simp only [seval, go_sem, hc, e1, e2, k1, c1, List.length_replicate])
       | ((with_reducible_and_instances first | refine go_use (hks) ?_ | refine go_use (hsz) ?_ | refine go_use (r1) ?_ | refine go_use (hfo) ?_); simp only [seval, go_sem, e1, e2, k1, c1, List.length_replicate]))
    · by_cases k2 : fieldKind no = 2
      · have n21 : ¬ (2 : Int) = 1 := by omega
        simp only [k1, k2, n21, if_true, if_false] at hfo ⊢
        refine exact_of (p_impl_FieldFit rfl rfl ?_)
        simp only [seval, go_sem, i_impl_FieldFit]
        repeat' (first
         | ((with_reducible_and_instances first | refine go_br (fun hc => ?_) (fun hc => ?_) | refine go_grd (fun hc => ?_) (fun hc => ?_) | refine go_dgrd (fun hc => ?_) (fun hc => ?_)) <;> (try simp only [decide_eq_true_eq, decide_eq_false_iff_not, Bool.not_eq_true', Bool.not_eq_false'] at hc) <;> simp only [seval, go_sem, hc, e1, e2, k1, k2, n21, c2, List.length_replicate])
         | ((with_reducible_and_instances first | refine go_use (hks) ?_ | refine go_use (hsz) ?_ | refine go_use (r2) ?_ | refine go_use (hfo) ?_); simp only [seval, go_sem, e1, e2, k1, k2, n21, c2, List.length_replicate]))
      · simp only [k1, k2, if_false] at hfo ⊢
        refine exact_of (p_impl_FieldFit rfl rfl ?_)
        simp only [seval, go_sem, i_impl_FieldFit]
        repeat' (first
         | ((with_reducible_and_instances first | refine go_br (fun hc => ?_) (fun hc => ?_) | refine go_grd (fun hc => ?_) (fun hc => ?_) | refine go_dgrd (fun hc => ?_) (fun hc => ?_)) <;> (try simp only [decide_eq_true_eq, decide_eq_false_iff_not, Bool.not_eq_true', Bool.not_eq_false'] at hc) <;> simp only [seval, go_sem, hc, e1, e2, k1, k2])
         | ((with_reducible_and_instances first | refine go_use (hks) ?_ | refine go_use (hsz) ?_ | refine go_use (hfo) ?_); simp only [seval, go_sem, e1, e2, k1, k2]))
def bare (s : Str) : Str := Lib.trimRightB s 32
theorem iFieldBare_ret (s : Str) (hs : s.length < 4294967296) : Ret PG f_impl_FieldBare [aS s] (oS (bare s)) [] := by
  refine exact_of (p_impl_FieldBare rfl rfl ?_)
  simp only [seval, go_sem, i_impl_FieldBare]
  with_reducible_and_instances refine go_use (TrimRight_ret s 32 (by decide) (by omega)) ?_
  simp only [seval, go_sem]
  rfl
structure Field where
  no : Int
  text : Str
structure Msg where
  mti : Str
  list : List Field
def Field.p (f : Field) : P := .agg [.int .i64 f.no, .str f.text]
def Msg.c (m : Msg) : List P := [.str m.mti, .sl 2 (m.list.map Field.p)]
def Msg.p (m : Msg) : P := .agg m.c
structure MFit (m : Msg) : Prop where
  mti : m.mti.length < 4294967296
  len : m.list.length < 16777216
  text : ∀ f ∈ m.list, f.text.length < 4294967296
def ascI (l : List Field) : Prop := ∀ i (h : i + 1 < l.length), l[i].no < l[i + 1].no
theorem ascI_take {l : List Field} {i : Nat} (h : i < l.length) (h1 : ascI (l.take i)) (h2 : ∀ h0 : 0 < i, (l[i - 1]'(by omega)).no < l[i].no) : ascI (l.take (i + 1)) := by
  intro j hj
  simp only [List.length_take] at hj
  rcases Nat.lt_or_ge (j + 1) i with h3 | h3
  · have := h1 j (by simp; omega)
    simpa using this
  · obtain rfl : i = j + 1 := by omega
    have := h2 (by omega)
    simpa using this
def msgOk (m : Msg) : Prop := wide m.mti 4 ∧ (∀ f ∈ m.list, fieldOk f.no f.text) ∧ ascI m.list
theorem iMsgOk_ret (m : Msg) (f : MFit m) : Ret PG f_impl_MsgOk [.v m.p] (oB (tf (msgOk m))) [] := by
  have hl := f.len
  have hdef : msgOk m ↔ (wide m.mti 4 ∧ (∀ f ∈ m.list, fieldOk f.no f.text) ∧ ascI m.list) := Iff.rfl
  have hm := f.mti
  have ht := f.text
  obtain ⟨mti, l⟩ := m
  simp only at hl hdef hm ht
  refine exact_of (p_impl_MsgOk rfl rfl ?_)
  simp only [seval, go_sem, i_impl_MsgOk, Msg.p, Msg.c]
  refine go_lp (β := Nat) (fun i => [(8, .p (.int .i64 i))]) (fun _ => []) (fun i => i ≤ l.length ∧ (∀ x ∈ l.take i, fieldOk x.no x.text) ∧ ascI (l.take i)) (fun i => l.length - i) 0 ?_ ?_ ?_
  · rfl
  · simp [ascI]
  · rintro i ⟨hi, hd, ha⟩
    by_cases h : (i : Int) < l.length
    · have h' : i < l.length := by omega
      have hx := iFieldOk_ret l[i].no l[i].text (ht _ (at_mem h'))
      by_cases h0 : (0 : Int) < i
      · have hj : i - 1 < l.length := by omega
        have e1 : IntKind.i64.wrap ((i : Int) - 1) = ((i - 1 : Nat) : Int) := by rw [i64_in _ (by omega)]; omega
        have e2 : ((i - 1 : Nat) : Int) < l.length := by omega
        simp only [seval, go_sem, h, h0, e1, e2, getD_map Field.p l i h', getD_map Field.p l (i - 1) hj, Field.p, wrap_succ i (by omega)]
        repeat' (first
         | ((with_reducible_and_instances first | refine go_br (fun hc => ?_) (fun hc => ?_) | refine go_grd (fun hc => ?_) (fun hc => ?_) | refine go_dgrd (fun hc => ?_) (fun hc => ?_)) <;> (try simp only [decide_eq_true_eq, decide_eq_false_iff_not, Bool.not_eq_true', Bool.not_eq_false'] at hc) <;> simp only [seval, go_sem, hc, h, h0, e1, e2, getD_map Field.p l i h', getD_map Field.p l (i - 1) hj, Field.p, wrap_succ i (by omega)])
         | ((with_reducible_and_instances first | refine go_use (hx) ?_); simp only [seval, go_sem, h, h0, e1, e2, getD_map Field.p l i h', getD_map Field.p l (i - 1) hj, Field.p, wrap_succ i (by omega)]))
        · exact oB_f (fun g => absurd hc (by have := (hdef.1 g).2.2 (i - 1) (by omega); simp only [show i - 1 + 1 = i by omega] at this; omega))
        · rename_i hh
          exact ⟨i + 1, rfl, ⟨h', take_all h' hd (tf_iff.1 hh), ascI_take h' ha fun _ => by omega⟩, by (try dsimp only); omega⟩
        · exact oB_f (fun g => tf_not.1 hc ((hdef.1 g).2.1 _ (at_mem h')))
      · obtain rfl : i = 0 := by omega
        have h00 : (0 : Int) < l.length := by omega
        simp only [seval, go_sem, h, h0, h00, getD_map Field.p l 0 h', Field.p, wrap_succ 0 (by omega)]
        repeat' (first
         | ((with_reducible_and_instances first | refine go_br (fun hc => ?_) (fun hc => ?_) | refine go_grd (fun hc => ?_) (fun hc => ?_) | refine go_dgrd (fun hc => ?_) (fun hc => ?_)) <;> (try simp only [decide_eq_true_eq, decide_eq_false_iff_not, Bool.not_eq_true', Bool.not_eq_false'] at hc) <;> simp only [seval, go_sem, hc, h, h0, h00, getD_map Field.p l 0 h', Field.p, wrap_succ 0 (by omega)])
         | ((with_reducible_and_instances first | refine go_use (hx) ?_); simp only [seval, go_sem, h, h0, h00, getD_map Field.p l 0 h', Field.p, wrap_succ 0 (by omega)]))
        · exact ⟨1, rfl, ⟨h', take_all h' hd (tf_iff.1 hc), ascI_take h' ha fun h00 => absurd h00 (by omega)⟩, by (try dsimp only); omega⟩
        · exact oB_f (fun g => tf_not.1 hc ((hdef.1 g).2.1 _ (at_mem h')))
    · have e : l.take i = l := List.take_of_length_le (by omega)
      rw [e] at hd ha
      simp only [seval, go_sem, h]
      repeat' (first
       | ((with_reducible_and_instances first | refine go_br (fun hc => ?_) (fun hc => ?_) | refine go_grd (fun hc => ?_) (fun hc => ?_) | refine go_dgrd (fun hc => ?_) (fun hc => ?_)) <;> (try simp only [decide_eq_true_eq, decide_eq_false_iff_not, Bool.not_eq_true', Bool.not_eq_false'] at hc) <;> simp only [seval, go_sem, hc, h])
       | ((with_reducible_and_instances first | refine go_use (iisWide_ret _ _ hm) ?_); simp only [seval, go_sem, h]))
      exact oB_tf ⟨fun g => hdef.2 ⟨g, hd, ha⟩, fun g => (hdef.1 g).1⟩
def msgField (m : Msg) (no : Int) : Option Str := (m.list.find? fun f => f.no == no).map Field.text
def strR : Option Str → R
  | some s => .tup [oS s, oB true]
  | none => .tup [oS [], oB false]
theorem iFieldOf_ret (m : Msg) (no : Int) (hl : m.list.length < 16777216) : Ret PG f_impl_FieldOf [.v m.p, aI no] (strR (msgField m no)) [] := by
  have hro : msgField m no = (m.list.find? fun f => f.no == no).map Field.text := rfl
  rw [hro]
  obtain ⟨mti, l⟩ := m
  simp only at hl ⊢
  refine exact_of (p_impl_FieldOf rfl rfl ?_)
  simp only [seval, go_sem, i_impl_FieldOf, Msg.p, Msg.c]
  refine go_lp (β := Nat) (fun i => [(11, .p (.int .i64 i))]) (fun _ => []) (fun i => i ≤ l.length ∧ ∀ r ∈ l.take i, (r.no == no) = false) (fun i => l.length - i) 0 ?_ ?_ ?_
  · rfl
  · simp
  · rintro i ⟨hi, hd⟩
    by_cases h : (i : Int) < l.length
    · have h' : i < l.length := by omega
      simp only [seval, go_sem, h, getD_map Field.p l i h', Field.p, wrap_succ i (by omega)]
      repeat' (first
       | ((with_reducible_and_instances first | refine go_br (fun hc => ?_) (fun hc => ?_) | refine go_grd (fun hc => ?_) (fun hc => ?_) | refine go_dgrd (fun hc => ?_) (fun hc => ?_)) <;> (try simp only [decide_eq_true_eq, decide_eq_false_iff_not, Bool.not_eq_true', Bool.not_eq_false'] at hc) <;> simp only [seval, go_sem, hc, h, getD_map Field.p l i h', Field.p, wrap_succ i (by omega)]))
      · rw [rows_find h' hd (by simpa using hc)]; rfl
      · exact ⟨i + 1, rfl, ⟨h', take_all h' hd (by simpa using hc)⟩, by (try dsimp only); omega⟩
    · have ha := all_of_take h hd
      simp only [seval, go_sem, h]
      repeat' (first
       | ((with_reducible_and_instances first | refine go_br (fun hc => ?_) (fun hc => ?_) | refine go_grd (fun hc => ?_) (fun hc => ?_) | refine go_dgrd (fun hc => ?_) (fun hc => ?_)) <;> (try simp only [decide_eq_true_eq, decide_eq_false_iff_not, Bool.not_eq_true', Bool.not_eq_false'] at hc) <;> simp only [seval, go_sem, hc, h]))
      rw [List.find?_eq_none.2 (fun x hx => by simp [ha x hx])]; rfl
end Go.AW
namespace Go.AW
open IntWalk
def lows (l : List Field) : List Int := (l.filter fun f => !decide (64 < f.no)).map Field.no
def highs (l : List Field) : List Int := (l.filter fun f => decide (64 < f.no)).map fun f => f.no - 64
def bodies (l : List Field) : List UInt8 := l.flatMap fun f => putField f.no f.text
noncomputable def heads (l : List Field) : List UInt8 := if 0 < (highs l).length then putBits (lows l ++ [1]) ++ putBits (highs l) else putBits (lows l)
noncomputable def encode (m : Msg) : List UInt8 := bcd m.mti ++ heads m.list ++ bodies m.list
theorem bcd_len (s : Str) : (bcd s).length ≤ s.length := by
  unfold bcd pad2; rw [packs_len]; split
  · simp only [List.length_cons]; omega
  · omega
theorem putField_len {no : Int} {s : Str} (h : fieldOk no s) : (putField no s).length ≤ 70 := by
  have h1 := fieldOk_len h
  have h2 := bcd_len s
  have hld : lenD no = 2 ∨ lenD no = 3 := by unfold lenD; split <;> simp
  have h3 := bcd_len (wideN s.length (lenD no))
  rw [(wideN_ok s.length (lenD no) (by omega) (by omega)).2] at h3
  unfold putField
  split
  · omega
  · split
    · omega
    · split <;> rw [List.length_append] <;> omega
theorem bodies_len : ∀ (l : List Field), (∀ f ∈ l, fieldOk f.no f.text) → (bodies l).length ≤ 70 * l.length
  | [], _ => by simp [bodies]
  | f :: l, h => by
    have h1 := bodies_len l fun x hx => h x (List.mem_cons_of_mem _ hx)
    have h2 := putField_len (h f List.mem_cons_self)
    have : bodies (f :: l) = putField f.no f.text ++ bodies l := by simp [bodies]
    rw [this, List.length_append, List.length_cons]; omega
theorem bodies_take (l : List Field) (i : Nat) (h : i < l.length) : bodies (l.take (i + 1)) = bodies (l.take i) ++ putField l[i].no l[i].text := by
  rw [take_at l i h]; unfold bodies; rw [List.flatMap_append]; simp
theorem lows_take (l : List Field) (i : Nat) (h : i < l.length) : lows (l.take (i + 1)) = lows (l.take i) ++ (if 64 < l[i].no then [] else [l[i].no]) := by
  rw [take_at l i h]; unfold lows; rw [List.filter_append, List.map_append]
  by_cases h1 : 64 < l[i].no <;> simp [h1]
theorem highs_take (l : List Field) (i : Nat) (h : i < l.length) : highs (l.take (i + 1)) = highs (l.take i) ++ (if 64 < l[i].no then [l[i].no - 64] else []) := by
  rw [take_at l i h]; unfold highs; rw [List.filter_append, List.map_append]
  by_cases h1 : 64 < l[i].no <;> simp [h1]
theorem lows_len (l : List Field) : (lows l).length ≤ l.length := by unfold lows; rw [List.length_map]; exact List.length_filter_le _ _
theorem highs_len (l : List Field) : (highs l).length ≤ l.length := by unfold highs; rw [List.length_map]; exact List.length_filter_le _ _
theorem nums_in {no : Int} {s : Str} (h : fieldOk no s) : 2 ≤ no ∧ no ≤ 103 := by
  have hk : rowOf no ∈ rows ∧ (rowOf no).1 = no := by
    unfold rowOf
    cases hf : rows.find? fun r => r.1 == no with
    | none =>
      exfalso
      have : fieldKind no = 0 := by unfold fieldKind rowOf; rw [hf]; rfl
      unfold fieldOk at h; omega
    | some r => exact ⟨List.mem_of_find?_eq_some hf, by have := List.find?_some hf; simpa using this⟩
  have : ∀ r ∈ rows, 2 ≤ r.1 ∧ r.1 ≤ 103 := by decide
  have := this _ hk.1
  rw [hk.2] at this; exact this
theorem iEncode_ok (m : Msg) (f : MFit m) (h : msgOk m) : Ret PG f_impl_Encode [.v m.p] (.tup [.o (.own 1 ((encode m).map eb)), oB true]) [] := by
  have hmo := iMsgOk_ret m f
  rw [tf_true h] at hmo
  have hb := iPutBcd_ok m.mti ⟨h.1.1, by rw [h.1.2]; omega⟩
  have hbl := bcd_len m.mti
  have hml := h.1.2
  have hl := f.len
  have hok := h.2.1
  have hen : encode m = bcd m.mti ++ heads m.list ++ bodies m.list := rfl
  rw [hen]
  obtain ⟨mti, l⟩ := m
  simp only [Msg.p, Msg.c] at *
  have hbo := bodies_len l hok
  refine exact_of (p_impl_Encode rfl rfl ?_)
  simp only [seval, go_sem, i_impl_Encode, Msg.p, Msg.c]
  repeat' (first
   | ((with_reducible_and_instances first | refine go_br (fun hc => ?_) (fun hc => ?_) | refine go_grd (fun hc => ?_) (fun hc => ?_) | refine go_dgrd (fun hc => ?_) (fun hc => ?_)) <;> (try simp only [decide_eq_true_eq, decide_eq_false_iff_not, Bool.not_eq_true', Bool.not_eq_false'] at hc) <;> simp only [seval, go_sem, hc])
   | ((with_reducible_and_instances first | refine go_use (hmo) ?_); simp only [seval, go_sem]))
  refine go_lp (β := Nat) (fun i => [(4, .sl 16 (lows (l.take i)).length 0 (lows (l.take i)).length), (5, .sl 17 (highs (l.take i)).length 0 (highs (l.take i)).length), (6, .sl 18 i 0 (bodies (l.take i)).length), (22, .p (.int .i64 i))])
    (fun i => [(16, (lows (l.take i)).length, .arr 1 ((lows (l.take i)).map ei) false), (17, (highs (l.take i)).length, .arr 1 ((highs (l.take i)).map ei) false), (18, i, .arr 1 ((bodies (l.take i)).map eb) false)]) (fun i => i ≤ l.length) (fun i => l.length - i) 0 ?_ ?_ ?_
  · rfl
  · simp
  · intro i hi
    by_cases h1 : (i : Int) < l.length
    · have h' : i < l.length := by omega
      have hpf := iPutField_ok _ _ (hok _ (at_mem h'))
      have hpl := putField_len (hok _ (at_mem h'))
      have hnm := nums_in (hok _ (at_mem h'))
      have e1 := lows_take l i h'
      have e2 := highs_take l i h'
      have e3 := bodies_take l i h'
      have l1 := lows_len (l.take i)
      have l2 := highs_len (l.take i)
      have l3 := bodies_len (l.take i) fun x hx => hok x (List.mem_of_mem_take hx)
      have l4 : (l.take i).length ≤ i := by rw [List.length_take]; omega
      have e5 : IntKind.i64.wrap (l[i].no - 64) = l[i].no - 64 := by rw [i64_in _ (by omega)]
      generalize lows (l.take i) = lo at *
      generalize highs (l.take i) = hg at *
      generalize bodies (l.take i) = bo at *
      by_cases h64 : 64 < l[i].no
      · rw [if_pos h64] at e1 e2
        simp only [seval, go_sem, h1, getD_map Field.p l i h', Field.p, wrap_succ i (by omega), h64, e5]
        repeat' (first
         | ((with_reducible_and_instances first | refine go_br (fun hc => ?_) (fun hc => ?_) | refine go_grd (fun hc => ?_) (fun hc => ?_) | refine go_dgrd (fun hc => ?_) (fun hc => ?_)) <;> (try simp only [decide_eq_true_eq, decide_eq_false_iff_not, Bool.not_eq_true', Bool.not_eq_false'] at hc) <;> simp only [seval, go_sem, hc, h1, getD_map Field.p l i h', Field.p, wrap_succ i (by omega), h64, e5])
         | ((with_reducible_and_instances first | refine go_use (hpf) ?_); simp only [seval, go_sem, h1, getD_map Field.p l i h', Field.p, wrap_succ i (by omega), h64, e5])
         | ((with_reducible refine And.intro ?_ ?_); focus omega))
        refine ⟨i + 1, ?_, h', by (try dsimp only); omega⟩
        rw [e1, e2, e3]
        simp only [List.append_nil, List.length_append, List.map_append]
        rfl
      · rw [if_neg h64] at e1 e2
        simp only [seval, go_sem, h1, getD_map Field.p l i h', Field.p, wrap_succ i (by omega), h64]
        repeat' (first
         | ((with_reducible_and_instances first | refine go_br (fun hc => ?_) (fun hc => ?_) | refine go_grd (fun hc => ?_) (fun hc => ?_) | refine go_dgrd (fun hc => ?_) (fun hc => ?_)) <;> (try simp only [decide_eq_true_eq, decide_eq_false_iff_not, Bool.not_eq_true', Bool.not_eq_false'] at hc) <;> simp only [seval, go_sem, hc, h1, getD_map Field.p l i h', Field.p, wrap_succ i (by omega), h64])
         | ((with_reducible_and_instances first | refine go_use (hpf) ?_); simp only [seval, go_sem, h1, getD_map Field.p l i h', Field.p, wrap_succ i (by omega), h64])
         | ((with_reducible refine And.intro ?_ ?_); focus omega))
        refine ⟨i + 1, ?_, h', by (try dsimp only); omega⟩
        rw [e1, e2, e3]
        simp only [List.append_nil, List.length_append, List.map_append]
        rfl
    · have e : l.take i = l := List.take_of_length_le (by omega)
      rw [e]
      have l1 := lows_len l
      have l2 := highs_len l
      have hpb1 := iPutBits_ret (lows l ++ [1]) (by rw [List.length_append, List.length_cons, List.length_nil]; omega)
      have hpb2 := iPutBits_ret (highs l) (by omega)
      have hpb3 := iPutBits_ret (lows l) (by omega)
      have p1 := putBits_len (lows l ++ [1])
      have p2 := putBits_len (highs l)
      have p3 := putBits_len (lows l)
      have hhd : heads l = if 0 < (highs l).length then putBits (lows l ++ [1]) ++ putBits (highs l) else putBits (lows l) := rfl
      rw [hhd]
      simp only [aIs, List.map_append, List.map_cons, List.map_nil] at hpb1
      generalize lows l = lo at *
      generalize highs l = hg at *
      generalize bodies l = bo at *
      by_cases h0 : 0 < hg.length
      · have h0' : (0 : Int) < hg.length := by omega
        rw [if_pos h0]
        have hsn : (lo.map ei ++ [P.int .i64 1]).take (lo.length + 1) = lo.map ei ++ [P.int .i64 1] := List.take_of_length_le (by simp)
        have hpb1' : Ret PG f_impl_PutBits [A.v (P.sl 1 (lo.map ei ++ [P.int .i64 1]))] (R.o (O.own 1 ((putBits (lo ++ [1])).map eb))) [] := hpb1
        simp only [seval, go_sem, h1, h0', hsn]
        repeat' (first
         | ((with_reducible_and_instances first | refine go_br (fun hc => ?_) (fun hc => ?_) | refine go_grd (fun hc => ?_) (fun hc => ?_) | refine go_dgrd (fun hc => ?_) (fun hc => ?_)) <;> (try simp only [decide_eq_true_eq, decide_eq_false_iff_not, Bool.not_eq_true', Bool.not_eq_false'] at hc) <;> simp only [seval, go_sem, hc, h1, h0', hsn])
         | ((with_reducible_and_instances first | refine go_use (hb) ?_ | refine go_use (hpb1') ?_ | refine go_use (hpb2) ?_); simp only [seval, go_sem, h1, h0', hsn])
         | ((with_reducible refine And.intro ?_ ?_); focus omega))
        rw [List.map_append, List.map_append, List.map_append, List.take_of_length_le (by simp; omega)]
        simp only [List.append_assoc]
      · have h0' : ¬ (0 : Int) < hg.length := by omega
        rw [if_neg h0]
        simp only [seval, go_sem, h1, h0']
        repeat' (first
         | ((with_reducible_and_instances first | refine go_br (fun hc => ?_) (fun hc => ?_) | refine go_grd (fun hc => ?_) (fun hc => ?_) | refine go_dgrd (fun hc => ?_) (fun hc => ?_)) <;> (try simp only [decide_eq_true_eq, decide_eq_false_iff_not, Bool.not_eq_true', Bool.not_eq_false'] at hc) <;> simp only [seval, go_sem, hc, h1, h0'])
         | ((with_reducible_and_instances first | refine go_use (hb) ?_ | refine go_use (hpb3) ?_); simp only [seval, go_sem, h1, h0'])
         | ((with_reducible refine And.intro ?_ ?_); focus omega))
        rw [List.map_append, List.map_append, List.take_of_length_le (by simp; omega)]
end Go.AW
namespace Go.AW
open IntWalk
noncomputable def getFields (b : List UInt8) : Int → List Int → Option (List Field × Int)
  | at', [] => some ([], at')
  | at', no :: r => match getField b at' no with
    | none => none
    | some (s, e) => (getFields b e r).map fun x => (⟨no, s⟩ :: x.1, x.2)
noncomputable def parseTail (b : List UInt8) (mti : Str) (at' : Int) (nos : List Int) : Msg × Int :=
  match getFields b at' nos with
  | none => (⟨[], []⟩, 3)
  | some (l, e) => if e = b.length then (⟨mti, l⟩, 0) else (⟨[], []⟩, 4)
def badLow (low : List Int) : Prop := ∃ k ∈ low, k ≠ 1 ∧ fieldKind k = 0
def badHigh (hi : List Int) : Prop := ∃ k ∈ hi, fieldKind (k + 64) = 0
def notOne (l : List Int) : List Int := l.filter fun k => !decide (k = 1)
noncomputable def parse2 (b : List UInt8) (mti : Str) (low : List Int) (a2 : Int) : Msg × Int :=
  if tf (badLow low) = true then (⟨[], []⟩, 2) else
  if tf (1 ∈ low) = true then (match getBits b a2 with
    | none => (⟨[], []⟩, 2)
    | some (hi, a3) => if tf (hi = []) = true then (⟨[], []⟩, 2) else if tf (badHigh hi) = true then (⟨[], []⟩, 2) else parseTail b mti a3 (notOne low ++ hi.map (· + 64)))
  else parseTail b mti a2 (notOne low)
noncomputable def parse (b : List UInt8) : Msg × Int :=
  match getBcd b 0 4 with
  | none => (⟨[], []⟩, 1)
  | some (mti, a1) => match getBits b a1 with
    | none => (⟨[], []⟩, 2)
    | some (low, a2) => parse2 b mti low a2
theorem wk_of {f : FuncId} {args : List A} {r0 : R} (h : ∃ res outs, Ret PG f args res outs ∧ (outs = [] ∧ boxless res = true ∧ res.wk = r0)) : Ret PG f args r0 [] := by
  obtain ⟨_, _, h, rfl, h2, rfl⟩ := h; exact h.wk h2
def parseW (mti : Str) : List Field → List (Nat × Nat × Blk)
  | [] => []
  | a :: r => [(15, 0, .box [.p (.str mti), .sl 118 r.length 0 (r.length + 1)] false), (118, r.length, .arr 2 ((a :: r).map Field.p) false)]
theorem getBits_some {b : List UInt8} {at' e : Int} {l : List Int} (h : getBits b at' = some (l, e)) : l.length ≤ 64 ∧ (∀ k ∈ l, 1 ≤ k ∧ k ≤ 64) ∧ 0 ≤ at' ∧ at' + 8 = e ∧ e ≤ b.length := by
  unfold getBits at h
  split at h
  · rename_i hc
    have hp := tf_iff.1 hc
    simp only [Option.some.injEq, Prod.mk.injEq] at h
    obtain ⟨rfl, rfl⟩ := h
    unfold pieceP at hp
    refine ⟨?_, ?_, hp.1, rfl, by omega⟩
    · unfold bitsUp; rw [List.length_map]; exact Nat.le_trans (List.length_filter_le _ _) (by simp)
    · intro k hk
      unfold bitsUp at hk
      obtain ⟨j, hj, rfl⟩ := List.mem_map.1 hk
      have := List.mem_range.1 (List.mem_filter.1 hj).1
      omega
  · cases h
theorem notOne_take (l : List Int) (i : Nat) (h : i < l.length) : notOne (l.take (i + 1)) = notOne (l.take i) ++ (if l[i] = 1 then [] else [l[i]]) := by
  rw [take_at l i h]; unfold notOne; rw [List.filter_append]
  by_cases h1 : l[i] = 1 <;> simp [h1]
theorem notOne_len (l : List Int) : (notOne l).length ≤ l.length := List.length_filter_le _ _
theorem iParse_ret (bs : List UInt8) (hb : bs.length < 4294967296) : Ret PG f_impl_Parse [aBs bs] (.tup [rR (parse bs).1.c, oI (parse bs).2]) [] := by
  refine wk_of ?_
  have hg1 := iGetBcd_ret bs 0 4 hb
  unfold parse
  cases hx1 : getBcd bs 0 4 with
  | none =>
    rw [hx1, bcdR] at hg1
    refine p_impl_Parse rfl rfl ?_
    simp only [seval, go_sem, i_impl_Parse]
    repeat' (first
     | ((with_reducible_and_instances first | refine go_br (fun hc => ?_) (fun hc => ?_) | refine go_grd (fun hc => ?_) (fun hc => ?_) | refine go_dgrd (fun hc => ?_) (fun hc => ?_)) <;> (try simp only [decide_eq_true_eq, decide_eq_false_iff_not, Bool.not_eq_true', Bool.not_eq_false'] at hc) <;> simp only [seval, go_sem, hc])
     | ((with_reducible_and_instances first | refine go_use (hg1) ?_); simp only [seval, go_sem]))
    exact ⟨rfl, rfl⟩
  | some x1 =>
  obtain ⟨mti, a1⟩ := x1
  rw [hx1, bcdR] at hg1
  simp only
  have hg2 := iGetBits_ret bs a1 hb
  cases hx2 : getBits bs a1 with
  | none =>
    rw [hx2, bitsR] at hg2
    refine p_impl_Parse rfl rfl ?_
    simp only [seval, go_sem, i_impl_Parse]
    repeat' (first
     | ((with_reducible_and_instances first | refine go_br (fun hc => ?_) (fun hc => ?_) | refine go_grd (fun hc => ?_) (fun hc => ?_) | refine go_dgrd (fun hc => ?_) (fun hc => ?_)) <;> (try simp only [decide_eq_true_eq, decide_eq_false_iff_not, Bool.not_eq_true', Bool.not_eq_false'] at hc) <;> simp only [seval, go_sem, hc])
     | ((with_reducible_and_instances first | refine go_use (hg1) ?_ | refine go_use (hg2) ?_); simp only [seval, go_sem]))
    exact ⟨rfl, rfl⟩
  | some x2 =>
  obtain ⟨low, a2⟩ := x2
  rw [hx2, bitsR] at hg2
  simp only
  obtain ⟨hl1, hl2, _⟩ := getBits_some hx2
  refine p_impl_Parse rfl rfl ?_
  simp only [seval, go_sem, i_impl_Parse]
  repeat' (first
   | ((with_reducible_and_instances first | refine go_br (fun hc => ?_) (fun hc => ?_) | refine go_grd (fun hc => ?_) (fun hc => ?_) | refine go_dgrd (fun hc => ?_) (fun hc => ?_)) <;> (try simp only [decide_eq_true_eq, decide_eq_false_iff_not, Bool.not_eq_true', Bool.not_eq_false'] at hc) <;> simp only [seval, go_sem, hc])
   | ((with_reducible_and_instances first | refine go_use (hg1) ?_ | refine go_use (hg2) ?_); simp only [seval, go_sem]))
  refine go_lp (β := Nat) (fun i => [(8, .sl 40 (notOne (low.take i)).length 0 (notOne (low.take i)).length), (9, .p (.bool (tf (1 ∈ low.take i)))), (43, .p (.int .i64 i))])
    (fun i => [(40, (notOne (low.take i)).length, .arr 1 ((notOne (low.take i)).map ei) false)]) (fun i => i ≤ low.length ∧ ∀ k ∈ low.take i, ¬ (k ≠ 1 ∧ fieldKind k = 0)) (fun i => low.length - i) 0 ?_ ?_ ?_
  · simp [tf_false, notOne]; rfl
  · simp
  · rintro i ⟨hi, hd⟩
    by_cases h : (i : Int) < low.length
    · have h' : i < low.length := by omega
      have e1 := notOne_take low i h'
      have l1 := notOne_len (low.take i)
      have l2 : (low.take i).length ≤ i := by rw [List.length_take]; omega
      have e2 : low.take (i + 1) = low.take i ++ [low[i]] := take_at low i h'
      have hk := iFieldKind_ret low[i]
      by_cases hone : low[i] = 1
      · rw [if_pos hone, List.append_nil] at e1
        simp only [seval, go_sem, h, h', getD_map ei low i h', ei, hone, wrap_succ i (by omega)]
        repeat' (first
         | ((with_reducible_and_instances first | refine go_br (fun hc => ?_) (fun hc => ?_) | refine go_grd (fun hc => ?_) (fun hc => ?_) | refine go_dgrd (fun hc => ?_) (fun hc => ?_)) <;> (try simp only [decide_eq_true_eq, decide_eq_false_iff_not, Bool.not_eq_true', Bool.not_eq_false'] at hc) <;> simp only [seval, go_sem, hc, h, h', getD_map ei low i h', ei, hone, wrap_succ i (by omega)]))
        refine ⟨i + 1, ?_, ⟨h', take_all h' hd (fun g => g.1 hone)⟩, by (try dsimp only); omega⟩
        rw [e1, tf_true (p := 1 ∈ low.take (i + 1)) (by rw [e2, hone]; simp)]; rfl
      · rw [if_neg hone] at e1
        have e3 : tf (1 ∈ low.take (i + 1)) = tf (1 ∈ low.take i) := by
          congr 1; rw [e2, List.mem_append, List.mem_singleton]; exact propext ⟨fun g => g.elim id fun g => absurd g.symm hone, .inl⟩
        by_cases hz : fieldKind low[i] = 0
        · have hbad : tf (badLow low) = true := tf_true ⟨low[i], at_mem h', hone, hz⟩
          rw [parse2, if_pos hbad]
          simp only [seval, go_sem, h, h', getD_map ei low i h', ei, hone, hz]
          repeat' (first
           | ((with_reducible_and_instances first | refine go_br (fun hc => ?_) (fun hc => ?_) | refine go_grd (fun hc => ?_) (fun hc => ?_) | refine go_dgrd (fun hc => ?_) (fun hc => ?_)) <;> (try simp only [decide_eq_true_eq, decide_eq_false_iff_not, Bool.not_eq_true', Bool.not_eq_false'] at hc) <;> simp only [seval, go_sem, hc, h, h', getD_map ei low i h', ei, hone, hz])
           | ((with_reducible_and_instances first | refine go_use (hk) ?_); simp only [seval, go_sem, h, h', getD_map ei low i h', ei, hone, hz]))
          exact ⟨rfl, rfl⟩
        · simp only [seval, go_sem, h, h', getD_map ei low i h', ei, hone, hz, wrap_succ i (by omega)]
          repeat' (first
           | ((with_reducible_and_instances first | refine go_br (fun hc => ?_) (fun hc => ?_) | refine go_grd (fun hc => ?_) (fun hc => ?_) | refine go_dgrd (fun hc => ?_) (fun hc => ?_)) <;> (try simp only [decide_eq_true_eq, decide_eq_false_iff_not, Bool.not_eq_true', Bool.not_eq_false'] at hc) <;> simp only [seval, go_sem, hc, h, h', getD_map ei low i h', ei, hone, hz, wrap_succ i (by omega)])
           | ((with_reducible_and_instances first | refine go_use (hk) ?_); simp only [seval, go_sem, h, h', getD_map ei low i h', ei, hone, hz, wrap_succ i (by omega)])
           | ((with_reducible refine And.intro ?_ ?_); focus omega))
          refine ⟨i + 1, ?_, ⟨h', take_all h' hd (fun g => hz g.2)⟩, by (try dsimp only); omega⟩
          rw [e1, e3, List.length_append, List.map_append]; rfl
    · have ha := all_of_take h hd
      have e : low.take i = low := List.take_of_length_le (by omega)
      have hbad : tf (badLow low) = false := tf_false (fun ⟨k, hk, h2⟩ => ha k hk h2)
      have l1 := notOne_len low
      rw [parse2, hbad, if_neg (by simp)]
      rw [e]
      by_cases hm : 1 ∈ low
      · rw [tf_true hm, if_pos rfl]
        have hg3 := iGetBits_ret bs a2 hb
        cases hx3 : getBits bs a2 with
        | none =>
          rw [hx3, bitsR] at hg3
          simp only [seval, go_sem, h]
          repeat' (first
           | ((with_reducible_and_instances first | refine go_br (fun hc => ?_) (fun hc => ?_) | refine go_grd (fun hc => ?_) (fun hc => ?_) | refine go_dgrd (fun hc => ?_) (fun hc => ?_)) <;> (try simp only [decide_eq_true_eq, decide_eq_false_iff_not, Bool.not_eq_true', Bool.not_eq_false'] at hc) <;> simp only [seval, go_sem, hc, h])
           | ((with_reducible_and_instances first | refine go_use (hg3) ?_); simp only [seval, go_sem, h]))
          exact ⟨rfl, rfl⟩
        | some x3 =>
        obtain ⟨hi3, a3⟩ := x3
        rw [hx3, bitsR] at hg3
        simp only
        obtain ⟨hh1, hh2, _⟩ := getBits_some hx3
        by_cases hemp : hi3 = []
        · rw [tf_true hemp, if_pos rfl]
          subst hemp
          simp only [seval, go_sem, h, List.map_nil]
          repeat' (first
           | ((with_reducible_and_instances first | refine go_br (fun hc => ?_) (fun hc => ?_) | refine go_grd (fun hc => ?_) (fun hc => ?_) | refine go_dgrd (fun hc => ?_) (fun hc => ?_)) <;> (try simp only [decide_eq_true_eq, decide_eq_false_iff_not, Bool.not_eq_true', Bool.not_eq_false'] at hc) <;> simp only [seval, go_sem, hc, h, List.map_nil])
           | ((with_reducible_and_instances first | refine go_use (hg3) ?_); simp only [seval, go_sem, h, List.map_nil]))
          exact ⟨rfl, rfl⟩
        · have hne : ¬ ((hi3.length : Int) = 0) := by
            intro g; exact hemp (List.length_eq_zero_iff.1 (by omega))
          rw [tf_false hemp, if_neg (by simp)]
          simp only [seval, go_sem, h, hne]
          repeat' (first
           | ((with_reducible_and_instances first | refine go_br (fun hc => ?_) (fun hc => ?_) | refine go_grd (fun hc => ?_) (fun hc => ?_) | refine go_dgrd (fun hc => ?_) (fun hc => ?_)) <;> (try simp only [decide_eq_true_eq, decide_eq_false_iff_not, Bool.not_eq_true', Bool.not_eq_false'] at hc) <;> simp only [seval, go_sem, hc, h, hne])
           | ((with_reducible_and_instances first | refine go_use (hg3) ?_); simp only [seval, go_sem, h, hne]))
          refine go_lp (β := Nat) (fun j => [(8, .sl 40 ((notOne low).length + j) 0 ((notOne low).length + j)), (78, .p (.int .i64 j))])
            (fun j => [(40, (notOne low).length + j, .arr 1 ((notOne low).map ei ++ ((hi3.take j).map (· + 64)).map ei) false)]) (fun j => j ≤ hi3.length ∧ ∀ k ∈ hi3.take j, ¬ (fieldKind (k + 64) = 0)) (fun j => hi3.length - j) 0 ?_ ?_ ?_
          · simp; rfl
          · simp
          · rintro j ⟨hj, hd2⟩
            have lj : (hi3.take j).length = j := by rw [List.length_take]; omega
            by_cases h3 : (j : Int) < hi3.length
            · have h3' : j < hi3.length := by omega
              have hk := iFieldKind_ret (hi3[j] + 64)
              have e4 : IntKind.i64.wrap (hi3[j] + 64) = hi3[j] + 64 := by have := hh2 _ (at_mem h3'); rw [i64_in _ (by omega)]
              by_cases hz : fieldKind (hi3[j] + 64) = 0
              · have hb2 : tf (badHigh hi3) = true := tf_true ⟨hi3[j], at_mem h3', hz⟩
                rw [if_pos hb2]
                simp only [seval, go_sem, h3, h3', getD_map ei hi3 j h3', ei, e4, hz]
                repeat' (first
                 | ((with_reducible_and_instances first | refine go_br (fun hc => ?_) (fun hc => ?_) | refine go_grd (fun hc => ?_) (fun hc => ?_) | refine go_dgrd (fun hc => ?_) (fun hc => ?_)) <;> (try simp only [decide_eq_true_eq, decide_eq_false_iff_not, Bool.not_eq_true', Bool.not_eq_false'] at hc) <;> simp only [seval, go_sem, hc, h3, h3', getD_map ei hi3 j h3', ei, e4, hz])
                 | ((with_reducible_and_instances first | refine go_use (hk) ?_); simp only [seval, go_sem, h3, h3', getD_map ei hi3 j h3', ei, e4, hz]))
                exact ⟨rfl, rfl⟩
              · simp only [seval, go_sem, h3, h3', getD_map ei hi3 j h3', ei, e4, hz, wrap_succ j (by omega), lj]
                repeat' (first
                 | ((with_reducible_and_instances first | refine go_br (fun hc => ?_) (fun hc => ?_) | refine go_grd (fun hc => ?_) (fun hc => ?_) | refine go_dgrd (fun hc => ?_) (fun hc => ?_)) <;> (try simp only [decide_eq_true_eq, decide_eq_false_iff_not, Bool.not_eq_true', Bool.not_eq_false'] at hc) <;> simp only [seval, go_sem, hc, h3, h3', getD_map ei hi3 j h3', ei, e4, hz, wrap_succ j (by omega), lj])
                 | ((with_reducible_and_instances first | refine go_use (hk) ?_); simp only [seval, go_sem, h3, h3', getD_map ei hi3 j h3', ei, e4, hz, wrap_succ j (by omega), lj])
                 | ((with_reducible refine And.intro ?_ ?_); focus omega))
                refine ⟨j + 1, ?_, ⟨h3', take_all h3' hd2 hz⟩, by (try dsimp only); omega⟩
                rw [take_at hi3 j h3']
                simp only [List.map_append, List.map_cons, List.map_nil, List.append_assoc]; rfl
            · have ha2 := all_of_take h3 hd2
              have e5 : hi3.take j = hi3 := List.take_of_length_le (by omega)
              have hb2 : tf (badHigh hi3) = false := tf_false (fun ⟨k, hk, h2⟩ => ha2 k hk h2)
              rw [hb2, if_neg (by simp), parseTail]
              have ejl : j = (hi3.map (· + 64)).length := by rw [List.length_map]; omega
              rw [e5, ← List.map_append]
              have hnl : (notOne low).length + j = (notOne low ++ hi3.map (· + 64)).length := by rw [List.length_append, ← ejl]
              rw [hnl]
              have hnb : (notOne low ++ hi3.map (· + 64)).length ≤ 128 := by rw [← hnl]; omega
              generalize notOne low ++ hi3.map (· + 64) = nos at *
              simp only [seval, go_sem, h3]
              repeat' (first
               | ((with_reducible_and_instances first | refine go_br (fun hc => ?_) (fun hc => ?_) | refine go_grd (fun hc => ?_) (fun hc => ?_) | refine go_dgrd (fun hc => ?_) (fun hc => ?_)) <;> (try simp only [decide_eq_true_eq, decide_eq_false_iff_not, Bool.not_eq_true', Bool.not_eq_false'] at hc) <;> simp only [seval, go_sem, hc, h3]))
              refine go_lp (β := Nat × List Field × Int) (fun b => [(5, .p (.int .i64 b.2.2)), (97, .p (.int .i64 b.1))]) (fun b => parseW mti b.2.1) (fun b => b.1 ≤ nos.length ∧ b.2.1.length = b.1 ∧ getFields bs a3 nos = (getFields bs b.2.2 (nos.drop b.1)).map fun x => (b.2.1 ++ x.1, x.2)) (fun b => nos.length - b.1) (0, [], a3) ?_ ?_ ?_
              · rfl
              · refine ⟨Nat.zero_le _, rfl, ?_⟩
                simp
              · rintro ⟨i, acc, at3⟩ ⟨hi, hla, hgf⟩
                simp only at hi hla hgf
                by_cases h1 : (i : Int) < nos.length
                · have h' : i < nos.length := by omega
                  have hg := iGetField_ret bs at3 nos[i] hb
                  rw [drop_at nos i h', getFields] at hgf
                  cases hx : getField bs at3 nos[i] with
                  | none =>
                    rw [hx] at hg hgf
                    simp only [bcdR] at hg
                    simp only [Option.map_none] at hgf
                    rw [hgf]
                    cases acc with
                    | nil =>
                      simp only [List.length_nil] at hla
                      subst hla
                      have h00 : (0 : Int) < nos.length := by omega
                      simp only [seval, go_sem, h1, h', h00, parseW, getD_map ei nos 0 h', ei]
                      repeat' (first
                       | ((with_reducible_and_instances first | refine go_br (fun hc => ?_) (fun hc => ?_) | refine go_grd (fun hc => ?_) (fun hc => ?_) | refine go_dgrd (fun hc => ?_) (fun hc => ?_)) <;> (try simp only [decide_eq_true_eq, decide_eq_false_iff_not, Bool.not_eq_true', Bool.not_eq_false'] at hc) <;> simp only [seval, go_sem, hc, h1, h', h00, parseW, getD_map ei nos 0 h', ei])
                       | ((with_reducible_and_instances first | refine go_use (hg) ?_); simp only [seval, go_sem, h1, h', h00, parseW, getD_map ei nos 0 h', ei])
                       | ((with_reducible refine And.intro ?_ ?_); focus omega))
                      exact ⟨rfl, rfl⟩
                    | cons a r =>
                      simp only [seval, go_sem, h1, h', parseW, getD_map ei nos i h', ei]
                      repeat' (first
                       | ((with_reducible_and_instances first | refine go_br (fun hc => ?_) (fun hc => ?_) | refine go_grd (fun hc => ?_) (fun hc => ?_) | refine go_dgrd (fun hc => ?_) (fun hc => ?_)) <;> (try simp only [decide_eq_true_eq, decide_eq_false_iff_not, Bool.not_eq_true', Bool.not_eq_false'] at hc) <;> simp only [seval, go_sem, hc, h1, h', parseW, getD_map ei nos i h', ei])
                       | ((with_reducible_and_instances first | refine go_use (hg) ?_); simp only [seval, go_sem, h1, h', parseW, getD_map ei nos i h', ei])
                       | ((with_reducible refine And.intro ?_ ?_); focus omega))
                      exact ⟨rfl, rfl⟩
                  | some x =>
                    obtain ⟨s, e⟩ := x
                    rw [hx] at hg hgf
                    simp only [bcdR] at hg
                    simp only [Option.map_map] at hgf
                    cases acc with
                    | nil =>
                      simp only [List.length_nil] at hla
                      subst hla
                      have h00 : (0 : Int) < nos.length := by omega
                      simp only [seval, go_sem, h1, h', h00, parseW, getD_map ei nos 0 h', ei, wrap_succ 0 (by omega)]
                      repeat' (first
                       | ((with_reducible_and_instances first | refine go_br (fun hc => ?_) (fun hc => ?_) | refine go_grd (fun hc => ?_) (fun hc => ?_) | refine go_dgrd (fun hc => ?_) (fun hc => ?_)) <;> (try simp only [decide_eq_true_eq, decide_eq_false_iff_not, Bool.not_eq_true', Bool.not_eq_false'] at hc) <;> simp only [seval, go_sem, hc, h1, h', h00, parseW, getD_map ei nos 0 h', ei, wrap_succ 0 (by omega)])
                       | ((with_reducible_and_instances first | refine go_use (hg) ?_); simp only [seval, go_sem, h1, h', h00, parseW, getD_map ei nos 0 h', ei, wrap_succ 0 (by omega)])
                       | ((with_reducible refine And.intro ?_ ?_); focus omega))
                      refine ⟨(1, [⟨nos[0], s⟩], e), rfl, ⟨h', rfl, ?_⟩, by (try dsimp only); omega⟩
                      rw [hgf]; congr 1
                    | cons a r =>
                      simp only [List.length_cons] at hla
                      simp only [seval, go_sem, h1, h', parseW, getD_map ei nos i h', ei, wrap_succ i (by omega)]
                      repeat' (first
                       | ((with_reducible_and_instances first | refine go_br (fun hc => ?_) (fun hc => ?_) | refine go_grd (fun hc => ?_) (fun hc => ?_) | refine go_dgrd (fun hc => ?_) (fun hc => ?_)) <;> (try simp only [decide_eq_true_eq, decide_eq_false_iff_not, Bool.not_eq_true', Bool.not_eq_false'] at hc) <;> simp only [seval, go_sem, hc, h1, h', parseW, getD_map ei nos i h', ei, wrap_succ i (by omega)])
                       | ((with_reducible_and_instances first | refine go_use (hg) ?_); simp only [seval, go_sem, h1, h', parseW, getD_map ei nos i h', ei, wrap_succ i (by omega)])
                       | ((with_reducible refine And.intro ?_ ?_); focus omega))
                      refine ⟨(i + 1, a :: r ++ [⟨nos[i], s⟩], e), ?_, ⟨h', by simp; omega, ?_⟩, by (try dsimp only); omega⟩
                      · simp only [List.cons_append, parseW, List.length_append, List.length_cons, List.length_nil, List.map_append, List.map_cons, List.map_nil]; rfl
                      · rw [hgf]; congr 1; funext x; simp
                · have e : i = nos.length := by omega
                  have ed : nos.drop i = [] := List.drop_of_length_le (by omega)
                  rw [ed, getFields] at hgf
                  simp only [Option.map_some, List.append_nil] at hgf
                  rw [hgf]
                  by_cases hend : at3 = bs.length
                  · simp only [hend, if_true]
                    cases acc with
                    | nil =>
                      simp only [seval, go_sem, h1, parseW, hend]
                      repeat' (first
                       | ((with_reducible_and_instances first | refine go_br (fun hc => ?_) (fun hc => ?_) | refine go_grd (fun hc => ?_) (fun hc => ?_) | refine go_dgrd (fun hc => ?_) (fun hc => ?_)) <;> (try simp only [decide_eq_true_eq, decide_eq_false_iff_not, Bool.not_eq_true', Bool.not_eq_false'] at hc) <;> simp only [seval, go_sem, hc, h1, parseW, hend])
                       | ((with_reducible refine And.intro ?_ ?_); focus omega))
                      exact ⟨rfl, rfl⟩
                    | cons a r =>
                      simp only [seval, go_sem, h1, parseW, hend]
                      repeat' (first
                       | ((with_reducible_and_instances first | refine go_br (fun hc => ?_) (fun hc => ?_) | refine go_grd (fun hc => ?_) (fun hc => ?_) | refine go_dgrd (fun hc => ?_) (fun hc => ?_)) <;> (try simp only [decide_eq_true_eq, decide_eq_false_iff_not, Bool.not_eq_true', Bool.not_eq_false'] at hc) <;> simp only [seval, go_sem, hc, h1, parseW, hend])
                       | ((with_reducible refine And.intro ?_ ?_); focus omega))
                      refine ⟨rfl, ?_⟩
                      simp [R.wk, R.wks, O.wk, Msg.c, Field.p, List.take_of_length_le]
                  · simp only [hend, if_false]
                    cases acc with
                    | nil =>
                      simp only [seval, go_sem, h1, parseW, hend]
                      repeat' (first
                       | ((with_reducible_and_instances first | refine go_br (fun hc => ?_) (fun hc => ?_) | refine go_grd (fun hc => ?_) (fun hc => ?_) | refine go_dgrd (fun hc => ?_) (fun hc => ?_)) <;> (try simp only [decide_eq_true_eq, decide_eq_false_iff_not, Bool.not_eq_true', Bool.not_eq_false'] at hc) <;> simp only [seval, go_sem, hc, h1, parseW, hend])
                       | ((with_reducible refine And.intro ?_ ?_); focus omega))
                      exact ⟨rfl, rfl⟩
                    | cons a r =>
                      simp only [seval, go_sem, h1, parseW, hend]
                      repeat' (first
                       | ((with_reducible_and_instances first | refine go_br (fun hc => ?_) (fun hc => ?_) | refine go_grd (fun hc => ?_) (fun hc => ?_) | refine go_dgrd (fun hc => ?_) (fun hc => ?_)) <;> (try simp only [decide_eq_true_eq, decide_eq_false_iff_not, Bool.not_eq_true', Bool.not_eq_false'] at hc) <;> simp only [seval, go_sem, hc, h1, parseW, hend])
                       | ((with_reducible refine And.intro ?_ ?_); focus omega))
                      exact ⟨rfl, rfl⟩
      · rw [tf_false hm, if_neg (by simp), parseTail]
        have hnb : (notOne low).length ≤ 128 := by omega
        generalize notOne low = nos at *
        simp only [seval, go_sem, h]
        repeat' (first
         | ((with_reducible_and_instances first | refine go_br (fun hc => ?_) (fun hc => ?_) | refine go_grd (fun hc => ?_) (fun hc => ?_) | refine go_dgrd (fun hc => ?_) (fun hc => ?_)) <;> (try simp only [decide_eq_true_eq, decide_eq_false_iff_not, Bool.not_eq_true', Bool.not_eq_false'] at hc) <;> simp only [seval, go_sem, hc, h]))
        refine go_lp (β := Nat × List Field × Int) (fun b => [(5, .p (.int .i64 b.2.2)), (97, .p (.int .i64 b.1))]) (fun b => parseW mti b.2.1) (fun b => b.1 ≤ nos.length ∧ b.2.1.length = b.1 ∧ getFields bs a2 nos = (getFields bs b.2.2 (nos.drop b.1)).map fun x => (b.2.1 ++ x.1, x.2)) (fun b => nos.length - b.1) (0, [], a2) ?_ ?_ ?_
        · rfl
        · refine ⟨Nat.zero_le _, rfl, ?_⟩
          simp
        · rintro ⟨i, acc, at3⟩ ⟨hi, hla, hgf⟩
          simp only at hi hla hgf
          by_cases h1 : (i : Int) < nos.length
          · have h' : i < nos.length := by omega
            have hg := iGetField_ret bs at3 nos[i] hb
            rw [drop_at nos i h', getFields] at hgf
            cases hx : getField bs at3 nos[i] with
            | none =>
              rw [hx] at hg hgf
              simp only [bcdR] at hg
              simp only [Option.map_none] at hgf
              rw [hgf]
              cases acc with
              | nil =>
                simp only [List.length_nil] at hla
                subst hla
                have h00 : (0 : Int) < nos.length := by omega
                simp only [seval, go_sem, h1, h', h00, parseW, getD_map ei nos 0 h', ei]
                repeat' (first
                 | ((with_reducible_and_instances first | refine go_br (fun hc => ?_) (fun hc => ?_) | refine go_grd (fun hc => ?_) (fun hc => ?_) | refine go_dgrd (fun hc => ?_) (fun hc => ?_)) <;> (try simp only [decide_eq_true_eq, decide_eq_false_iff_not, Bool.not_eq_true', Bool.not_eq_false'] at hc) <;> simp only [seval, go_sem, hc, h1, h', h00, parseW, getD_map ei nos 0 h', ei])
                 | ((with_reducible_and_instances first | refine go_use (hg) ?_); simp only [seval, go_sem, h1, h', h00, parseW, getD_map ei nos 0 h', ei])
                 | ((with_reducible refine And.intro ?_ ?_); focus omega))
                exact ⟨rfl, rfl⟩
              | cons a r =>
                simp only [seval, go_sem, h1, h', parseW, getD_map ei nos i h', ei]
                repeat' (first
                 | ((with_reducible_and_instances first | refine go_br (fun hc => ?_) (fun hc => ?_) | refine go_grd (fun hc => ?_) (fun hc => ?_) | refine go_dgrd (fun hc => ?_) (fun hc => ?_)) <;> (try simp only [decide_eq_true_eq, decide_eq_false_iff_not, Bool.not_eq_true', Bool.not_eq_false'] at hc) <;> simp only [seval, go_sem, hc, h1, h', parseW, getD_map ei nos i h', ei])
                 | ((with_reducible_and_instances first | refine go_use (hg) ?_); simp only [seval, go_sem, h1, h', parseW, getD_map ei nos i h', ei])
                 | ((with_reducible refine And.intro ?_ ?_); focus omega))
                exact ⟨rfl, rfl⟩
            | some x =>
              obtain ⟨s, e⟩ := x
              rw [hx] at hg hgf
              simp only [bcdR] at hg
              simp only [Option.map_map] at hgf
              cases acc with
              | nil =>
                simp only [List.length_nil] at hla
                subst hla
                have h00 : (0 : Int) < nos.length := by omega
                simp only [seval, go_sem, h1, h', h00, parseW, getD_map ei nos 0 h', ei, wrap_succ 0 (by omega)]
                repeat' (first
                 | ((with_reducible_and_instances first | refine go_br (fun hc => ?_) (fun hc => ?_) | refine go_grd (fun hc => ?_) (fun hc => ?_) | refine go_dgrd (fun hc => ?_) (fun hc => ?_)) <;> (try simp only [decide_eq_true_eq, decide_eq_false_iff_not, Bool.not_eq_true', Bool.not_eq_false'] at hc) <;> simp only [seval, go_sem, hc, h1, h', h00, parseW, getD_map ei nos 0 h', ei, wrap_succ 0 (by omega)])
                 | ((with_reducible_and_instances first | refine go_use (hg) ?_); simp only [seval, go_sem, h1, h', h00, parseW, getD_map ei nos 0 h', ei, wrap_succ 0 (by omega)])
                 | ((with_reducible refine And.intro ?_ ?_); focus omega))
                refine ⟨(1, [⟨nos[0], s⟩], e), rfl, ⟨h', rfl, ?_⟩, by (try dsimp only); omega⟩
                rw [hgf]; congr 1
              | cons a r =>
                simp only [List.length_cons] at hla
                simp only [seval, go_sem, h1, h', parseW, getD_map ei nos i h', ei, wrap_succ i (by omega)]
                repeat' (first
                 | ((with_reducible_and_instances first | refine go_br (fun hc => ?_) (fun hc => ?_) | refine go_grd (fun hc => ?_) (fun hc => ?_) | refine go_dgrd (fun hc => ?_) (fun hc => ?_)) <;> (try simp only [decide_eq_true_eq, decide_eq_false_iff_not, Bool.not_eq_true', Bool.not_eq_false'] at hc) <;> simp only [seval, go_sem, hc, h1, h', parseW, getD_map ei nos i h', ei, wrap_succ i (by omega)])
                 | ((with_reducible_and_instances first | refine go_use (hg) ?_); simp only [seval, go_sem, h1, h', parseW, getD_map ei nos i h', ei, wrap_succ i (by omega)])
                 | ((with_reducible refine And.intro ?_ ?_); focus omega))
                refine ⟨(i + 1, a :: r ++ [⟨nos[i], s⟩], e), ?_, ⟨h', by simp; omega, ?_⟩, by (try dsimp only); omega⟩
                · simp only [List.cons_append, parseW, List.length_append, List.length_cons, List.length_nil, List.map_append, List.map_cons, List.map_nil]; rfl
                · rw [hgf]; congr 1; funext x; simp
          · have e : i = nos.length := by omega
            have ed : nos.drop i = [] := List.drop_of_length_le (by omega)
            rw [ed, getFields] at hgf
            simp only [Option.map_some, List.append_nil] at hgf
            rw [hgf]
            by_cases hend : at3 = bs.length
            · simp only [hend, if_true]
              cases acc with
              | nil =>
                simp only [seval, go_sem, h1, parseW, hend]
                repeat' (first
                 | ((with_reducible_and_instances first | refine go_br (fun hc => ?_) (fun hc => ?_) | refine go_grd (fun hc => ?_) (fun hc => ?_) | refine go_dgrd (fun hc => ?_) (fun hc => ?_)) <;> (try simp only [decide_eq_true_eq, decide_eq_false_iff_not, Bool.not_eq_true', Bool.not_eq_false'] at hc) <;> simp only [seval, go_sem, hc, h1, parseW, hend])
                 | ((with_reducible refine And.intro ?_ ?_); focus omega))
                exact ⟨rfl, rfl⟩
              | cons a r =>
                simp only [seval, go_sem, h1, parseW, hend]
                repeat' (first
                 | ((with_reducible_and_instances first | refine go_br (fun hc => ?_) (fun hc => ?_) | refine go_grd (fun hc => ?_) (fun hc => ?_) | refine go_dgrd (fun hc => ?_) (fun hc => ?_)) <;> (try simp only [decide_eq_true_eq, decide_eq_false_iff_not, Bool.not_eq_true', Bool.not_eq_false'] at hc) <;> simp only [seval, go_sem, hc, h1, parseW, hend])
                 | ((with_reducible refine And.intro ?_ ?_); focus omega))
                refine ⟨rfl, ?_⟩
                simp [R.wk, R.wks, O.wk, Msg.c, Field.p, List.take_of_length_le]
            · simp only [hend, if_false]
              cases acc with
              | nil =>
                simp only [seval, go_sem, h1, parseW, hend]
                repeat' (first
                 | ((with_reducible_and_instances first | refine go_br (fun hc => ?_) (fun hc => ?_) | refine go_grd (fun hc => ?_) (fun hc => ?_) | refine go_dgrd (fun hc => ?_) (fun hc => ?_)) <;> (try simp only [decide_eq_true_eq, decide_eq_false_iff_not, Bool.not_eq_true', Bool.not_eq_false'] at hc) <;> simp only [seval, go_sem, hc, h1, parseW, hend])
                 | ((with_reducible refine And.intro ?_ ?_); focus omega))
                exact ⟨rfl, rfl⟩
              | cons a r =>
                simp only [seval, go_sem, h1, parseW, hend]
                repeat' (first
                 | ((with_reducible_and_instances first | refine go_br (fun hc => ?_) (fun hc => ?_) | refine go_grd (fun hc => ?_) (fun hc => ?_) | refine go_dgrd (fun hc => ?_) (fun hc => ?_)) <;> (try simp only [decide_eq_true_eq, decide_eq_false_iff_not, Bool.not_eq_true', Bool.not_eq_false'] at hc) <;> simp only [seval, go_sem, hc, h1, parseW, hend])
                 | ((with_reducible refine And.intro ?_ ?_); focus omega))
                exact ⟨rfl, rfl⟩
end Go.AW
namespace Go.AW
open IntWalk
def rsTexts : List Str := [[48, 48], [51, 48], [49, 50], [49, 52], [49, 51], [50, 53], [57, 52], [53, 49], [54, 53], [54, 49], [57, 54]]
def rsText (code : Int) : Str := if 0 ≤ code ∧ code ≤ 10 then rsTexts.getD code.toNat [] else []
theorem irsTexts_ret : Ret PG f_impl_rsTexts [] (.o (.p (.sl 1 (rsTexts.map es)))) [] := by
  have h : Ret PG f_impl_rsTexts [] (.o (.own 1 (rsTexts.map es))) [] := by
    refine exact_of (p_impl_rsTexts rfl rfl ?_)
    simp only [seval, go_sem, i_impl_rsTexts]
    rfl
  exact h.wkO
theorem iRsText_ret (code : Int) : Ret PG f_impl_RsText [aI code] (oS (rsText code)) [] := by
  by_cases h : inr code 0 10
  · have h' : 0 ≤ code ∧ code ≤ 10 := h
    have e1 : code < rsTexts.length := by have : rsTexts.length = 11 := rfl; omega
    have e2 : (rsTexts.map es).getD code.toNat default = es (rsTexts.getD code.toNat []) := by
      rw [getD_map es rsTexts code.toNat (by omega)]; simp [show code.toNat < rsTexts.length by omega]
    have e3 : 0 ≤ code := h'.1
    have hr : rsText code = rsTexts.getD code.toNat [] := by unfold rsText; rw [if_pos h']
    rw [hr]
    have hx := irsTexts_ret
    generalize rsTexts = l at *
    refine exact_of (p_impl_RsText rfl rfl ?_)
    simp only [seval, go_sem, i_impl_RsText]
    repeat' (first
     | ((with_reducible_and_instances first | refine go_br (fun hc => ?_) (fun hc => ?_) | refine go_grd (fun hc => ?_) (fun hc => ?_) | refine go_dgrd (fun hc => ?_) (fun hc => ?_)) <;> (try simp only [decide_eq_true_eq, decide_eq_false_iff_not, Bool.not_eq_true', Bool.not_eq_false'] at hc) <;> simp only [seval, go_sem, hc, tf_true h, e1, e2, e3, es])
     | ((with_reducible_and_instances first | refine go_use (iwithin_ret _ _ _) ?_ | refine go_use (hx) ?_); simp only [seval, go_sem, tf_true h, e1, e2, e3, es]))
  · have hr : rsText code = [] := by unfold rsText; exact if_neg h
    rw [hr]
    refine exact_of (p_impl_RsText rfl rfl ?_)
    simp only [seval, go_sem, i_impl_RsText]
    repeat' (first
     | ((with_reducible_and_instances first | refine go_br (fun hc => ?_) (fun hc => ?_) | refine go_grd (fun hc => ?_) (fun hc => ?_) | refine go_dgrd (fun hc => ?_) (fun hc => ?_)) <;> (try simp only [decide_eq_true_eq, decide_eq_false_iff_not, Bool.not_eq_true', Bool.not_eq_false'] at hc) <;> simp only [seval, go_sem, hc, tf_false h])
     | ((with_reducible_and_instances first | refine go_use (iwithin_ret _ _ _) ?_); simp only [seval, go_sem, tf_false h]))
theorem indexStr_ret (l : List Str) (s : Str) (hl : l.length < 4294967296) : Ret PG f_slices_Index_string_string [.v (.sl 1 (l.map es)), aS s] (oI (idx (fun x => s = x) l)) [] := by
  refine exact_of (p_slices_Index_string_string rfl rfl ?_)
  simp only [seval, go_sem, i_slices_Index_string_string]
  refine go_lp (β := Nat) (fun i => [(8, .p (.int .i64 i))]) (fun _ => []) (fun i => i ≤ l.length ∧ ∀ x ∈ l.take i, ¬ (s = x)) (fun i => l.length - i) 0 ?_ ?_ ?_
  · rfl
  · simp
  · rintro i ⟨hi, hd⟩
    by_cases h : (i : Int) < l.length
    · have h' : i < l.length := by omega
      simp only [seval, go_sem, h, getD_map es l i h', es, wrap_succ i (by omega)]
      repeat' (first
       | ((with_reducible_and_instances first | refine go_br (fun hc => ?_) (fun hc => ?_) | refine go_grd (fun hc => ?_) (fun hc => ?_) | refine go_dgrd (fun hc => ?_) (fun hc => ?_)) <;> (try simp only [decide_eq_true_eq, decide_eq_false_iff_not, Bool.not_eq_true', Bool.not_eq_false'] at hc) <;> simp only [seval, go_sem, hc, h, getD_map es l i h', es, wrap_succ i (by omega)]))
      · have := idx_at (p := fun x => s = x) h' hd hc
        rw [← hc, this]
      · exact ⟨i + 1, rfl, ⟨h', take_all h' hd hc⟩, by (try dsimp only); omega⟩
    · simp only [seval, go_sem, h]
      rw [idx_none (all_of_take h hd)]
noncomputable def textRs (s : Str) : Int := idx (fun x => s = x) rsTexts
theorem iTextRs_ret (s : Str) : Ret PG f_impl_TextRs [aS s] (.tup [oI (if 0 > textRs s then 0 else textRs s), oB (tf (0 ≤ textRs s))]) [] := by
  have hx := irsTexts_ret
  have hy := indexStr_ret rsTexts s (by decide)
  have ht : textRs s = idx (fun x => s = x) rsTexts := rfl
  rw [ht]
  generalize rsTexts = l at *
  refine exact_of (p_impl_TextRs rfl rfl ?_)
  simp only [seval, go_sem, i_impl_TextRs]
  repeat' (first
   | ((with_reducible_and_instances first | refine go_br (fun hc => ?_) (fun hc => ?_) | refine go_grd (fun hc => ?_) (fun hc => ?_) | refine go_dgrd (fun hc => ?_) (fun hc => ?_)) <;> (try simp only [decide_eq_true_eq, decide_eq_false_iff_not, Bool.not_eq_true', Bool.not_eq_false'] at hc) <;> simp only [seval, go_sem, hc])
   | ((with_reducible_and_instances first | refine go_use (hx) ?_ | refine go_use (hy) ?_); simp only [seval, go_sem]))
  rw [tf_dec]
def mtiKnown (s : Str) : Prop := s = [48, 49, 48, 48] ∨ s = [48, 50, 48, 48] ∨ s = [48, 50, 50, 48]
theorem iMtiKnown_ret (s : Str) : Ret PG f_impl_MtiKnown [aS s] (oB (tf (mtiKnown s))) [] := by
  refine exact_of (p_impl_MtiKnown rfl rfl ?_)
  simp only [seval, go_sem, i_impl_MtiKnown]
  repeat' (first
   | ((with_reducible_and_instances first | refine go_br (fun hc => ?_) (fun hc => ?_) | refine go_grd (fun hc => ?_) (fun hc => ?_) | refine go_dgrd (fun hc => ?_) (fun hc => ?_)) <;> (try simp only [decide_eq_true_eq, decide_eq_false_iff_not, Bool.not_eq_true', Bool.not_eq_false'] at hc) <;> simp only [seval, go_sem, hc]))
  all_goals first
    | exact oB_t (by unfold mtiKnown; simp [hc])
    | exact oB_d (by unfold mtiKnown; grind)
def mtiOk (s : Str) : Prop := wide s 4 ∧ (s.getD 2 0).toNat % 2 = 0
noncomputable def replyMti (s : Str) : Str := if tf (mtiOk s) = true then s.take 2 ++ [UInt8.ofNat ((s.getD 2 0).toNat + 1)] ++ s.drop 3 else []
theorem utf_tab : ∀ k, k < 11 → (Utf8.encode (((48 + k : Nat) : Int))).data.toList = [UInt8.ofNat (48 + k)] := by decide
theorem iReplyMti_ret (s : Str) (hs : s.length < 4294967296) : Ret PG f_impl_ReplyMti [aS s] (oS (replyMti s)) [] := by
  by_cases hw : wide s 4
  · have hl := hw.2
    have h2 : 2 < s.length := by omega
    have hd := hw.1.2 _ (at_mem h2)
    unfold digit at hd
    have eg := getD_str s 2 h2
    have e1 : IntKind.u8.wrap ((s[2].toNat : Int) - 48) = ((s[2].toNat - 48 : Nat) : Int) := by rw [u8_in _ (by omega)]; omega
    have e2 : (((s[2].toNat - 48 : Nat) : Int)).tmod 2 = (((s[2].toNat - 48) % 2 : Nat) : Int) := rem_nat _ 2
    have e3 : (2 : Int) < s.length := by omega
    have e4 : (2 : Int).toNat = 2 := rfl
    by_cases hodd : (s[2].toNat - 48) % 2 = 1
    · have hm : ¬ mtiOk s := by unfold mtiOk; rw [eg]; omega
      rw [replyMti, tf_false hm]
      have e5 : (((s[2].toNat - 48) % 2 : Nat) : Int) = 1 := by omega
      refine exact_of (p_impl_ReplyMti rfl rfl ?_)
      simp only [seval, go_sem, i_impl_ReplyMti]
      repeat' (first
       | ((with_reducible_and_instances first | refine go_br (fun hc => ?_) (fun hc => ?_) | refine go_grd (fun hc => ?_) (fun hc => ?_) | refine go_dgrd (fun hc => ?_) (fun hc => ?_)) <;> (try simp only [decide_eq_true_eq, decide_eq_false_iff_not, Bool.not_eq_true', Bool.not_eq_false'] at hc) <;> simp only [seval, go_sem, hc, tf_true hw, e3, e4, eg, e1, e2, e5])
       | ((with_reducible_and_instances first | refine go_use (iisWide_ret s 4 hs) ?_); simp only [seval, go_sem, tf_true hw, e3, e4, eg, e1, e2, e5]))
    · have hm : mtiOk s := ⟨hw, by rw [eg]; omega⟩
      rw [replyMti, tf_true hm, if_pos rfl, eg]
      have e5 : ¬ (((s[2].toNat - 48) % 2 : Nat) : Int) = 1 := by omega
      obtain ⟨k, hk⟩ : ∃ k, s[2].toNat = 48 + k := ⟨s[2].toNat - 48, by omega⟩
      have e6 : IntKind.i32.wrap (IntKind.u8.wrap ((s[2].toNat : Int) + 1)) = ((48 + (k + 1) : Nat) : Int) := by rw [u8_in _ (by omega), i32_in _ (by omega)]; omega
      have e7 := utf_tab (k + 1) (by omega)
      have e8 : (2 : Int) ≤ s.length := by omega
      have e9 : (3 : Int) ≤ s.length := by omega
      have e10 : (3 : Int).toNat = 3 := rfl
      refine exact_of (p_impl_ReplyMti rfl rfl ?_)
      simp only [seval, go_sem, i_impl_ReplyMti]
      repeat' (first
       | ((with_reducible_and_instances first | refine go_br (fun hc => ?_) (fun hc => ?_) | refine go_grd (fun hc => ?_) (fun hc => ?_) | refine go_dgrd (fun hc => ?_) (fun hc => ?_)) <;> (try simp only [decide_eq_true_eq, decide_eq_false_iff_not, Bool.not_eq_true', Bool.not_eq_false'] at hc) <;> simp only [seval, go_sem, hc, tf_true hw, e3, e4, eg, e1, e2, e5, e6, e7, e8, e9, e10])
       | ((with_reducible_and_instances first | refine go_use (iisWide_ret s 4 hs) ?_); simp only [seval, go_sem, tf_true hw, e3, e4, eg, e1, e2, e5, e6, e7, e8, e9, e10])
       | ((with_reducible refine And.intro ?_ ?_); focus omega))
      refine ⟨by rw [List.length_take]; omega, by rw [List.length_take, List.length_drop]; omega, ?_⟩
      rw [hk, Nat.add_assoc]
  · have hm : ¬ mtiOk s := fun g => hw g.1
    rw [replyMti, tf_false hm]
    refine exact_of (p_impl_ReplyMti rfl rfl ?_)
    simp only [seval, go_sem, i_impl_ReplyMti]
    repeat' (first
     | ((with_reducible_and_instances first | refine go_br (fun hc => ?_) (fun hc => ?_) | refine go_grd (fun hc => ?_) (fun hc => ?_) | refine go_dgrd (fun hc => ?_) (fun hc => ?_)) <;> (try simp only [decide_eq_true_eq, decide_eq_false_iff_not, Bool.not_eq_true', Bool.not_eq_false'] at hc) <;> simp only [seval, go_sem, hc, tf_false hw])
     | ((with_reducible_and_instances first | refine go_use (iisWide_ret s 4 hs) ?_); simp only [seval, go_sem, tf_false hw]))
def nos13 : List Int := [2, 3, 4, 7, 11, 37, 38, 39, 41, 49, 54, 102, 103]
noncomputable def repStep (m : Msg) (code : Int) (hold told : Str) (acc : List Field) (no : Int) : List Field :=
  if no = 38 then (if code = 0 ∧ hold ≠ [] then acc ++ [⟨38, fieldFit 38 hold⟩] else acc)
  else if no = 39 then acc ++ [⟨39, rsText code⟩]
  else if no = 54 then (if told ≠ [] then acc ++ [⟨54, told⟩] else acc)
  else match msgField m no with
    | some s => acc ++ [⟨no, s⟩]
    | none => acc
noncomputable def repList (m : Msg) (code : Int) (hold told : Str) : List Field := nos13.foldl (repStep m code hold told) []
theorem iReply1_nil (no : Int) (s mti : Str) : Ret PG f_impl_Reply_1 [aI no, aS s, .box [.p (.str mti), .p (.z 2)]] (.tup []) [[.p (.str mti), .own 2 ([(⟨no, s⟩ : Field)].map Field.p)]] := by
  refine exact_of (p_impl_Reply_1 rfl rfl ?_)
  simp only [seval, go_sem, i_impl_Reply_1]
  rfl
theorem iReply1_cons (no : Int) (s mti : Str) (l : List Field) (hl : l.length < 1000) : Ret PG f_impl_Reply_1 [aI no, aS s, .box [.p (.str mti), .own 2 (l.map Field.p)]] (.tup []) [[.p (.str mti), .own 2 ((l ++ [(⟨no, s⟩ : Field)]).map Field.p)]] := by
  refine exact_of (p_impl_Reply_1 rfl rfl ?_)
  simp only [seval, go_sem, i_impl_Reply_1]
  refine ⟨by omega, ?_⟩
  rw [List.take_of_length_le (by simp), List.map_append]; rfl
theorem repStep_len (m : Msg) (code : Int) (hold told : Str) (acc : List Field) (no : Int) : (repStep m code hold told acc no).length ≤ acc.length + 1 := by
  unfold repStep
  split
  · split <;> simp
  · split
    · simp
    · split
      · split <;> simp
      · split <;> simp
theorem repFold_len (m : Msg) (code : Int) (hold told : Str) (l : List Int) (i : Nat) : ((l.take i).foldl (repStep m code hold told) []).length ≤ i := by
  have key : ∀ (l : List Int) (acc : List Field), (l.foldl (repStep m code hold told) acc).length ≤ acc.length + l.length := by
    intro l
    induction l with
    | nil => intro acc; simp
    | cons x l ih =>
      intro acc
      have h1 := ih (repStep m code hold told acc x)
      have h2 := repStep_len m code hold told acc x
      rw [List.foldl_cons, List.length_cons]; omega
  have := key (l.take i) []
  rw [List.length_take] at this
  simp only [List.length_nil] at this; omega
theorem strR_eq (x : Option Str) : strR x = .tup [oS (x.getD []), oB x.isSome] := by cases x <;> rfl
def repW (mti : Str) : List Field → List (Nat × Nat × Blk)
  | [] => []
  | a :: r => [(10, 0, .box [.p (.str mti), .sl 1641 r.length 0 (r.length + 1)] false), (1641, r.length, .arr 2 ((a :: r).map Field.p) false)]
theorem iReply_ret (m : Msg) (code : Int) (hold told : Str) (f : MFit m) (h1 : msgOk m) (h2 : mtiOk m.mti) (h3 : 0 ≤ code ∧ code ≤ 10) (h4 : hold.length < 1000000) (h5 : msgOk ⟨replyMti m.mti, repList m code hold told⟩) (f2 : MFit ⟨replyMti m.mti, repList m code hold told⟩) :
    Ret PG f_impl_Reply [.v m.p, aI code, aS hold, aS told] (.tup [rR (Msg.c ⟨replyMti m.mti, repList m code hold told⟩), oB true]) [] := by
  refine wk_of ?_
  have hmo := iMsgOk_ret m f
  rw [tf_true h1] at hmo
  have hrm := iReplyMti_ret m.mti f.mti
  have hrs := iRsText_ret code
  have hne1 : ¬ replyMti m.mti = [] := by unfold replyMti; rw [tf_true h2]; simp
  have hne2 : ¬ rsText code = [] := by
    have : ∀ k, k < 11 → ¬ rsTexts.getD k [] = [] := by decide
    unfold rsText; rw [if_pos h3]; exact this _ (by omega)
  have hfo := fun no => iFieldOf_ret m no f.len
  have hmd : Msg.p m = .agg [.str m.mti, .sl 2 (m.list.map Field.p)] := rfl
  rw [hmd] at hmo
  rw [hmd]
  simp only [hmd] at hfo
  refine p_impl_Reply rfl rfl ?_
  simp only [seval, go_sem, i_impl_Reply]
  repeat' (first
   | ((with_reducible_and_instances first | refine go_br (fun hc => ?_) (fun hc => ?_) | refine go_grd (fun hc => ?_) (fun hc => ?_) | refine go_dgrd (fun hc => ?_) (fun hc => ?_)) <;> (try simp only [decide_eq_true_eq, decide_eq_false_iff_not, Bool.not_eq_true', Bool.not_eq_false'] at hc) <;> simp only [seval, go_sem, hc, hne1, hne2])
   | ((with_reducible_and_instances first | refine go_use (hmo) ?_ | refine go_use (hrm) ?_ | refine go_use (hrs) ?_); simp only [seval, go_sem, hne1, hne2]))
  have hff := iFieldFit_ret 38 hold h4
  have hlen13 : nos13.length = 13 := rfl
  have hrl : repList m code hold told = nos13.foldl (repStep m code hold told) [] := rfl
  refine go_lp (β := Nat) (fun i => [(38, .p (.int .i64 i))]) (fun i => (36, 0, .arr 1 (nos13.map ei) false) :: repW (replyMti m.mti) ((nos13.take i).foldl (repStep m code hold told) [])) (fun i => i ≤ nos13.length) (fun i => nos13.length - i) 0 ?_ ?_ ?_
  · rfl
  · simp
  · intro i hi
    have hal := repFold_len m code hold told nos13 i
    by_cases h : (i : Int) < 13
    · have h' : i < nos13.length := by omega
      have hst : (nos13.take (i + 1)).foldl (repStep m code hold told) [] = repStep m code hold told ((nos13.take i).foldl (repStep m code hold told) []) nos13[i] := foldl_take _ _ nos13 i h'
      have hgd := getD_map ei nos13 i h'
      simp only [ei] at hgd
      generalize (nos13.take i).foldl (repStep m code hold told) [] = acc at *
      generalize nos13[i] = no at *
      generalize nos13 = l at *
      have hfq := hfo no
      rw [strR_eq] at hfq
      by_cases k38 : no = 38
      · subst k38
        by_cases hc0 : code = 0
        · subst hc0
          by_cases hh : hold = []
          · subst hh
            have hr0 : repStep m 0 [] told acc 38 = acc := by simp [repStep]
            cases acc with
            | nil =>
              simp only [seval, go_sem, h, h', hgd, repW, wrap_succ i (by omega)]
              repeat' (first
               | ((with_reducible_and_instances first | refine go_br (fun hc => ?_) (fun hc => ?_) | refine go_grd (fun hc => ?_) (fun hc => ?_) | refine go_dgrd (fun hc => ?_) (fun hc => ?_)) <;> (try simp only [decide_eq_true_eq, decide_eq_false_iff_not, Bool.not_eq_true', Bool.not_eq_false'] at hc) <;> simp only [seval, go_sem, hc, h, h', hgd, repW, wrap_succ i (by omega)])
               | ((with_reducible_and_instances first | refine go_use (hfq) ?_); simp only [seval, go_sem, h, h', hgd, repW, wrap_succ i (by omega)])
               | ((with_reducible refine And.intro ?_ ?_); focus omega))
              exact ⟨i + 1, by rw [hst, hr0]; rfl, h', by (try dsimp only); omega⟩
            | cons a r =>
              simp only [seval, go_sem, h, h', hgd, repW, wrap_succ i (by omega)]
              repeat' (first
               | ((with_reducible_and_instances first | refine go_br (fun hc => ?_) (fun hc => ?_) | refine go_grd (fun hc => ?_) (fun hc => ?_) | refine go_dgrd (fun hc => ?_) (fun hc => ?_)) <;> (try simp only [decide_eq_true_eq, decide_eq_false_iff_not, Bool.not_eq_true', Bool.not_eq_false'] at hc) <;> simp only [seval, go_sem, hc, h, h', hgd, repW, wrap_succ i (by omega)])
               | ((with_reducible_and_instances first | refine go_use (hfq) ?_); simp only [seval, go_sem, h, h', hgd, repW, wrap_succ i (by omega)])
               | ((with_reducible refine And.intro ?_ ?_); focus omega))
              exact ⟨i + 1, by rw [hst, hr0]; rfl, h', by (try dsimp only); omega⟩
          · have hr0 : repStep m 0 hold told acc 38 = acc ++ [⟨38, fieldFit 38 hold⟩] := by simp [repStep, hh]
            cases acc with
            | nil =>
              have hp := iReply1_nil 38 (fieldFit 38 hold) (replyMti m.mti)
              simp only [List.map_cons, List.map_nil, Field.p] at hp
              simp only [seval, go_sem, h, h', hgd, repW, hh, wrap_succ i (by omega), List.map_nil]
              repeat' (first
               | ((with_reducible_and_instances first | refine go_br (fun hc => ?_) (fun hc => ?_) | refine go_grd (fun hc => ?_) (fun hc => ?_) | refine go_dgrd (fun hc => ?_) (fun hc => ?_)) <;> (try simp only [decide_eq_true_eq, decide_eq_false_iff_not, Bool.not_eq_true', Bool.not_eq_false'] at hc) <;> simp only [seval, go_sem, hc, h, h', hgd, repW, hh, wrap_succ i (by omega), List.map_nil])
               | ((with_reducible_and_instances first | refine go_use (hfq) ?_ | refine go_use (hff) ?_ | refine go_use (hp) ?_); simp only [seval, go_sem, h, h', hgd, repW, hh, wrap_succ i (by omega), List.map_nil])
               | ((with_reducible refine And.intro ?_ ?_); focus omega))
              exact ⟨i + 1, by rw [hst, hr0]; rfl, h', by (try dsimp only); omega⟩
            | cons a r =>
              simp only [List.length_cons] at hal
              have hp := iReply1_cons 38 (fieldFit 38 hold) (replyMti m.mti) (a :: r) (by simp only [List.length_cons]; omega)
              simp only [List.map_cons] at hp
              simp only [seval, go_sem, h, h', hgd, repW, hh, wrap_succ i (by omega)]
              repeat' (first
               | ((with_reducible_and_instances first | refine go_br (fun hc => ?_) (fun hc => ?_) | refine go_grd (fun hc => ?_) (fun hc => ?_) | refine go_dgrd (fun hc => ?_) (fun hc => ?_)) <;> (try simp only [decide_eq_true_eq, decide_eq_false_iff_not, Bool.not_eq_true', Bool.not_eq_false'] at hc) <;> simp only [seval, go_sem, hc, h, h', hgd, repW, hh, wrap_succ i (by omega)])
               | ((with_reducible_and_instances first | refine go_use (hfq) ?_ | refine go_use (hff) ?_ | refine go_use (hp) ?_); simp only [seval, go_sem, h, h', hgd, repW, hh, wrap_succ i (by omega)])
               | ((with_reducible refine And.intro ?_ ?_); focus omega))
              refine ⟨i + 1, ?_, h', by (try dsimp only); omega⟩
              rw [hst, hr0]
              simp only [List.cons_append, repW, List.length_append, List.length_cons, List.length_nil, List.map_append, List.map_cons, List.map_nil]; rfl
        · have hr0 : repStep m code hold told acc 38 = acc := by simp [repStep, hc0]
          cases acc with
          | nil =>
            simp only [seval, go_sem, h, h', hgd, repW, hc0, wrap_succ i (by omega)]
            repeat' (first
             | ((with_reducible_and_instances first | refine go_br (fun hc => ?_) (fun hc => ?_) | refine go_grd (fun hc => ?_) (fun hc => ?_) | refine go_dgrd (fun hc => ?_) (fun hc => ?_)) <;> (try simp only [decide_eq_true_eq, decide_eq_false_iff_not, Bool.not_eq_true', Bool.not_eq_false'] at hc) <;> simp only [seval, go_sem, hc, h, h', hgd, repW, hc0, wrap_succ i (by omega)])
             | ((with_reducible_and_instances first | refine go_use (hfq) ?_); simp only [seval, go_sem, h, h', hgd, repW, hc0, wrap_succ i (by omega)])
             | ((with_reducible refine And.intro ?_ ?_); focus omega))
            exact ⟨i + 1, by rw [hst, hr0]; rfl, h', by (try dsimp only); omega⟩
          | cons a r =>
            simp only [seval, go_sem, h, h', hgd, repW, hc0, wrap_succ i (by omega)]
            repeat' (first
             | ((with_reducible_and_instances first | refine go_br (fun hc => ?_) (fun hc => ?_) | refine go_grd (fun hc => ?_) (fun hc => ?_) | refine go_dgrd (fun hc => ?_) (fun hc => ?_)) <;> (try simp only [decide_eq_true_eq, decide_eq_false_iff_not, Bool.not_eq_true', Bool.not_eq_false'] at hc) <;> simp only [seval, go_sem, hc, h, h', hgd, repW, hc0, wrap_succ i (by omega)])
             | ((with_reducible_and_instances first | refine go_use (hfq) ?_); simp only [seval, go_sem, h, h', hgd, repW, hc0, wrap_succ i (by omega)])
             | ((with_reducible refine And.intro ?_ ?_); focus omega))
            exact ⟨i + 1, by rw [hst, hr0]; rfl, h', by (try dsimp only); omega⟩
      · by_cases k39 : no = 39
        · subst k39
          have hr0 : repStep m code hold told acc 39 = acc ++ [⟨39, rsText code⟩] := by simp [repStep]
          cases acc with
          | nil =>
            have hp := iReply1_nil 39 (rsText code) (replyMti m.mti)
            simp only [List.map_cons, List.map_nil, Field.p] at hp
            simp only [seval, go_sem, h, h', hgd, repW, k38, wrap_succ i (by omega), List.map_nil]
            repeat' (first
             | ((with_reducible_and_instances first | refine go_br (fun hc => ?_) (fun hc => ?_) | refine go_grd (fun hc => ?_) (fun hc => ?_) | refine go_dgrd (fun hc => ?_) (fun hc => ?_)) <;> (try simp only [decide_eq_true_eq, decide_eq_false_iff_not, Bool.not_eq_true', Bool.not_eq_false'] at hc) <;> simp only [seval, go_sem, hc, h, h', hgd, repW, k38, wrap_succ i (by omega), List.map_nil])
             | ((with_reducible_and_instances first | refine go_use (hfq) ?_ | refine go_use (hrs) ?_ | refine go_use (hp) ?_); simp only [seval, go_sem, h, h', hgd, repW, k38, wrap_succ i (by omega), List.map_nil])
             | ((with_reducible refine And.intro ?_ ?_); focus omega))
            exact ⟨i + 1, by rw [hst, hr0]; rfl, h', by (try dsimp only); omega⟩
          | cons a r =>
            simp only [List.length_cons] at hal
            have hp := iReply1_cons 39 (rsText code) (replyMti m.mti) (a :: r) (by simp only [List.length_cons]; omega)
            simp only [List.map_cons] at hp
            simp only [seval, go_sem, h, h', hgd, repW, k38, wrap_succ i (by omega)]
            repeat' (first
             | ((with_reducible_and_instances first | refine go_br (fun hc => ?_) (fun hc => ?_) | refine go_grd (fun hc => ?_) (fun hc => ?_) | refine go_dgrd (fun hc => ?_) (fun hc => ?_)) <;> (try simp only [decide_eq_true_eq, decide_eq_false_iff_not, Bool.not_eq_true', Bool.not_eq_false'] at hc) <;> simp only [seval, go_sem, hc, h, h', hgd, repW, k38, wrap_succ i (by omega)])
             | ((with_reducible_and_instances first | refine go_use (hfq) ?_ | refine go_use (hrs) ?_ | refine go_use (hp) ?_); simp only [seval, go_sem, h, h', hgd, repW, k38, wrap_succ i (by omega)])
             | ((with_reducible refine And.intro ?_ ?_); focus omega))
            refine ⟨i + 1, ?_, h', by (try dsimp only); omega⟩
            rw [hst, hr0]
            simp only [List.cons_append, repW, List.length_append, List.length_cons, List.length_nil, List.map_append, List.map_cons, List.map_nil]; rfl
        · by_cases k54 : no = 54
          · subst k54
            by_cases hh : told = []
            · subst hh
              have hr0 : repStep m code hold [] acc 54 = acc := by simp [repStep]
              cases acc with
              | nil =>
                simp only [seval, go_sem, h, h', hgd, repW, k38, k39, wrap_succ i (by omega)]
                repeat' (first
                 | ((with_reducible_and_instances first | refine go_br (fun hc => ?_) (fun hc => ?_) | refine go_grd (fun hc => ?_) (fun hc => ?_) | refine go_dgrd (fun hc => ?_) (fun hc => ?_)) <;> (try simp only [decide_eq_true_eq, decide_eq_false_iff_not, Bool.not_eq_true', Bool.not_eq_false'] at hc) <;> simp only [seval, go_sem, hc, h, h', hgd, repW, k38, k39, wrap_succ i (by omega)])
                 | ((with_reducible_and_instances first | refine go_use (hfq) ?_); simp only [seval, go_sem, h, h', hgd, repW, k38, k39, wrap_succ i (by omega)])
                 | ((with_reducible refine And.intro ?_ ?_); focus omega))
                exact ⟨i + 1, by rw [hst, hr0]; rfl, h', by (try dsimp only); omega⟩
              | cons a r =>
                simp only [seval, go_sem, h, h', hgd, repW, k38, k39, wrap_succ i (by omega)]
                repeat' (first
                 | ((with_reducible_and_instances first | refine go_br (fun hc => ?_) (fun hc => ?_) | refine go_grd (fun hc => ?_) (fun hc => ?_) | refine go_dgrd (fun hc => ?_) (fun hc => ?_)) <;> (try simp only [decide_eq_true_eq, decide_eq_false_iff_not, Bool.not_eq_true', Bool.not_eq_false'] at hc) <;> simp only [seval, go_sem, hc, h, h', hgd, repW, k38, k39, wrap_succ i (by omega)])
                 | ((with_reducible_and_instances first | refine go_use (hfq) ?_); simp only [seval, go_sem, h, h', hgd, repW, k38, k39, wrap_succ i (by omega)])
                 | ((with_reducible refine And.intro ?_ ?_); focus omega))
                exact ⟨i + 1, by rw [hst, hr0]; rfl, h', by (try dsimp only); omega⟩
            · have hr0 : repStep m code hold told acc 54 = acc ++ [⟨54, told⟩] := by simp [repStep, hh]
              cases acc with
              | nil =>
                have hp := iReply1_nil 54 told (replyMti m.mti)
                simp only [List.map_cons, List.map_nil, Field.p] at hp
                simp only [seval, go_sem, h, h', hgd, repW, k38, k39, hh, wrap_succ i (by omega), List.map_nil]
                repeat' (first
                 | ((with_reducible_and_instances first | refine go_br (fun hc => ?_) (fun hc => ?_) | refine go_grd (fun hc => ?_) (fun hc => ?_) | refine go_dgrd (fun hc => ?_) (fun hc => ?_)) <;> (try simp only [decide_eq_true_eq, decide_eq_false_iff_not, Bool.not_eq_true', Bool.not_eq_false'] at hc) <;> simp only [seval, go_sem, hc, h, h', hgd, repW, k38, k39, hh, wrap_succ i (by omega), List.map_nil])
                 | ((with_reducible_and_instances first | refine go_use (hfq) ?_ | refine go_use (hp) ?_); simp only [seval, go_sem, h, h', hgd, repW, k38, k39, hh, wrap_succ i (by omega), List.map_nil])
                 | ((with_reducible refine And.intro ?_ ?_); focus omega))
                exact ⟨i + 1, by rw [hst, hr0]; rfl, h', by (try dsimp only); omega⟩
              | cons a r =>
                simp only [List.length_cons] at hal
                have hp := iReply1_cons 54 told (replyMti m.mti) (a :: r) (by simp only [List.length_cons]; omega)
                simp only [List.map_cons] at hp
                simp only [seval, go_sem, h, h', hgd, repW, k38, k39, hh, wrap_succ i (by omega)]
                repeat' (first
                 | ((with_reducible_and_instances first | refine go_br (fun hc => ?_) (fun hc => ?_) | refine go_grd (fun hc => ?_) (fun hc => ?_) | refine go_dgrd (fun hc => ?_) (fun hc => ?_)) <;> (try simp only [decide_eq_true_eq, decide_eq_false_iff_not, Bool.not_eq_true', Bool.not_eq_false'] at hc) <;> simp only [seval, go_sem, hc, h, h', hgd, repW, k38, k39, hh, wrap_succ i (by omega)])
                 | ((with_reducible_and_instances first | refine go_use (hfq) ?_ | refine go_use (hp) ?_); simp only [seval, go_sem, h, h', hgd, repW, k38, k39, hh, wrap_succ i (by omega)])
                 | ((with_reducible refine And.intro ?_ ?_); focus omega))
                refine ⟨i + 1, ?_, h', by (try dsimp only); omega⟩
                rw [hst, hr0]
                simp only [List.cons_append, repW, List.length_append, List.length_cons, List.length_nil, List.map_append, List.map_cons, List.map_nil]; rfl
          · cases hm : msgField m no with
            | none =>
              have hr0 : repStep m code hold told acc no = acc := by simp [repStep, k38, k39, k54, hm]
              rw [hm] at hfq
              simp only [Option.getD_none, Option.isSome_none] at hfq
              cases acc with
              | nil =>
                simp only [seval, go_sem, h, h', hgd, repW, k38, k39, k54, wrap_succ i (by omega)]
                repeat' (first
                 | ((with_reducible_and_instances first | refine go_br (fun hc => ?_) (fun hc => ?_) | refine go_grd (fun hc => ?_) (fun hc => ?_) | refine go_dgrd (fun hc => ?_) (fun hc => ?_)) <;> (try simp only [decide_eq_true_eq, decide_eq_false_iff_not, Bool.not_eq_true', Bool.not_eq_false'] at hc) <;> simp only [seval, go_sem, hc, h, h', hgd, repW, k38, k39, k54, wrap_succ i (by omega)])
                 | ((with_reducible_and_instances first | refine go_use (hfq) ?_); simp only [seval, go_sem, h, h', hgd, repW, k38, k39, k54, wrap_succ i (by omega)])
                 | ((with_reducible refine And.intro ?_ ?_); focus omega))
                exact ⟨i + 1, by rw [hst, hr0]; rfl, h', by (try dsimp only); omega⟩
              | cons a r =>
                simp only [seval, go_sem, h, h', hgd, repW, k38, k39, k54, wrap_succ i (by omega)]
                repeat' (first
                 | ((with_reducible_and_instances first | refine go_br (fun hc => ?_) (fun hc => ?_) | refine go_grd (fun hc => ?_) (fun hc => ?_) | refine go_dgrd (fun hc => ?_) (fun hc => ?_)) <;> (try simp only [decide_eq_true_eq, decide_eq_false_iff_not, Bool.not_eq_true', Bool.not_eq_false'] at hc) <;> simp only [seval, go_sem, hc, h, h', hgd, repW, k38, k39, k54, wrap_succ i (by omega)])
                 | ((with_reducible_and_instances first | refine go_use (hfq) ?_); simp only [seval, go_sem, h, h', hgd, repW, k38, k39, k54, wrap_succ i (by omega)])
                 | ((with_reducible refine And.intro ?_ ?_); focus omega))
                exact ⟨i + 1, by rw [hst, hr0]; rfl, h', by (try dsimp only); omega⟩
            | some s =>
              have hr0 : repStep m code hold told acc no = acc ++ [⟨no, s⟩] := by simp [repStep, k38, k39, k54, hm]
              rw [hm] at hfq
              simp only [Option.getD_some, Option.isSome_some] at hfq
              cases acc with
              | nil =>
                have hp := iReply1_nil no s (replyMti m.mti)
                simp only [List.map_cons, List.map_nil, Field.p] at hp
                simp only [seval, go_sem, h, h', hgd, repW, k38, k39, k54, wrap_succ i (by omega), List.map_nil]
                repeat' (first
                 | ((with_reducible_and_instances first | refine go_br (fun hc => ?_) (fun hc => ?_) | refine go_grd (fun hc => ?_) (fun hc => ?_) | refine go_dgrd (fun hc => ?_) (fun hc => ?_)) <;> (try simp only [decide_eq_true_eq, decide_eq_false_iff_not, Bool.not_eq_true', Bool.not_eq_false'] at hc) <;> simp only [seval, go_sem, hc, h, h', hgd, repW, k38, k39, k54, wrap_succ i (by omega), List.map_nil])
                 | ((with_reducible_and_instances first | refine go_use (hfq) ?_ | refine go_use (hp) ?_); simp only [seval, go_sem, h, h', hgd, repW, k38, k39, k54, wrap_succ i (by omega), List.map_nil])
                 | ((with_reducible refine And.intro ?_ ?_); focus omega))
                exact ⟨i + 1, by rw [hst, hr0]; rfl, h', by (try dsimp only); omega⟩
              | cons a r =>
                simp only [List.length_cons] at hal
                have hp := iReply1_cons no s (replyMti m.mti) (a :: r) (by simp only [List.length_cons]; omega)
                simp only [List.map_cons] at hp
                simp only [seval, go_sem, h, h', hgd, repW, k38, k39, k54, wrap_succ i (by omega)]
                repeat' (first
                 | ((with_reducible_and_instances first | refine go_br (fun hc => ?_) (fun hc => ?_) | refine go_grd (fun hc => ?_) (fun hc => ?_) | refine go_dgrd (fun hc => ?_) (fun hc => ?_)) <;> (try simp only [decide_eq_true_eq, decide_eq_false_iff_not, Bool.not_eq_true', Bool.not_eq_false'] at hc) <;> simp only [seval, go_sem, hc, h, h', hgd, repW, k38, k39, k54, wrap_succ i (by omega)])
                 | ((with_reducible_and_instances first | refine go_use (hfq) ?_ | refine go_use (hp) ?_); simp only [seval, go_sem, h, h', hgd, repW, k38, k39, k54, wrap_succ i (by omega)])
                 | ((with_reducible refine And.intro ?_ ?_); focus omega))
                refine ⟨i + 1, ?_, h', by (try dsimp only); omega⟩
                rw [hst, hr0]
                simp only [List.cons_append, repW, List.length_append, List.length_cons, List.length_nil, List.map_append, List.map_cons, List.map_nil]; rfl
    · have e : nos13.take i = nos13 := List.take_of_length_le (by omega)
      rw [e, ← hrl]
      have hm2 := iMsgOk_ret ⟨replyMti m.mti, repList m code hold told⟩ f2
      rw [tf_true h5] at hm2
      generalize repList m code hold told = out at *
      cases out with
      | nil =>
        simp only [Msg.p, Msg.c, List.map_nil] at hm2
        simp only [seval, go_sem, h, repW]
        repeat' (first
         | ((with_reducible_and_instances first | refine go_br (fun hc => ?_) (fun hc => ?_) | refine go_grd (fun hc => ?_) (fun hc => ?_) | refine go_dgrd (fun hc => ?_) (fun hc => ?_)) <;> (try simp only [decide_eq_true_eq, decide_eq_false_iff_not, Bool.not_eq_true', Bool.not_eq_false'] at hc) <;> simp only [seval, go_sem, hc, h, repW])
         | ((with_reducible_and_instances first | refine go_use (hm2) ?_); simp only [seval, go_sem, h, repW])
         | ((with_reducible refine And.intro ?_ ?_); focus omega))
        exact ⟨rfl, rfl⟩
      | cons a r =>
        simp only [Msg.p, Msg.c, List.map_cons] at hm2
        simp only [seval, go_sem, h, repW]
        repeat' (first
         | ((with_reducible_and_instances first | refine go_br (fun hc => ?_) (fun hc => ?_) | refine go_grd (fun hc => ?_) (fun hc => ?_) | refine go_dgrd (fun hc => ?_) (fun hc => ?_)) <;> (try simp only [decide_eq_true_eq, decide_eq_false_iff_not, Bool.not_eq_true', Bool.not_eq_false'] at hc) <;> simp only [seval, go_sem, hc, h, repW])
         | ((with_reducible_and_instances first | refine go_use (hm2) ?_); simp only [seval, go_sem, h, repW])
         | ((with_reducible refine And.intro ?_ ?_); focus omega))
        refine ⟨rfl, ?_⟩
        simp [R.wk, R.wks, O.wk, Msg.c, List.take_of_length_le]
end Go.AW
namespace Go.AW
open IntWalk
structure OpRow where
  mti : Str
  code : Str
  name : Str
  fields : List Int
def OpRow.c (r : OpRow) : List P := [.str r.mti, .str r.code, .str r.name, .sl 1 (r.fields.map ei)]
def OpRow.p (r : OpRow) : P := .agg r.c
def opRows : List OpRow := [⟨[48, 49, 48, 48], [48, 48], [97, 117, 116, 104], [4, 14, 38]⟩, ⟨[48, 49, 48, 48], [48, 50], [109, 111, 114, 101], [4, 38]⟩, ⟨[48, 50, 50, 48], [48, 49], [112, 97, 114, 116], [4, 38]⟩,
  ⟨[48, 50, 50, 48], [48, 48], [102, 105, 110, 97, 108], [4, 38]⟩, ⟨[48, 50, 50, 48], [50, 48], [102, 114, 101, 101], [38]⟩, ⟨[48, 50, 48, 48], [52, 48], [109, 111, 118, 101], [38, 103]⟩, ⟨[48, 49, 48, 48], [51, 49], [97, 115, 107], []⟩, ⟨[48, 50, 48, 48], [57, 48], [115, 119, 101, 101, 112], []⟩]
def noRow : OpRow := ⟨[], [], [], []⟩
def opOf (op : Int) : OpRow := if 1 ≤ op ∧ op ≤ 8 then opRows.getD (op - 1).toNat noRow else noRow
theorem iopRows_ret : Ret PG f_impl_opRows [] (.o (.p (.sl 4 (opRows.map OpRow.p)))) [] := by
  have h : Ret PG f_impl_opRows [] (.o (.own 4 (opRows.map OpRow.p))) [] := by
    refine exact_of (p_impl_opRows rfl rfl ?_)
    simp only [seval, go_sem, i_impl_opRows]
    rfl
  exact h.wkO
theorem iopOf_ret (op : Int) : Ret PG f_impl_opOf [aI op] (rR (opOf op).c) [] := by
  refine wk_of ?_
  by_cases h : inr op 1 8
  · have h' : 1 ≤ op ∧ op ≤ 8 := h
    have e0 : IntKind.i64.wrap (op - 1) = op - 1 := i64_in _ (by omega)
    have e1 : op - 1 < opRows.length := by have : opRows.length = 8 := rfl; omega
    have e2 : (opRows.map OpRow.p).getD (op - 1).toNat default = OpRow.p (opRows.getD (op - 1).toNat noRow) := by
      have hlt : (op - 1).toNat < opRows.length := by omega
      rw [getD_map OpRow.p opRows (op - 1).toNat hlt, List.getD, List.getElem?_eq_getElem hlt]; rfl
    have e3 : 0 ≤ op - 1 := by omega
    have hr : opOf op = opRows.getD (op - 1).toNat noRow := by unfold opOf; rw [if_pos h']
    rw [hr]
    have hx := iopRows_ret
    generalize opRows = l at *
    refine p_impl_opOf rfl rfl ?_
    simp only [seval, go_sem, i_impl_opOf]
    repeat' (first
     | ((with_reducible_and_instances first | refine go_br (fun hc => ?_) (fun hc => ?_) | refine go_grd (fun hc => ?_) (fun hc => ?_) | refine go_dgrd (fun hc => ?_) (fun hc => ?_)) <;> (try simp only [decide_eq_true_eq, decide_eq_false_iff_not, Bool.not_eq_true', Bool.not_eq_false'] at hc) <;> simp only [seval, go_sem, hc, tf_true h, e0, e1, e2, e3, OpRow.p, OpRow.c])
     | ((with_reducible_and_instances first | refine go_use (iwithin_ret _ _ _) ?_ | refine go_use (hx) ?_); simp only [seval, go_sem, tf_true h, e0, e1, e2, e3, OpRow.p, OpRow.c]))
    exact ⟨rfl, rfl⟩
  · have hr : opOf op = noRow := by unfold opOf; exact if_neg h
    rw [hr]
    refine p_impl_opOf rfl rfl ?_
    simp only [seval, go_sem, i_impl_opOf]
    repeat' (first
     | ((with_reducible_and_instances first | refine go_br (fun hc => ?_) (fun hc => ?_) | refine go_grd (fun hc => ?_) (fun hc => ?_) | refine go_dgrd (fun hc => ?_) (fun hc => ?_)) <;> (try simp only [decide_eq_true_eq, decide_eq_false_iff_not, Bool.not_eq_true', Bool.not_eq_false'] at hc) <;> simp only [seval, go_sem, hc, tf_false h])
     | ((with_reducible_and_instances first | refine go_use (iwithin_ret _ _ _) ?_); simp only [seval, go_sem, tf_false h]))
    exact ⟨rfl, rfl⟩
theorem indexInt_ret (l : List Int) (s : Int) (hl : l.length < 4294967296) : Ret PG f_slices_Index_int_int [.v (.sl 1 (l.map ei)), aI s] (oI (idx (fun x => s = x) l)) [] := by
  refine exact_of (p_slices_Index_int_int rfl rfl ?_)
  simp only [seval, go_sem, i_slices_Index_int_int]
  refine go_lp (β := Nat) (fun i => [(8, .p (.int .i64 i))]) (fun _ => []) (fun i => i ≤ l.length ∧ ∀ x ∈ l.take i, ¬ (s = x)) (fun i => l.length - i) 0 ?_ ?_ ?_
  · rfl
  · simp
  · rintro i ⟨hi, hd⟩
    by_cases h : (i : Int) < l.length
    · have h' : i < l.length := by omega
      simp only [seval, go_sem, h, getD_map ei l i h', ei, wrap_succ i (by omega)]
      repeat' (first
       | ((with_reducible_and_instances first | refine go_br (fun hc => ?_) (fun hc => ?_) | refine go_grd (fun hc => ?_) (fun hc => ?_) | refine go_dgrd (fun hc => ?_) (fun hc => ?_)) <;> (try simp only [decide_eq_true_eq, decide_eq_false_iff_not, Bool.not_eq_true', Bool.not_eq_false'] at hc) <;> simp only [seval, go_sem, hc, h, getD_map ei l i h', ei, wrap_succ i (by omega)]))
      · have := idx_at (p := fun x => s = x) h' hd hc
        rw [← hc, this]
      · exact ⟨i + 1, rfl, ⟨h', take_all h' hd hc⟩, by (try dsimp only); omega⟩
    · simp only [seval, go_sem, h]
      rw [idx_none (all_of_take h hd)]
theorem icontains_ret (l : List Int) (s : Int) (hl : l.length < 4294967296) : Ret PG f_slices_Contains_int_int [.v (.sl 1 (l.map ei)), aI s] (oB (tf (s ∈ l))) [] := by
  refine exact_of (p_slices_Contains_int_int rfl rfl ?_)
  simp only [seval, go_sem, i_slices_Contains_int_int]
  with_reducible_and_instances refine go_use (indexInt_ret l s hl) ?_
  simp only [seval, go_sem]
  refine oB_d ?_
  rcases idx_cases (fun x => s = x) l with ⟨h1, h2⟩ | ⟨i, hi, h1, h2, h3⟩
  · rw [h1]; exact ⟨fun g => by omega, fun g => absurd rfl (h2 s g)⟩
  · rw [h1]; exact ⟨fun _ => h2 ▸ at_mem hi, fun _ => by omega⟩
def uses (op no : Int) : Prop := no ∈ (opOf op).fields
theorem opOf_mem (op : Int) : opOf op = noRow ∨ opOf op ∈ opRows := by
  unfold opOf
  split
  · rename_i h
    have : opRows.length = 8 := rfl
    right
    have h2 : (op - 1).toNat < opRows.length := by omega
    rw [List.getD, List.getElem?_eq_getElem h2]
    exact at_mem h2
  · exact .inl rfl
theorem opOf_fields (op : Int) : (opOf op).fields.length ≤ 3 ∧ ∀ k ∈ (opOf op).fields, k = 4 ∨ k = 14 ∨ k = 38 ∨ k = 103 := by
  rcases opOf_mem op with h | h
  · rw [h]; decide
  · have : ∀ r ∈ opRows, r.fields.length ≤ 3 ∧ ∀ k ∈ r.fields, k = 4 ∨ k = 14 ∨ k = 38 ∨ k = 103 := by decide
    exact this _ h
theorem iuses_ret (op no : Int) : Ret PG f_impl_uses [aI op, aI no] (oB (tf (uses op no))) [] := by
  have h := opOf_fields op
  have hx := iopOf_ret op
  unfold uses
  generalize opOf op = r at *
  unfold OpRow.c at hx
  refine exact_of (p_impl_uses rfl rfl ?_)
  simp only [seval, go_sem, i_impl_uses]
  repeat' (first
   | ((with_reducible_and_instances first | refine go_br (fun hc => ?_) (fun hc => ?_) | refine go_grd (fun hc => ?_) (fun hc => ?_) | refine go_dgrd (fun hc => ?_) (fun hc => ?_)) <;> (try simp only [decide_eq_true_eq, decide_eq_false_iff_not, Bool.not_eq_true', Bool.not_eq_false'] at hc) <;> simp only [seval, go_sem, hc])
   | ((with_reducible_and_instances first | refine go_use (hx) ?_ | refine go_use (icontains_ret _ _ (by omega)) ?_); simp only [seval, go_sem]))
theorem iOpCode_ret (op : Int) : Ret PG f_impl_OpCode [aI op] (oS (opOf op).code) [] := by
  have hx := iopOf_ret op
  generalize opOf op = r at *
  unfold OpRow.c at hx
  refine exact_of (p_impl_OpCode rfl rfl ?_)
  simp only [seval, go_sem, i_impl_OpCode]
  repeat' (first
   | ((with_reducible_and_instances first | refine go_br (fun hc => ?_) (fun hc => ?_) | refine go_grd (fun hc => ?_) (fun hc => ?_) | refine go_dgrd (fun hc => ?_) (fun hc => ?_)) <;> (try simp only [decide_eq_true_eq, decide_eq_false_iff_not, Bool.not_eq_true', Bool.not_eq_false'] at hc) <;> simp only [seval, go_sem, hc])
   | ((with_reducible_and_instances first | refine go_use (hx) ?_); simp only [seval, go_sem]))
structure Req where
  op : Int
  acct : Str
  other : Str
  hold : Str
  trace : Str
  mti : Str
  amount : Int
  ttl : Int
def Req.c (q : Req) : List P := [.int .i64 q.op, .str q.acct, .str q.other, .str q.hold, .str q.trace, .str q.mti, .int .i64 q.amount, .int .i64 q.ttl]
def Req.p (q : Req) : P := .agg q.c
structure QFit (q : Req) : Prop where
  acct : q.acct.length < 4294967296
  other : q.other.length < 4294967296
  hold : q.hold.length < 1000000
  trace : q.trace.length < 4294967296
def reqOk (q : Req) : Prop := (opOf q.op).name ≠ [] ∧ q.mti = (opOf q.op).mti ∧ acctIdOk q.acct ∧ wide q.trace 6 ∧
  ((uses q.op 38 ∧ holdIdOk q.hold) ∨ (¬ uses q.op 38 ∧ q.hold = [])) ∧ ((uses q.op 4 ∧ inr q.amount 0 999999999999) ∨ (¬ uses q.op 4 ∧ q.amount = 0)) ∧
  ((uses q.op 14 ∧ inr q.ttl 0 9999) ∨ (¬ uses q.op 14 ∧ q.ttl = 0)) ∧ ((uses q.op 103 ∧ acctIdOk q.other) ∨ (¬ uses q.op 103 ∧ q.other = []))
theorem iReqOk_ret (q : Req) (f : QFit q) : Ret PG f_impl_ReqOk [.v q.p] (oB (tf (reqOk q))) [] := by
  have hx := iopOf_ret q.op
  have u1 := iuses_ret q.op 38
  have u2 := iuses_ret q.op 4
  have u3 := iuses_ret q.op 14
  have u4 := iuses_ret q.op 103
  have a1 := iAcctIdOk_ret q.acct f.acct
  have a2 := iAcctIdOk_ret q.other f.other
  have a3 := iHoldIdOk_ret q.hold (Nat.lt_trans f.hold (by decide))
  have a4 := iisWide_ret q.trace 6 f.trace
  have hd : reqOk q ↔ reqOk q := Iff.rfl
  conv at hd => rhs; unfold reqOk
  generalize hR : reqOk q = R at *
  generalize opOf q.op = r at *
  generalize uses q.op 38 = U1 at *
  generalize uses q.op 4 = U2 at *
  generalize uses q.op 14 = U3 at *
  generalize uses q.op 103 = U4 at *
  generalize acctIdOk q.acct = A1 at *
  generalize acctIdOk q.other = A2 at *
  generalize holdIdOk q.hold = A3 at *
  generalize wide q.trace 6 = A4 at *
  unfold OpRow.c at hx
  refine exact_of (p_impl_ReqOk rfl rfl ?_)
  simp only [seval, go_sem, i_impl_ReqOk, Req.p, Req.c]
  repeat' (first
   | ((with_reducible_and_instances first | refine go_br (fun hc => ?_) (fun hc => ?_) | refine go_grd (fun hc => ?_) (fun hc => ?_) | refine go_dgrd (fun hc => ?_) (fun hc => ?_)) <;> (try simp only [decide_eq_true_eq, decide_eq_false_iff_not, Bool.not_eq_true', Bool.not_eq_false'] at hc) <;> simp only [seval, go_sem, hc])
   | ((with_reducible_and_instances first | refine go_use (hx) ?_ | refine go_use (u1) ?_ | refine go_use (u2) ?_ | refine go_use (u3) ?_ | refine go_use (u4) ?_ | refine go_use (a1) ?_ | refine go_use (a2) ?_ | refine go_use (a3) ?_ | refine go_use (a4) ?_ | refine go_use (iwithin_ret _ _ _) ?_); simp only [seval, go_sem]))
  all_goals (try simp only [tf_iff, tf_not] at *)
  all_goals first | (refine oB_f ?_; grind) | (refine oB_tf ?_; grind) | (refine oB_d ?_; grind) | (refine oB_t ?_; grind)
end Go.AW
namespace Go.AW
open IntWalk
noncomputable def narrowV (s : Str) : Int := if tf (narrowOk s) = true then (val s : Int) else 0
theorem iNarrow_ret (s : Str) (hs : s.length < 4294967296) : Ret PG f_impl_Narrow [aS s] (.tup [oI (narrowV s), oB (tf (narrowOk s))]) [] := by
  unfold narrowV
  by_cases h : narrowOk s
  · rw [tf_true h]; exact iNarrow_ok s h
  · rw [tf_false h]; exact iNarrow_no s hs h
noncomputable def setReq (q : Req) (no : Int) (s : Str) : Req :=
  if no = 2 then { q with acct := s } else if no = 4 then { q with amount := narrowV s } else if no = 11 then { q with trace := s }
  else if no = 14 then { q with ttl := narrowV s } else if no = 38 then { q with hold := bare s } else if no = 103 then { q with other := s } else q
noncomputable def fillReq (m : Msg) : Req → List Int → Option Req
  | q, [] => some q
  | q, no :: r => match msgField m no with
    | none => none
    | some s => fillReq m (setReq q no s) r
def noReq : Req := ⟨0, [], [], [], [], [], 0, 0⟩
noncomputable def opFor (m : Msg) (three : Str) : Int := 1 + idx (fun r : OpRow => r.mti = m.mti ∧ r.code = three.take 2) opRows
noncomputable def reqOf (m : Msg) : Req × Int :=
  if tf (msgOk m) = true then
    if tf (mtiKnown m.mti) = true then
      match msgField m 3 with
      | none => (noReq, 1)
      | some three => match fillReq m ⟨opFor m three, [], [], [], [], m.mti, 0, 0⟩ (2 :: 11 :: (opOf (opFor m three)).fields) with
        | none => (noReq, 1)
        | some q => if tf (reqOk q) = true then (q, 0) else (noReq, 1)
    else (noReq, 2)
  else (noReq, 1)
theorem iReqOf1_ret (r : OpRow) (mti : Str) (l : List Field) (three : Str) (h : 2 ≤ three.length) : Ret PG f_impl_ReqOf_1 [.v r.p, .v (.ptr [.str mti, .sl 2 (l.map Field.p)]), .v (.ptr [.str three])] (oB (tf (r.mti = mti ∧ r.code = three.take 2))) [] := by
  have e1 : (2 : Int) ≤ three.length := by omega
  have e2 : (2 : Int).toNat = 2 := rfl
  refine exact_of (p_impl_ReqOf_1 rfl rfl ?_)
  simp only [seval, go_sem, i_impl_ReqOf_1, OpRow.p, OpRow.c]
  repeat' (first
   | ((with_reducible_and_instances first | refine go_br (fun hc => ?_) (fun hc => ?_) | refine go_grd (fun hc => ?_) (fun hc => ?_) | refine go_dgrd (fun hc => ?_) (fun hc => ?_)) <;> (try simp only [decide_eq_true_eq, decide_eq_false_iff_not, Bool.not_eq_true', Bool.not_eq_false'] at hc) <;> simp only [seval, go_sem, hc, e1, e2]))
  all_goals ((try simp only [tf_iff, tf_not] at *); first | (refine oB_f ?_; simp_all []; done) | (refine oB_tf ?_; simp_all []; done) | (refine oB_d ?_; simp_all []; done) | (refine oB_t ?_; simp_all []; done) | (refine oB_f ?_; simp only []; grind) | (refine oB_tf ?_; simp only []; grind) | (refine oB_d ?_; simp only []; grind) | (refine oB_t ?_; simp only []; grind))
theorem idxRow_ret (l : List OpRow) (mti : Str) (fs : List Field) (three : Str) (h2 : 2 ≤ three.length) (hl : l.length < 4294967296) :
    Ret PG f_slices_IndexFunc_impl_opRow_impl_opRow [.v (.sl 4 (l.map OpRow.p)), .v (.clo f_impl_ReqOf_1 [.ptr [.str mti, .sl 2 (fs.map Field.p)], .ptr [.str three]])] (oI (idx (fun r => r.mti = mti ∧ r.code = three.take 2) l)) [] := by
  refine exact_of (p_slices_IndexFunc_impl_opRow_impl_opRow rfl rfl ?_)
  simp only [seval, go_sem, i_slices_IndexFunc_impl_opRow_impl_opRow]
  refine go_lp (β := Nat) (fun i => [(8, .p (.int .i64 i))]) (fun _ => []) (fun i => i ≤ l.length ∧ ∀ x ∈ l.take i, ¬ (x.mti = mti ∧ x.code = three.take 2)) (fun i => l.length - i) 0 ?_ ?_ ?_
  · rfl
  · simp
  · rintro i ⟨hi, hd⟩
    by_cases h : (i : Int) < l.length
    · have h' : i < l.length := by omega
      have hx := iReqOf1_ret l[i] mti fs three h2
      unfold OpRow.p OpRow.c at hx
      simp only [seval, go_sem, h, getD_map OpRow.p l i h', OpRow.p, OpRow.c, wrap_succ i (by omega)]
      repeat' (first
       | ((with_reducible_and_instances first | refine go_br (fun hc => ?_) (fun hc => ?_) | refine go_grd (fun hc => ?_) (fun hc => ?_) | refine go_dgrd (fun hc => ?_) (fun hc => ?_)) <;> (try simp only [decide_eq_true_eq, decide_eq_false_iff_not, Bool.not_eq_true', Bool.not_eq_false'] at hc) <;> simp only [seval, go_sem, hc, h, getD_map OpRow.p l i h', OpRow.p, OpRow.c, wrap_succ i (by omega)])
       | ((with_reducible_and_instances first | refine go_use (hx) ?_); simp only [seval, go_sem, h, getD_map OpRow.p l i h', OpRow.p, OpRow.c, wrap_succ i (by omega)]))
      · rw [idx_at h' hd (tf_iff.1 hc)]
      · exact ⟨i + 1, rfl, ⟨h', take_all h' hd (tf_not.1 hc)⟩, by (try dsimp only); omega⟩
    · simp only [seval, go_sem, h]
      rw [idx_none (all_of_take h hd)]
theorem msgField_mem {m : Msg} {no : Int} {s : Str} (h : msgField m no = some s) : ∃ f ∈ m.list, f.no = no ∧ f.text = s := by
  unfold msgField at h
  cases hf : m.list.find? fun f => f.no == no with
  | none => rw [hf] at h; cases h
  | some f =>
    rw [hf] at h
    simp only [Option.map_some, Option.some.injEq] at h
    exact ⟨f, List.mem_of_find?_eq_some hf, by have := List.find?_some hf; simpa using this, h⟩
theorem msgField_ok {m : Msg} {no : Int} {s : Str} (h1 : msgOk m) (h : msgField m no = some s) : fieldOk no s := by
  obtain ⟨f, hf, rfl, rfl⟩ := msgField_mem h
  exact h1.2.1 f hf
theorem bare_len (s : Str) : (bare s).length ≤ s.length := by
  unfold bare Lib.trimRightB
  rw [List.length_reverse]
  have h1 := (List.dropWhile_suffix (l := s.reverse) (fun x => x == 32)).length_le
  rwa [List.length_reverse] at h1
theorem setReq_fit {q : Req} (f : QFit q) (no : Int) (s : Str) (hs : s.length ≤ 60) : QFit (setReq q no s) := by
  obtain ⟨f1, f2, f3, f4⟩ := f
  have := bare_len s
  unfold setReq
  split
  · exact ⟨by simp only; omega, f2, f3, f4⟩
  · split
    · exact ⟨f1, f2, f3, f4⟩
    · split
      · exact ⟨f1, f2, f3, by simp only; omega⟩
      · split
        · exact ⟨f1, f2, f3, f4⟩
        · split
          · exact ⟨f1, f2, by simp only; omega, f4⟩
          · split
            · exact ⟨f1, by simp only; omega, f3, f4⟩
            · exact ⟨f1, f2, f3, f4⟩
theorem rowOf3 : fieldKind 3 = 1 ∧ fieldSize 3 = 6 := by decide
theorem three_len {m : Msg} {s : Str} (h1 : msgOk m) (h : msgField m 3 = some s) : s.length = 6 := by
  have := msgField_ok h1 h
  unfold fieldOk at this
  rw [rowOf3.1, rowOf3.2] at this
  unfold inr at this
  omega
theorem opFor_in (m : Msg) (three : Str) : 0 ≤ opFor m three ∧ opFor m three ≤ 8 := by
  unfold opFor
  have : opRows.length = 8 := rfl
  rcases idx_cases (fun r : OpRow => r.mti = m.mti ∧ r.code = three.take 2) opRows with ⟨h, _⟩ | ⟨i, hi, h, _⟩ <;> rw [h] <;> omega
theorem iReqOf_ret (m : Msg) (f : MFit m) : Ret PG f_impl_ReqOf [.v m.p] (.tup [rR (reqOf m).1.c, oI (reqOf m).2]) [] := by
  have hmo := iMsgOk_ret m f
  have hmk := iMtiKnown_ret m.mti
  have hfo := fun no => iFieldOf_ret m no f.len
  have hmd : Msg.p m = .agg [.str m.mti, .sl 2 (m.list.map Field.p)] := rfl
  rw [hmd] at hmo
  rw [hmd]
  simp only [hmd] at hfo
  unfold reqOf
  by_cases h1 : msgOk m
  · rw [tf_true h1] at hmo ⊢
    rw [if_pos rfl]
    by_cases h2 : mtiKnown m.mti
    · rw [tf_true h2] at hmk ⊢
      rw [if_pos rfl]
      have hf3 := hfo 3
      cases h3 : msgField m 3 with
      | none =>
        rw [h3, strR] at hf3
        refine exact_of (p_impl_ReqOf rfl rfl ?_)
        simp only [seval, go_sem, i_impl_ReqOf]
        repeat' (first
         | ((with_reducible_and_instances first | refine go_br (fun hc => ?_) (fun hc => ?_) | refine go_grd (fun hc => ?_) (fun hc => ?_) | refine go_dgrd (fun hc => ?_) (fun hc => ?_)) <;> (try simp only [decide_eq_true_eq, decide_eq_false_iff_not, Bool.not_eq_true', Bool.not_eq_false'] at hc) <;> simp only [seval, go_sem, hc])
         | ((with_reducible_and_instances first | refine go_use (hmo) ?_ | refine go_use (hmk) ?_ | refine go_use (hf3) ?_); simp only [seval, go_sem]))
        rfl
      | some three =>
        rw [h3, strR] at hf3
        simp only
        have htl := three_len h1 h3
        have hix := idxRow_ret opRows m.mti m.list three (by omega) (by decide)
        have hof : 1 + idx (fun r : OpRow => r.mti = m.mti ∧ r.code = three.take 2) opRows = opFor m three := rfl
        have hoi := opFor_in m three
        have hw : IntKind.i64.wrap (1 + idx (fun r : OpRow => r.mti = m.mti ∧ r.code = three.take 2) opRows) = opFor m three := by rw [hof, i64_in _ (by omega)]
        have hor := iopRows_ret
        generalize opFor m three = op at *
        have hop := iopOf_ret op
        have hofl := (opOf_fields op).1
        have hnos : (opOf op).fields.length ≤ 3 := hofl
        generalize hrow : opOf op = row at *
        unfold OpRow.c at hop
        generalize opRows = orows at *
        refine exact_of (p_impl_ReqOf rfl rfl ?_)
        simp only [seval, go_sem, i_impl_ReqOf]
        repeat' (first
         | ((with_reducible_and_instances first | refine go_br (fun hc => ?_) (fun hc => ?_) | refine go_grd (fun hc => ?_) (fun hc => ?_) | refine go_dgrd (fun hc => ?_) (fun hc => ?_)) <;> (try simp only [decide_eq_true_eq, decide_eq_false_iff_not, Bool.not_eq_true', Bool.not_eq_false'] at hc) <;> simp only [seval, go_sem, hc, hw])
         | ((with_reducible_and_instances first | refine go_use (hmo) ?_ | refine go_use (hmk) ?_ | refine go_use (hf3) ?_ | refine go_use (hor) ?_ | refine go_use (hix) ?_ | refine go_use (hop) ?_); simp only [seval, go_sem, hw])
         | ((with_reducible refine And.intro ?_ ?_); focus omega))
        obtain ⟨nos, hnos2⟩ : ∃ nos, nos = 2 :: 11 :: row.fields := ⟨_, rfl⟩
        have hnl : nos.length = 2 + row.fields.length := by rw [hnos2]; simp; omega
        rw [← hnos2]
        have hq0 : QFit ⟨op, [], [], [], [], m.mti, 0, 0⟩ := ⟨by simp, by simp, by simp, by simp⟩
        have hblk : P.int .i64 2 :: P.int .i64 11 :: row.fields.map ei = nos.map ei := by rw [hnos2]; rfl
        rw [hblk]
        refine go_lp (β := Nat × Req) (fun b => [(43, .p (.int .i64 b.1))]) (fun b => [(6, 0, .box [.p (.int .i64 b.2.op), .p (.str b.2.acct), .p (.str b.2.other), .p (.str b.2.hold), .p (.str b.2.trace), .p (.str b.2.mti), .p (.int .i64 b.2.amount), .p (.int .i64 b.2.ttl)] false)])
          (fun b => b.1 ≤ nos.length ∧ QFit b.2 ∧ fillReq m ⟨op, [], [], [], [], m.mti, 0, 0⟩ nos = fillReq m b.2 (nos.drop b.1)) (fun b => nos.length - b.1) (0, ⟨op, [], [], [], [], m.mti, 0, 0⟩) ?_ ?_ ?_
        · rfl
        · exact ⟨Nat.zero_le _, hq0, rfl⟩
        · rintro ⟨i, q⟩ ⟨hi, hqf, hfill⟩
          simp only at hi hqf hfill
          rw [hfill]
          rw [← hnl]
          by_cases h : (i : Int) < nos.length
          · have h' : i < nos.length := by omega
            have hgd := getD_map ei nos i h'
            have hdr := drop_at nos i h'
            rw [hdr] at hfill ⊢
            rw [fillReq] at hfill ⊢
            generalize nos[i] = no at *
            simp only [ei] at hgd
            have hfq := hfo no
            cases hx : msgField m no with
            | none =>
              rw [hx, strR] at hfq
              simp only
              simp only [seval, go_sem, h, h', hgd]
              repeat' (first
               | ((with_reducible_and_instances first | refine go_br (fun hc => ?_) (fun hc => ?_) | refine go_grd (fun hc => ?_) (fun hc => ?_) | refine go_dgrd (fun hc => ?_) (fun hc => ?_)) <;> (try simp only [decide_eq_true_eq, decide_eq_false_iff_not, Bool.not_eq_true', Bool.not_eq_false'] at hc) <;> simp only [seval, go_sem, hc, h, h', hgd])
               | ((with_reducible_and_instances first | refine go_use (hfq) ?_); simp only [seval, go_sem, h, h', hgd])
               | ((with_reducible refine And.intro ?_ ?_); focus omega))
              rfl
            | some s =>
              rw [hx] at hfq hfill
              simp only [strR] at hfq
              simp only at hfill ⊢
              have hsl := (fieldOk_len (msgField_ok h1 hx)).1
              have hsq := setReq_fit hqf no s (by omega)
              have hnw := iNarrow_ret s (by omega)
              have hbr := iFieldBare_ret s (by omega)
              have hse : setReq q no s = setReq q no s := rfl
              conv at hse => rhs; unfold setReq
              unfold setReq at hsq
              by_cases k2 : no = 2
              · subst k2
                simp only [if_true] at hsq hse
                simp only [seval, go_sem, h, h', hgd, wrap_succ i (by omega)]
                repeat' (first
                 | ((with_reducible_and_instances first | refine go_br (fun hc => ?_) (fun hc => ?_) | refine go_grd (fun hc => ?_) (fun hc => ?_) | refine go_dgrd (fun hc => ?_) (fun hc => ?_)) <;> (try simp only [decide_eq_true_eq, decide_eq_false_iff_not, Bool.not_eq_true', Bool.not_eq_false'] at hc) <;> simp only [seval, go_sem, hc, h, h', hgd, wrap_succ i (by omega)])
                 | ((with_reducible_and_instances first | refine go_use (hfq) ?_); simp only [seval, go_sem, h, h', hgd, wrap_succ i (by omega)])
                 | ((with_reducible refine And.intro ?_ ?_); focus omega))
                exact ⟨(i + 1, _), rfl, ⟨h', hsq, by rw [hse]⟩, by (try dsimp only); omega⟩
              · rw [if_neg k2] at hsq hse
                by_cases k4 : no = 4
                · subst k4
                  simp only [if_true] at hsq hse
                  simp only [seval, go_sem, h, h', hgd, k2, wrap_succ i (by omega)]
                  repeat' (first
                   | ((with_reducible_and_instances first | refine go_br (fun hc => ?_) (fun hc => ?_) | refine go_grd (fun hc => ?_) (fun hc => ?_) | refine go_dgrd (fun hc => ?_) (fun hc => ?_)) <;> (try simp only [decide_eq_true_eq, decide_eq_false_iff_not, Bool.not_eq_true', Bool.not_eq_false'] at hc) <;> simp only [seval, go_sem, hc, h, h', hgd, k2, wrap_succ i (by omega)])
                   | ((with_reducible_and_instances first | refine go_use (hfq) ?_ | refine go_use (hnw) ?_); simp only [seval, go_sem, h, h', hgd, k2, wrap_succ i (by omega)])
                   | ((with_reducible refine And.intro ?_ ?_); focus omega))
                  exact ⟨(i + 1, _), rfl, ⟨h', hsq, by rw [hse]⟩, by (try dsimp only); omega⟩
                · rw [if_neg k4] at hsq hse
                  by_cases k11 : no = 11
                  · subst k11
                    simp only [if_true] at hsq hse
                    simp only [seval, go_sem, h, h', hgd, k2, k4, wrap_succ i (by omega)]
                    repeat' (first
                     | ((with_reducible_and_instances first | refine go_br (fun hc => ?_) (fun hc => ?_) | refine go_grd (fun hc => ?_) (fun hc => ?_) | refine go_dgrd (fun hc => ?_) (fun hc => ?_)) <;> (try simp only [decide_eq_true_eq, decide_eq_false_iff_not, Bool.not_eq_true', Bool.not_eq_false'] at hc) <;> simp only [seval, go_sem, hc, h, h', hgd, k2, k4, wrap_succ i (by omega)])
                     | ((with_reducible_and_instances first | refine go_use (hfq) ?_); simp only [seval, go_sem, h, h', hgd, k2, k4, wrap_succ i (by omega)])
                     | ((with_reducible refine And.intro ?_ ?_); focus omega))
                    exact ⟨(i + 1, _), rfl, ⟨h', hsq, by rw [hse]⟩, by (try dsimp only); omega⟩
                  · rw [if_neg k11] at hsq hse
                    by_cases k14 : no = 14
                    · subst k14
                      simp only [if_true] at hsq hse
                      simp only [seval, go_sem, h, h', hgd, k2, k4, k11, wrap_succ i (by omega)]
                      repeat' (first
                       | ((with_reducible_and_instances first | refine go_br (fun hc => ?_) (fun hc => ?_) | refine go_grd (fun hc => ?_) (fun hc => ?_) | refine go_dgrd (fun hc => ?_) (fun hc => ?_)) <;> (try simp only [decide_eq_true_eq, decide_eq_false_iff_not, Bool.not_eq_true', Bool.not_eq_false'] at hc) <;> simp only [seval, go_sem, hc, h, h', hgd, k2, k4, k11, wrap_succ i (by omega)])
                       | ((with_reducible_and_instances first | refine go_use (hfq) ?_ | refine go_use (hnw) ?_); simp only [seval, go_sem, h, h', hgd, k2, k4, k11, wrap_succ i (by omega)])
                       | ((with_reducible refine And.intro ?_ ?_); focus omega))
                      exact ⟨(i + 1, _), rfl, ⟨h', hsq, by rw [hse]⟩, by (try dsimp only); omega⟩
                    · rw [if_neg k14] at hsq hse
                      by_cases k38 : no = 38
                      · subst k38
                        simp only [if_true] at hsq hse
                        simp only [seval, go_sem, h, h', hgd, k2, k4, k11, k14, wrap_succ i (by omega)]
                        repeat' (first
                         | ((with_reducible_and_instances first | refine go_br (fun hc => ?_) (fun hc => ?_) | refine go_grd (fun hc => ?_) (fun hc => ?_) | refine go_dgrd (fun hc => ?_) (fun hc => ?_)) <;> (try simp only [decide_eq_true_eq, decide_eq_false_iff_not, Bool.not_eq_true', Bool.not_eq_false'] at hc) <;> simp only [seval, go_sem, hc, h, h', hgd, k2, k4, k11, k14, wrap_succ i (by omega)])
                         | ((with_reducible_and_instances first | refine go_use (hfq) ?_ | refine go_use (hbr) ?_); simp only [seval, go_sem, h, h', hgd, k2, k4, k11, k14, wrap_succ i (by omega)])
                         | ((with_reducible refine And.intro ?_ ?_); focus omega))
                        exact ⟨(i + 1, _), rfl, ⟨h', hsq, by rw [hse]⟩, by (try dsimp only); omega⟩
                      · rw [if_neg k38] at hsq hse
                        by_cases k103 : no = 103
                        · subst k103
                          simp only [if_true] at hsq hse
                          simp only [seval, go_sem, h, h', hgd, k2, k4, k11, k14, k38, wrap_succ i (by omega)]
                          repeat' (first
                           | ((with_reducible_and_instances first | refine go_br (fun hc => ?_) (fun hc => ?_) | refine go_grd (fun hc => ?_) (fun hc => ?_) | refine go_dgrd (fun hc => ?_) (fun hc => ?_)) <;> (try simp only [decide_eq_true_eq, decide_eq_false_iff_not, Bool.not_eq_true', Bool.not_eq_false'] at hc) <;> simp only [seval, go_sem, hc, h, h', hgd, k2, k4, k11, k14, k38, wrap_succ i (by omega)])
                           | ((with_reducible_and_instances first | refine go_use (hfq) ?_); simp only [seval, go_sem, h, h', hgd, k2, k4, k11, k14, k38, wrap_succ i (by omega)])
                           | ((with_reducible refine And.intro ?_ ?_); focus omega))
                          exact ⟨(i + 1, _), rfl, ⟨h', hsq, by rw [hse]⟩, by (try dsimp only); omega⟩
                        · rw [if_neg k103] at hsq hse
                          simp only [seval, go_sem, h, h', hgd, k2, k4, k11, k14, k38, k103, wrap_succ i (by omega)]
                          repeat' (first
                           | ((with_reducible_and_instances first | refine go_br (fun hc => ?_) (fun hc => ?_) | refine go_grd (fun hc => ?_) (fun hc => ?_) | refine go_dgrd (fun hc => ?_) (fun hc => ?_)) <;> (try simp only [decide_eq_true_eq, decide_eq_false_iff_not, Bool.not_eq_true', Bool.not_eq_false'] at hc) <;> simp only [seval, go_sem, hc, h, h', hgd, k2, k4, k11, k14, k38, k103, wrap_succ i (by omega)])
                           | ((with_reducible_and_instances first | refine go_use (hfq) ?_); simp only [seval, go_sem, h, h', hgd, k2, k4, k11, k14, k38, k103, wrap_succ i (by omega)])
                           | ((with_reducible refine And.intro ?_ ?_); focus omega))
                          exact ⟨(i + 1, q), rfl, ⟨h', hsq, by rw [hse]⟩, by (try dsimp only); omega⟩
          · have ed : nos.drop i = [] := List.drop_of_length_le (by omega)
            rw [ed, fillReq]
            simp only
            have hrk := iReqOk_ret q hqf
            unfold Req.p Req.c at hrk
            by_cases hok : reqOk q
            · rw [tf_true hok] at hrk ⊢
              simp only [seval, go_sem, h]
              repeat' (first
               | ((with_reducible_and_instances first | refine go_br (fun hc => ?_) (fun hc => ?_) | refine go_grd (fun hc => ?_) (fun hc => ?_) | refine go_dgrd (fun hc => ?_) (fun hc => ?_)) <;> (try simp only [decide_eq_true_eq, decide_eq_false_iff_not, Bool.not_eq_true', Bool.not_eq_false'] at hc) <;> simp only [seval, go_sem, hc, h])
               | ((with_reducible_and_instances first | refine go_use (hrk) ?_); simp only [seval, go_sem, h])
               | ((with_reducible refine And.intro ?_ ?_); focus omega))
              rfl
            · rw [tf_false hok] at hrk ⊢
              simp only [seval, go_sem, h]
              repeat' (first
               | ((with_reducible_and_instances first | refine go_br (fun hc => ?_) (fun hc => ?_) | refine go_grd (fun hc => ?_) (fun hc => ?_) | refine go_dgrd (fun hc => ?_) (fun hc => ?_)) <;> (try simp only [decide_eq_true_eq, decide_eq_false_iff_not, Bool.not_eq_true', Bool.not_eq_false'] at hc) <;> simp only [seval, go_sem, hc, h])
               | ((with_reducible_and_instances first | refine go_use (hrk) ?_); simp only [seval, go_sem, h])
               | ((with_reducible refine And.intro ?_ ?_); focus omega))
              rfl
    · rw [tf_false h2] at hmk ⊢
      refine exact_of (p_impl_ReqOf rfl rfl ?_)
      simp only [seval, go_sem, i_impl_ReqOf]
      repeat' (first
       | ((with_reducible_and_instances first | refine go_br (fun hc => ?_) (fun hc => ?_) | refine go_grd (fun hc => ?_) (fun hc => ?_) | refine go_dgrd (fun hc => ?_) (fun hc => ?_)) <;> (try simp only [decide_eq_true_eq, decide_eq_false_iff_not, Bool.not_eq_true', Bool.not_eq_false'] at hc) <;> simp only [seval, go_sem, hc])
       | ((with_reducible_and_instances first | refine go_use (hmo) ?_ | refine go_use (hmk) ?_); simp only [seval, go_sem]))
      rfl
  · rw [tf_false h1] at hmo ⊢
    refine exact_of (p_impl_ReqOf rfl rfl ?_)
    simp only [seval, go_sem, i_impl_ReqOf]
    repeat' (first
     | ((with_reducible_and_instances first | refine go_br (fun hc => ?_) (fun hc => ?_) | refine go_grd (fun hc => ?_) (fun hc => ?_) | refine go_dgrd (fun hc => ?_) (fun hc => ?_)) <;> (try simp only [decide_eq_true_eq, decide_eq_false_iff_not, Bool.not_eq_true', Bool.not_eq_false'] at hc) <;> simp only [seval, go_sem, hc])
     | ((with_reducible_and_instances first | refine go_use (hmo) ?_); simp only [seval, go_sem]))
    rfl
end Go.AW
namespace Go.AW
open IntWalk
set_option maxRecDepth 20000
noncomputable def seven (q : Req) : List Field := [⟨2, q.acct⟩, ⟨3, (opOf q.op).code ++ [48, 48, 48, 48]⟩, ⟨4, wideN q.amount.toNat 12⟩, ⟨11, q.trace⟩, ⟨14, wideN q.ttl.toNat 4⟩, ⟨38, fieldFit 38 q.hold⟩, ⟨103, q.other⟩]
def keepF (q : Req) (f : Field) : Prop := f.no = 2 ∨ f.no = 3 ∨ f.no = 11 ∨ uses q.op f.no
noncomputable def keepL (q : Req) (l : List Field) : List Field := l.filter fun f => tf (keepF q f)
noncomputable def reqMsg (q : Req) : Msg := ⟨q.mti, keepL q (seven q)⟩
theorem keepL_take (q : Req) (l : List Field) (i : Nat) (h : i < l.length) : keepL q (l.take (i + 1)) = keepL q (l.take i) ++ (if tf (keepF q l[i]) = true then [l[i]] else []) := by
  rw [take_at l i h]; unfold keepL; rw [List.filter_append]
  by_cases h1 : tf (keepF q l[i]) = true <;> simp [h1]
theorem keepL_len (q : Req) (l : List Field) : (keepL q l).length ≤ l.length := List.length_filter_le _ _
def rmW (mti : Str) : List Field → List (Nat × Nat × Blk)
  | [] => []
  | a :: r => [(4, 0, .box [.p (.str mti), .sl 70 r.length 0 (r.length + 1)] false), (70, r.length, .arr 2 ((a :: r).map Field.p) false)]
theorem codes_len (op : Int) : (opOf op).code.length ≤ 2 := by
  rcases opOf_mem op with h | h
  · rw [h]; decide
  · have : ∀ r ∈ opRows, r.code.length ≤ 2 := by decide
    exact this _ h
theorem iReqMsg_ret (q : Req) (f : QFit q) (hok : reqOk q) (ha : 0 ≤ q.amount ∧ q.amount < 100) (ht : 0 ≤ q.ttl ∧ q.ttl < 100) : Ret PG f_impl_ReqMsg [.v q.p] (.tup [rR (reqMsg q).c, oB true]) [] := by
  refine wk_of ?_
  have hrk := iReqOk_ret q f
  rw [tf_true hok] at hrk
  have hoc := iOpCode_ret q.op
  have hcl := codes_len q.op
  have hw1 := iWide_small q.amount.toNat 12 (by omega) ⟨by omega, by omega⟩
  have hw2 := iWide_small q.ttl.toNat 4 (by omega) ⟨by omega, by omega⟩
  rw [show ((q.amount.toNat : Nat) : Int) = q.amount by omega] at hw1
  rw [show ((q.ttl.toNat : Nat) : Int) = q.ttl by omega] at hw2
  have hff := iFieldFit_ret 38 q.hold f.hold
  have hus := fun no => iuses_ret q.op no
  have c1 : (opOf q.op).code.length + 4 ≤ 4611686018427387904 := by omega
  have hsv : [P.agg [P.int .i64 2, P.str q.acct], P.agg [P.int .i64 3, P.str ((opOf q.op).code ++ [48, 48, 48, 48])], P.agg [P.int .i64 4, P.str (wideN q.amount.toNat 12)], P.agg [P.int .i64 11, P.str q.trace], P.agg [P.int .i64 14, P.str (wideN q.ttl.toNat 4)], P.agg [P.int .i64 38, P.str (fieldFit 38 q.hold)], P.agg [P.int .i64 103, P.str q.other]] = (seven q).map Field.p := rfl
  have hrm : reqMsg q = ⟨q.mti, keepL q (seven q)⟩ := rfl
  have hl7 : (seven q).length = 7 := rfl
  rw [hrm]
  unfold Req.p Req.c at hrk
  have hw1' : Ret PG f_impl_Wide [aI q.amount, aI 12] (oS (wideN q.amount.toNat 12)) [] := hw1
  have hw2' : Ret PG f_impl_Wide [aI q.ttl, aI 4] (oS (wideN q.ttl.toNat 4)) [] := hw2
  refine p_impl_ReqMsg rfl rfl ?_
  simp only [seval, go_sem, i_impl_ReqMsg, Req.p, Req.c]
  repeat' (first
   | ((with_reducible_and_instances first | refine go_br (fun hc => ?_) (fun hc => ?_) | refine go_grd (fun hc => ?_) (fun hc => ?_) | refine go_dgrd (fun hc => ?_) (fun hc => ?_)) <;> (try simp only [decide_eq_true_eq, decide_eq_false_iff_not, Bool.not_eq_true', Bool.not_eq_false'] at hc) <;> simp only [seval, go_sem, hc])
   | ((with_reducible_and_instances first | refine go_use (hrk) ?_ | refine go_use (hoc) ?_ | refine go_use (hw1') ?_ | refine go_use (hw2') ?_ | refine go_use (hff) ?_); simp only [seval, go_sem])
   | ((with_reducible refine And.intro ?_ ?_); focus omega))
  rw [hsv]
  generalize seven q = l at *
  refine go_lp (β := Nat) (fun i => [(42, .p (.int .i64 i))]) (fun i => rmW q.mti (keepL q (l.take i))) (fun i => i ≤ l.length) (fun i => l.length - i) 0 ?_ ?_ ?_
  · rfl
  · simp
  · intro i hi
    have hal := keepL_len q (l.take i)
    have hl2 : (l.take i).length ≤ i := by rw [List.length_take]; omega
    by_cases h : (i : Int) < 7
    · have h' : i < l.length := by omega
      have hgd := getD_map Field.p l i h'
      have hst := keepL_take q l i h'
      have hu := hus l[i].no
      generalize keepL q (l.take i) = acc at *
      generalize l[i] = fd at *
      by_cases hk : keepF q fd
      · rw [tf_true hk, if_pos rfl] at hst
        obtain ⟨fno, ftx⟩ := fd
        unfold keepF at hk
        simp only at hk hu
        have hk' : fno = 2 ∨ fno = 3 ∨ fno = 11 ∨ (¬ fno = 2 ∧ ¬ fno = 3 ∧ ¬ fno = 11 ∧ tf (uses q.op fno) = true) := by
          rcases hk with g | g | g | g
          · exact .inl g
          · exact .inr (.inl g)
          · exact .inr (.inr (.inl g))
          · by_cases g2 : fno = 2
            · exact .inl g2
            · by_cases g3 : fno = 3
              · exact .inr (.inl g3)
              · by_cases g11 : fno = 11
                · exact .inr (.inr (.inl g11))
                · exact .inr (.inr (.inr ⟨g2, g3, g11, tf_true g⟩))
        clear hk
        cases acc with
        | nil =>
          rcases hk' with k | k | k | ⟨k2, k3, k11, ku⟩
          · subst k
            simp only [seval, go_sem, h, h', hgd, Field.p, rmW, wrap_succ i (by omega), List.map_nil]
            repeat' (first
             | ((with_reducible_and_instances first | refine go_br (fun hc => ?_) (fun hc => ?_) | refine go_grd (fun hc => ?_) (fun hc => ?_) | refine go_dgrd (fun hc => ?_) (fun hc => ?_)) <;> (try simp only [decide_eq_true_eq, decide_eq_false_iff_not, Bool.not_eq_true', Bool.not_eq_false'] at hc) <;> simp only [seval, go_sem, hc, h, h', hgd, Field.p, rmW, wrap_succ i (by omega), List.map_nil])
             | ((with_reducible_and_instances first | refine go_use (hu) ?_); simp only [seval, go_sem, h, h', hgd, Field.p, rmW, wrap_succ i (by omega), List.map_nil])
             | ((with_reducible refine And.intro ?_ ?_); focus omega))
            exact ⟨i + 1, by rw [hst]; rfl, h', by (try dsimp only); omega⟩
          · subst k
            simp only [seval, go_sem, h, h', hgd, Field.p, rmW, wrap_succ i (by omega), List.map_nil]
            repeat' (first
             | ((with_reducible_and_instances first | refine go_br (fun hc => ?_) (fun hc => ?_) | refine go_grd (fun hc => ?_) (fun hc => ?_) | refine go_dgrd (fun hc => ?_) (fun hc => ?_)) <;> (try simp only [decide_eq_true_eq, decide_eq_false_iff_not, Bool.not_eq_true', Bool.not_eq_false'] at hc) <;> simp only [seval, go_sem, hc, h, h', hgd, Field.p, rmW, wrap_succ i (by omega), List.map_nil])
             | ((with_reducible_and_instances first | refine go_use (hu) ?_); simp only [seval, go_sem, h, h', hgd, Field.p, rmW, wrap_succ i (by omega), List.map_nil])
             | ((with_reducible refine And.intro ?_ ?_); focus omega))
            exact ⟨i + 1, by rw [hst]; rfl, h', by (try dsimp only); omega⟩
          · subst k
            simp only [seval, go_sem, h, h', hgd, Field.p, rmW, wrap_succ i (by omega), List.map_nil]
            repeat' (first
             | ((with_reducible_and_instances first | refine go_br (fun hc => ?_) (fun hc => ?_) | refine go_grd (fun hc => ?_) (fun hc => ?_) | refine go_dgrd (fun hc => ?_) (fun hc => ?_)) <;> (try simp only [decide_eq_true_eq, decide_eq_false_iff_not, Bool.not_eq_true', Bool.not_eq_false'] at hc) <;> simp only [seval, go_sem, hc, h, h', hgd, Field.p, rmW, wrap_succ i (by omega), List.map_nil])
             | ((with_reducible_and_instances first | refine go_use (hu) ?_); simp only [seval, go_sem, h, h', hgd, Field.p, rmW, wrap_succ i (by omega), List.map_nil])
             | ((with_reducible refine And.intro ?_ ?_); focus omega))
            exact ⟨i + 1, by rw [hst]; rfl, h', by (try dsimp only); omega⟩
          · rw [ku] at hu
            simp only [seval, go_sem, h, h', hgd, Field.p, rmW, k2, k3, k11, wrap_succ i (by omega), List.map_nil]
            repeat' (first
             | ((with_reducible_and_instances first | refine go_br (fun hc => ?_) (fun hc => ?_) | refine go_grd (fun hc => ?_) (fun hc => ?_) | refine go_dgrd (fun hc => ?_) (fun hc => ?_)) <;> (try simp only [decide_eq_true_eq, decide_eq_false_iff_not, Bool.not_eq_true', Bool.not_eq_false'] at hc) <;> simp only [seval, go_sem, hc, h, h', hgd, Field.p, rmW, k2, k3, k11, wrap_succ i (by omega), List.map_nil])
             | ((with_reducible_and_instances first | refine go_use (hu) ?_); simp only [seval, go_sem, h, h', hgd, Field.p, rmW, k2, k3, k11, wrap_succ i (by omega), List.map_nil])
             | ((with_reducible refine And.intro ?_ ?_); focus omega))
            exact ⟨i + 1, by rw [hst]; rfl, h', by (try dsimp only); omega⟩
        | cons a r =>
          simp only [List.length_cons] at hal
          rcases hk' with k | k | k | ⟨k2, k3, k11, ku⟩
          · subst k
            simp only [seval, go_sem, h, h', hgd, Field.p, rmW, wrap_succ i (by omega)]
            repeat' (first
             | ((with_reducible_and_instances first | refine go_br (fun hc => ?_) (fun hc => ?_) | refine go_grd (fun hc => ?_) (fun hc => ?_) | refine go_dgrd (fun hc => ?_) (fun hc => ?_)) <;> (try simp only [decide_eq_true_eq, decide_eq_false_iff_not, Bool.not_eq_true', Bool.not_eq_false'] at hc) <;> simp only [seval, go_sem, hc, h, h', hgd, Field.p, rmW, wrap_succ i (by omega)])
             | ((with_reducible_and_instances first | refine go_use (hu) ?_); simp only [seval, go_sem, h, h', hgd, Field.p, rmW, wrap_succ i (by omega)])
             | ((with_reducible refine And.intro ?_ ?_); focus omega))
            refine ⟨i + 1, ?_, h', by (try dsimp only); omega⟩
            rw [hst]
            simp only [List.cons_append, rmW, List.length_append, List.length_cons, List.length_nil, List.map_append, List.map_cons, List.map_nil]; rfl
          · subst k
            simp only [seval, go_sem, h, h', hgd, Field.p, rmW, wrap_succ i (by omega)]
            repeat' (first
             | ((with_reducible_and_instances first | refine go_br (fun hc => ?_) (fun hc => ?_) | refine go_grd (fun hc => ?_) (fun hc => ?_) | refine go_dgrd (fun hc => ?_) (fun hc => ?_)) <;> (try simp only [decide_eq_true_eq, decide_eq_false_iff_not, Bool.not_eq_true', Bool.not_eq_false'] at hc) <;> simp only [seval, go_sem, hc, h, h', hgd, Field.p, rmW, wrap_succ i (by omega)])
             | ((with_reducible_and_instances first | refine go_use (hu) ?_); simp only [seval, go_sem, h, h', hgd, Field.p, rmW, wrap_succ i (by omega)])
             | ((with_reducible refine And.intro ?_ ?_); focus omega))
            refine ⟨i + 1, ?_, h', by (try dsimp only); omega⟩
            rw [hst]
            simp only [List.cons_append, rmW, List.length_append, List.length_cons, List.length_nil, List.map_append, List.map_cons, List.map_nil]; rfl
          · subst k
            simp only [seval, go_sem, h, h', hgd, Field.p, rmW, wrap_succ i (by omega)]
            repeat' (first
             | ((with_reducible_and_instances first | refine go_br (fun hc => ?_) (fun hc => ?_) | refine go_grd (fun hc => ?_) (fun hc => ?_) | refine go_dgrd (fun hc => ?_) (fun hc => ?_)) <;> (try simp only [decide_eq_true_eq, decide_eq_false_iff_not, Bool.not_eq_true', Bool.not_eq_false'] at hc) <;> simp only [seval, go_sem, hc, h, h', hgd, Field.p, rmW, wrap_succ i (by omega)])
             | ((with_reducible_and_instances first | refine go_use (hu) ?_); simp only [seval, go_sem, h, h', hgd, Field.p, rmW, wrap_succ i (by omega)])
             | ((with_reducible refine And.intro ?_ ?_); focus omega))
            refine ⟨i + 1, ?_, h', by (try dsimp only); omega⟩
            rw [hst]
            simp only [List.cons_append, rmW, List.length_append, List.length_cons, List.length_nil, List.map_append, List.map_cons, List.map_nil]; rfl
          · rw [ku] at hu
            simp only [seval, go_sem, h, h', hgd, Field.p, rmW, k2, k3, k11, wrap_succ i (by omega)]
            repeat' (first
             | ((with_reducible_and_instances first | refine go_br (fun hc => ?_) (fun hc => ?_) | refine go_grd (fun hc => ?_) (fun hc => ?_) | refine go_dgrd (fun hc => ?_) (fun hc => ?_)) <;> (try simp only [decide_eq_true_eq, decide_eq_false_iff_not, Bool.not_eq_true', Bool.not_eq_false'] at hc) <;> simp only [seval, go_sem, hc, h, h', hgd, Field.p, rmW, k2, k3, k11, wrap_succ i (by omega)])
             | ((with_reducible_and_instances first | refine go_use (hu) ?_); simp only [seval, go_sem, h, h', hgd, Field.p, rmW, k2, k3, k11, wrap_succ i (by omega)])
             | ((with_reducible refine And.intro ?_ ?_); focus omega))
            refine ⟨i + 1, ?_, h', by (try dsimp only); omega⟩
            rw [hst]
            simp only [List.cons_append, rmW, List.length_append, List.length_cons, List.length_nil, List.map_append, List.map_cons, List.map_nil]; rfl
      · rw [tf_false hk, if_neg (by simp), List.append_nil] at hst
        have k2 : ¬ fd.no = 2 := fun g => hk (.inl g)
        have k3 : ¬ fd.no = 3 := fun g => hk (.inr (.inl g))
        have k11 : ¬ fd.no = 11 := fun g => hk (.inr (.inr (.inl g)))
        have ku : tf (uses q.op fd.no) = false := tf_false fun g => hk (.inr (.inr (.inr g)))
        rw [ku] at hu
        cases acc with
        | nil =>
          simp only [seval, go_sem, h, h', hgd, Field.p, rmW, k2, k3, k11, wrap_succ i (by omega), List.map_nil]
          repeat' (first
           | ((with_reducible_and_instances first | refine go_br (fun hc => ?_) (fun hc => ?_) | refine go_grd (fun hc => ?_) (fun hc => ?_) | refine go_dgrd (fun hc => ?_) (fun hc => ?_)) <;> (try simp only [decide_eq_true_eq, decide_eq_false_iff_not, Bool.not_eq_true', Bool.not_eq_false'] at hc) <;> simp only [seval, go_sem, hc, h, h', hgd, Field.p, rmW, k2, k3, k11, wrap_succ i (by omega), List.map_nil])
           | ((with_reducible_and_instances first | refine go_use (hu) ?_); simp only [seval, go_sem, h, h', hgd, Field.p, rmW, k2, k3, k11, wrap_succ i (by omega), List.map_nil])
           | ((with_reducible refine And.intro ?_ ?_); focus omega))
          exact ⟨i + 1, by rw [hst]; rfl, h', by (try dsimp only); omega⟩
        | cons a r =>
          simp only [seval, go_sem, h, h', hgd, Field.p, rmW, k2, k3, k11, wrap_succ i (by omega)]
          repeat' (first
           | ((with_reducible_and_instances first | refine go_br (fun hc => ?_) (fun hc => ?_) | refine go_grd (fun hc => ?_) (fun hc => ?_) | refine go_dgrd (fun hc => ?_) (fun hc => ?_)) <;> (try simp only [decide_eq_true_eq, decide_eq_false_iff_not, Bool.not_eq_true', Bool.not_eq_false'] at hc) <;> simp only [seval, go_sem, hc, h, h', hgd, Field.p, rmW, k2, k3, k11, wrap_succ i (by omega)])
           | ((with_reducible_and_instances first | refine go_use (hu) ?_); simp only [seval, go_sem, h, h', hgd, Field.p, rmW, k2, k3, k11, wrap_succ i (by omega)])
           | ((with_reducible refine And.intro ?_ ?_); focus omega))
          exact ⟨i + 1, by rw [hst]; rfl, h', by (try dsimp only); omega⟩
    · have e : l.take i = l := List.take_of_length_le (by omega)
      rw [e]
      generalize keepL q l = acc at *
      cases acc with
      | nil =>
        simp only [seval, go_sem, h, rmW]
        repeat' (first
         | ((with_reducible_and_instances first | refine go_br (fun hc => ?_) (fun hc => ?_) | refine go_grd (fun hc => ?_) (fun hc => ?_) | refine go_dgrd (fun hc => ?_) (fun hc => ?_)) <;> (try simp only [decide_eq_true_eq, decide_eq_false_iff_not, Bool.not_eq_true', Bool.not_eq_false'] at hc) <;> simp only [seval, go_sem, hc, h, rmW])
         | ((with_reducible refine And.intro ?_ ?_); focus omega))
        exact ⟨rfl, rfl⟩
      | cons a r =>
        simp only [seval, go_sem, h, rmW]
        repeat' (first
         | ((with_reducible_and_instances first | refine go_br (fun hc => ?_) (fun hc => ?_) | refine go_grd (fun hc => ?_) (fun hc => ?_) | refine go_dgrd (fun hc => ?_) (fun hc => ?_)) <;> (try simp only [decide_eq_true_eq, decide_eq_false_iff_not, Bool.not_eq_true', Bool.not_eq_false'] at hc) <;> simp only [seval, go_sem, hc, h, rmW])
         | ((with_reducible refine And.intro ?_ ?_); focus omega))
        refine ⟨rfl, ?_⟩
        simp [R.wk, R.wks, O.wk, Msg.c, List.take_of_length_le]
theorem tup2_eq {a b : R} {c d : R} (h1 : a = c) (h2 : b = d) : R.tup [a, b] = R.tup [c, d] := by rw [h1, h2]
end Go.AW
namespace Go.AW
open IntWalk
set_option maxRecDepth 20000
noncomputable def repMsg (m : Msg) (code : Int) (hold told : Str) : Msg := ⟨replyMti m.mti, repList m code hold told⟩
structure RepOk (m : Msg) (code : Int) (hold told : Str) : Prop where
  fit : MFit m
  ok : msgOk m
  mti : mtiOk m.mti
  cin : 0 ≤ code ∧ code ≤ 10
  holdl : hold.length < 1000000
  rok : msgOk (repMsg m code hold told)
  rfit : MFit (repMsg m code hold told)
theorem ireplied_ret (m : Msg) (code : Int) (hold told : Str) (h : RepOk m code hold told) : Ret PG f_impl_replied [.v m.p, aI code, aS hold, aS told] (.o (.own 1 ((encode (repMsg m code hold told)).map eb))) [] := by
  have hr := iReply_ret m code hold told h.fit h.ok h.mti h.cin h.holdl h.rok h.rfit
  have he := iEncode_ok (repMsg m code hold told) h.rfit h.rok
  have hx : repMsg m code hold told = ⟨replyMti m.mti, repList m code hold told⟩ := rfl
  rw [hx] at he ⊢
  simp only [Msg.p, Msg.c] at hr he ⊢
  refine exact_of (p_impl_replied rfl rfl ?_)
  simp only [seval, go_sem, i_impl_replied]
  repeat' (first
   | ((with_reducible_and_instances first | refine go_br (fun hc => ?_) (fun hc => ?_) | refine go_grd (fun hc => ?_) (fun hc => ?_) | refine go_dgrd (fun hc => ?_) (fun hc => ?_)) <;> (try simp only [decide_eq_true_eq, decide_eq_false_iff_not, Bool.not_eq_true', Bool.not_eq_false'] at hc) <;> simp only [seval, go_sem, hc])
   | ((with_reducible_and_instances first | refine go_use (hr) ?_ | refine go_use (he) ?_); simp only [seval, go_sem]))
noncomputable def replyCode (b : List UInt8) : Int × Bool :=
  if (parse b).2 = 0 then (match msgField (parse b).1 39 with
    | some s => (if 0 > textRs s then 0 else textRs s, tf (0 ≤ textRs s))
    | none => (0, false)) else (0, false)
theorem iReplyCode_ret (b : List UInt8) (hb : b.length < 4294967296) (hl : (parse b).1.list.length < 16777216) : Ret PG f_impl_ReplyCode [aBs b] (.tup [oI (replyCode b).1, oB (replyCode b).2]) [] := by
  have hp := iParse_ret b hb
  have hf := iFieldOf_ret (parse b).1 39 hl
  have hrc : replyCode b = if (parse b).2 = 0 then (match msgField (parse b).1 39 with
    | some s => (if 0 > textRs s then 0 else textRs s, tf (0 ≤ textRs s))
    | none => (0, false)) else (0, false) := rfl
  generalize parse b = x at *
  obtain ⟨m, c⟩ := x
  rw [strR_eq] at hf
  simp only [Msg.p, Msg.c] at hp hf hrc
  rw [hrc]
  have ht := fun s => iTextRs_ret s
  generalize msgField m 39 = y at *
  refine exact_of (p_impl_ReplyCode rfl rfl ?_)
  simp only [seval, go_sem, i_impl_ReplyCode]
  cases y with
  | none =>
    by_cases h : c = 0
    · subst h
      simp only [Option.getD_none, Option.isSome_none] at hf
      repeat' (first
       | ((with_reducible_and_instances first | refine go_br (fun hc => ?_) (fun hc => ?_) | refine go_grd (fun hc => ?_) (fun hc => ?_) | refine go_dgrd (fun hc => ?_) (fun hc => ?_)) <;> (try simp only [decide_eq_true_eq, decide_eq_false_iff_not, Bool.not_eq_true', Bool.not_eq_false'] at hc) <;> simp only [seval, go_sem, hc])
       | ((with_reducible_and_instances first | refine go_use (hp) ?_ | refine go_use (hf) ?_); simp only [seval, go_sem]))
    · simp only [Option.getD_none, Option.isSome_none] at hf
      repeat' (first
       | ((with_reducible_and_instances first | refine go_br (fun hc => ?_) (fun hc => ?_) | refine go_grd (fun hc => ?_) (fun hc => ?_) | refine go_dgrd (fun hc => ?_) (fun hc => ?_)) <;> (try simp only [decide_eq_true_eq, decide_eq_false_iff_not, Bool.not_eq_true', Bool.not_eq_false'] at hc) <;> simp only [seval, go_sem, hc, h])
       | ((with_reducible_and_instances first | refine go_use (hp) ?_ | refine go_use (hf) ?_); simp only [seval, go_sem, h]))
  | some s =>
    simp only [Option.getD_some, Option.isSome_some] at hf
    by_cases h : c = 0
    · subst h
      repeat' (first
       | ((with_reducible_and_instances first | refine go_br (fun hc => ?_) (fun hc => ?_) | refine go_grd (fun hc => ?_) (fun hc => ?_) | refine go_dgrd (fun hc => ?_) (fun hc => ?_)) <;> (try simp only [decide_eq_true_eq, decide_eq_false_iff_not, Bool.not_eq_true', Bool.not_eq_false'] at hc) <;> simp only [seval, go_sem, hc])
       | ((with_reducible_and_instances first | refine go_use (hp) ?_ | refine go_use (hf) ?_ | refine go_use (iTextRs_ret s) ?_); simp only [seval, go_sem]))
    · repeat' (first
       | ((with_reducible_and_instances first | refine go_br (fun hc => ?_) (fun hc => ?_) | refine go_grd (fun hc => ?_) (fun hc => ?_) | refine go_dgrd (fun hc => ?_) (fun hc => ?_)) <;> (try simp only [decide_eq_true_eq, decide_eq_false_iff_not, Bool.not_eq_true', Bool.not_eq_false'] at hc) <;> simp only [seval, go_sem, hc, h])
       | ((with_reducible_and_instances first | refine go_use (hp) ?_ | refine go_use (hf) ?_); simp only [seval, go_sem, h]))
theorem iHandle_full (b : Book) (bs : List UInt8) (now : Int) (m : Msg) (q : Req) (k : Nat) (a1 : Int) (fb : BFit b) (hb : bs.length < 4294967296) (h1 : bookOk b) (h2 : time now)
    (h3 : parse bs = (m, 0)) (h4 : getBcd bs 0 4 = some (m.mti, a1)) (h5 : RepOk m 10 [] []) (h6 : reqOf m = (q, 0)) (hk : k < b.length) (h7 : idx (fun a => a.id = q.acct) b = k)
    (h8 : ∀ s ∈ b[k].slots, ¬ (s.trace = q.trace ∧ s.mti = q.mti)) (h9 : b[k].slots.length = 6) :
    Ret PG f_impl_Handle [.v (bookP b), aBs bs, aI now] (.tup [.agg [.p (.sl 11 (b.map Acct.p))], .o (.own 1 ((encode (repMsg m 10 [] [])).map eb))]) [] := by
  have c1 := iParse_ret bs hb
  have c2 := iBookOk_ret b fb
  have c3 := iTime_ret now
  have c4 := iGetBcd_ret bs 0 4 hb
  have c5 := iReplyMti_ret m.mti h5.fit.mti
  have c6 := iReqOf_ret m h5.fit
  have c7 := iBookAt_ret b q.acct (by have := fb.len; omega)
  have c8 := iSlotOf_none b[k].slots q.trace q.mti (by omega) h8
  have c9 := ireplied_ret m 10 [] [] h5
  have c10 := iBookCopied_wk b fb
  have hne1 : ¬ replyMti m.mti = [] := by unfold replyMti; rw [tf_true h5.mti]; simp
  rw [tf_true h1] at c2
  rw [tf_true h2] at c3
  rw [h3] at c1
  rw [h4] at c4
  rw [h6] at c6
  rw [h7] at c7
  have e1 : ¬ ((k : Int) < 0) := by omega
  have e2 : (k : Int) < b.length := by omega
  have e3 := getD_map Acct.p b k hk
  have e4 : b[k].slots.length = 6 := h9
  simp only [Msg.p, Msg.c, bookP, bcdR, Req.c] at *
  generalize b[k] = a at *
  refine exact_of (p_impl_Handle rfl rfl ?_)
  simp only [seval, go_sem, i_impl_Handle]
  repeat' (first
   | ((with_reducible_and_instances first | refine go_br (fun hc => ?_) (fun hc => ?_) | refine go_grd (fun hc => ?_) (fun hc => ?_) | refine go_dgrd (fun hc => ?_) (fun hc => ?_)) <;> (try simp only [decide_eq_true_eq, decide_eq_false_iff_not, Bool.not_eq_true', Bool.not_eq_false'] at hc) <;> simp only [seval, go_sem, hc, hne1, e1, e2, e3, e4, Acct.p])
   | ((with_reducible_and_instances first | refine go_use (c1) ?_ | refine go_use (c2) ?_ | refine go_use (c3) ?_ | refine go_use (c4) ?_ | refine go_use (c5) ?_ | refine go_use (c6) ?_ | refine go_use (c7) ?_ | refine go_use (c8) ?_ | refine go_use (c9) ?_ | refine go_use (c10) ?_); simp only [seval, go_sem, hne1, e1, e2, e3, e4, Acct.p]))
end Go.AW
namespace Go.AW
open IntWalk
theorem and255 (x : Int) : 0 ≤ IntKind.i64.wrap ((BitVec.ofInt 64 x &&& BitVec.ofInt 64 255).toNat : Int) ∧ IntKind.i64.wrap ((BitVec.ofInt 64 x &&& BitVec.ofInt 64 255).toNat : Int) ≤ 255 := by
  have h : (BitVec.ofInt 64 x &&& BitVec.ofInt 64 255).toNat ≤ 255 := by
    rw [BitVec.toNat_and]
    exact Nat.le_trans Nat.and_le_right (by decide)
  rw [i64_in _ (by omega)]
  omega
structure Cur where
  b : List UInt8
  i : Nat
  h : Int
  hb : b.length ≤ 1048576
  hi : i ≤ b.length
abbrev Cur.o (c : Cur) : List O := [.p (.sl 1 (c.b.map eb)), .p (.int .i64 c.i), .p (.int .i64 c.h)]
abbrev Cur.a (c : Cur) : A := .box [.p (.sl 1 (c.b.map eb)), .p (.int .i64 c.i), .p (.int .i64 c.h)]
theorem ex_of {α : Type} {f : FuncId} {args : List A} {ρ : α → R} {σ : α → List (List O)} {Q : α → Prop} (h : ∃ res outs, Ret PG f args res outs ∧ ∃ r, res = ρ r ∧ outs = σ r ∧ Q r) : ∃ r, Ret PG f args (ρ r) (σ r) ∧ Q r := by
  obtain ⟨_, _, h, r, rfl, rfl, q⟩ := h; exact ⟨r, h, q⟩
theorem exw_of {α : Type} {f : FuncId} {args : List A} {ρ : α → R} {σ : α → List (List O)} {Q : α → Prop} (h : ∃ res outs, Ret PG f args res outs ∧ ∃ r, boxless res = true ∧ res.wk = ρ r ∧ outs = σ r ∧ Q r) : ∃ r, Ret PG f args (ρ r) (σ r) ∧ Q r := by
  obtain ⟨_, _, h, r, h2, h3, rfl, q⟩ := h
  have := h.wk h2
  rw [h3] at this; exact ⟨r, this, q⟩
theorem cur_ex {x j h : Int} {b : List UInt8} (Q : Int → Prop) (i : Nat) (hb : b.length ≤ 1048576) (hi : i ≤ b.length) (e : (i : Int) = j) (q : Q x) :
    ∃ r : Int × Cur, oI x = oI r.1 ∧ [[.p (.sl 1 (b.map eb)), .p (.int .i64 j), .p (.int .i64 h)]] = [r.2.o] ∧ Q r.1 := ⟨(x, ⟨b, i, h, hb, hi⟩), rfl, by subst e; rfl, q⟩
theorem sByte_ex (c : Cur) : ∃ r : Int × Cur, Ret PG f_spec_l01Byte [c.a] (oI r.1) [r.2.o] ∧ (0 ≤ r.1 ∧ r.1 ≤ 255) := by
  refine ex_of ?_
  have hb := c.hb
  have hi := c.hi
  by_cases h : (c.i : Int) < c.b.length
  · have h' : c.i < c.b.length := by omega
    have h2 : ((c.i + 1 : Nat) : Int) ≤ c.b.length := by omega
    have hg := getD_map eb c.b c.i h'
    simp only [eb] at hg
    refine p_spec_l01Byte rfl rfl ?_
    simp only [seval, go_sem, i_spec_l01Byte, h, hg, eb, wrap_succ c.i (by omega)]
    exact cur_ex (fun x => 0 ≤ x ∧ x ≤ 255) (c.i + 1) hb (by omega) rfl (and255 _)
  · refine p_spec_l01Byte rfl rfl ?_
    simp only [seval, go_sem, i_spec_l01Byte, h]
    exact cur_ex (fun x => 0 ≤ x ∧ x ≤ 255) c.i hb hi rfl (and255 _)
noncomputable def byteV (c : Cur) : Int × Cur := (sByte_ex c).choose
theorem sByte_ret (c : Cur) : Ret PG f_spec_l01Byte [c.a] (oI (byteV c).1) [(byteV c).2.o] := (sByte_ex c).choose_spec.1
theorem byteV_in (c : Cur) : 0 ≤ (byteV c).1 ∧ (byteV c).1 ≤ 255 := (sByte_ex c).choose_spec.2
theorem tmod_in (x n : Int) (hx : 0 ≤ x) (hn : 0 < n) : 0 ≤ x.tmod n ∧ x.tmod n < n := by
  rw [Int.tmod_eq_emod_of_nonneg hx]
  exact ⟨Int.emod_nonneg _ (by omega), Int.emod_lt_of_pos _ hn⟩
theorem sBelow_ex (c : Cur) (n : Int) : ∃ r : Int × Cur, Ret PG f_spec_l01Below [c.a, aI n] (oI r.1) [r.2.o] ∧ (0 ≤ r.1 ∧ (n ≤ 0 → r.1 = 0) ∧ (0 < n → r.1 < n)) := by
  refine ex_of ?_
  by_cases hn : n ≤ 0
  · refine p_spec_l01Below rfl rfl ?_
    simp only [seval, go_sem, i_spec_l01Below, hn]
    exact ⟨(0, c), rfl, rfl, by omega⟩
  · have hn0 : ¬ n = 0 := by omega
    by_cases hb : n ≤ 256
    · refine p_spec_l01Below rfl rfl ?_
      simp only [seval, go_sem, i_spec_l01Below, hn, hb, hn0]
      repeat' (first
       | ((with_reducible_and_instances first | refine go_br (fun hc => ?_) (fun hc => ?_) | refine go_grd (fun hc => ?_) (fun hc => ?_) | refine go_dgrd (fun hc => ?_) (fun hc => ?_)) <;> (try simp only [decide_eq_true_eq, decide_eq_false_iff_not, Bool.not_eq_true', Bool.not_eq_false'] at hc) <;> simp only [seval, go_sem, hc, hn0])
       | ((with_reducible_and_instances first | refine go_use (sByte_ret _) ?_); simp only [seval, go_sem, hn0]))
      have := tmod_in (byteV c).1 n (byteV_in c).1 (by omega)
      exact ⟨(_, _), rfl, rfl, this.1, fun g => g.elim, fun _ => this.2⟩
    · refine p_spec_l01Below rfl rfl ?_
      simp only [seval, go_sem, i_spec_l01Below, hn, hb, hn0]
      repeat' (first
       | ((with_reducible_and_instances first | refine go_br (fun hc => ?_) (fun hc => ?_) | refine go_grd (fun hc => ?_) (fun hc => ?_) | refine go_dgrd (fun hc => ?_) (fun hc => ?_)) <;> (try simp only [decide_eq_true_eq, decide_eq_false_iff_not, Bool.not_eq_true', Bool.not_eq_false'] at hc) <;> simp only [seval, go_sem, hc, hn0])
       | ((with_reducible_and_instances first | refine go_use (sByte_ret _) ?_); simp only [seval, go_sem, hn0]))
      have h1 := byteV_in c
      have h2 := byteV_in (byteV c).2
      have h3 := byteV_in (byteV (byteV c).2).2
      have h4 := byteV_in (byteV (byteV (byteV c).2).2).2
      generalize (byteV c).1 = x1 at *
      generalize (byteV (byteV c).2).1 = x2 at *
      generalize (byteV (byteV (byteV c).2).2).1 = x3 at *
      generalize (byteV (byteV (byteV (byteV c).2).2).2).1 = x4 at *
      rw [i64_in (x1 * 16777216) (by omega), i64_in (x2 * 65536) (by omega), i64_in (x1 * 16777216 + x2 * 65536) (by omega), i64_in (x3 * 256) (by omega),
        i64_in (x1 * 16777216 + x2 * 65536 + x3 * 256) (by omega), i64_in (x1 * 16777216 + x2 * 65536 + x3 * 256 + x4) (by omega)]
      have := tmod_in (x1 * 16777216 + x2 * 65536 + x3 * 256 + x4) n (by omega) (by omega)
      exact ⟨(_, _), rfl, rfl, this.1, fun g => g.elim, fun _ => this.2⟩
noncomputable def belowV (c : Cur) (n : Int) : Int × Cur := (sBelow_ex c n).choose
theorem sBelow_ret (c : Cur) (n : Int) : Ret PG f_spec_l01Below [c.a, aI n] (oI (belowV c n).1) [(belowV c n).2.o] := (sBelow_ex c n).choose_spec.1
theorem belowV_in (c : Cur) (n : Int) : 0 ≤ (belowV c n).1 ∧ (n ≤ 0 → (belowV c n).1 = 0) ∧ (0 < n → (belowV c n).1 < n) := (sBelow_ex c n).choose_spec.2
theorem sOnce_ex (c : Cur) (n : Int) : ∃ r : Bool × Cur, Ret PG f_spec_l01Once [c.a, aI n] (oB r.1) [r.2.o] ∧ True := by
  refine ex_of ?_
  refine p_spec_l01Once rfl rfl ?_
  simp only [seval, go_sem, i_spec_l01Once]
  repeat' (first
   | ((with_reducible_and_instances first | refine go_br (fun hc => ?_) (fun hc => ?_) | refine go_grd (fun hc => ?_) (fun hc => ?_) | refine go_dgrd (fun hc => ?_) (fun hc => ?_)) <;> (try simp only [decide_eq_true_eq, decide_eq_false_iff_not, Bool.not_eq_true', Bool.not_eq_false'] at hc) <;> simp only [seval, go_sem, hc])
   | ((with_reducible_and_instances first | refine go_use (sBelow_ret _ _) ?_); simp only [seval, go_sem]))
  exact ⟨(_, _), rfl, rfl⟩
noncomputable def onceV (c : Cur) (n : Int) : Bool × Cur := (sOnce_ex c n).choose
theorem sOnce_ret (c : Cur) (n : Int) : Ret PG f_spec_l01Once [c.a, aI n] (oB (onceV c n).1) [(onceV c n).2.o] := (sOnce_ex c n).choose_spec.1
theorem sPick_ex (c : Cur) (l : List Int) (hl : l ≠ []) : ∃ r : Int × Cur, Ret PG f_spec_l01Pick [c.a, aIs l] (oI r.1) [r.2.o] ∧ r.1 ∈ l := by
  refine ex_of ?_
  have hp : 0 < l.length := List.length_pos_iff.2 hl
  obtain ⟨a1, a2, a3⟩ := belowV_in c l.length
  have hx := a3 (by omega)
  have hg := getD_map ei l (belowV c l.length).1.toNat (by omega)
  simp only [ei] at hg
  refine p_spec_l01Pick rfl rfl ?_
  simp only [seval, go_sem, i_spec_l01Pick]
  repeat' (first
   | ((with_reducible_and_instances first | refine go_br (fun hc => ?_) (fun hc => ?_) | refine go_grd (fun hc => ?_) (fun hc => ?_) | refine go_dgrd (fun hc => ?_) (fun hc => ?_)) <;> (try simp only [decide_eq_true_eq, decide_eq_false_iff_not, Bool.not_eq_true', Bool.not_eq_false'] at hc) <;> simp only [seval, go_sem, hc, a1, hx, hg, ei])
   | ((with_reducible_and_instances first | refine go_use (sBelow_ret _ _) ?_); simp only [seval, go_sem, a1, hx, hg, ei]))
  exact ⟨(_, _), rfl, rfl, at_mem _⟩
noncomputable def pickV (c : Cur) (l : List Int) (hl : l ≠ []) : Int × Cur := (sPick_ex c l hl).choose
theorem sPick_ret (c : Cur) (l : List Int) (hl : l ≠ []) : Ret PG f_spec_l01Pick [c.a, aIs l] (oI (pickV c l hl).1) [(pickV c l hl).2.o] := (sPick_ex c l hl).choose_spec.1
theorem pickV_in (c : Cur) (l : List Int) (hl : l ≠ []) : (pickV c l hl).1 ∈ l := (sPick_ex c l hl).choose_spec.2
theorem sStr_ex (c : Cur) (l : List Str) (hl : l ≠ []) : ∃ r : Str × Cur, Ret PG f_spec_l01Str [c.a, .v (.sl 1 (l.map es))] (oS r.1) [r.2.o] ∧ r.1 ∈ l := by
  refine ex_of ?_
  have hp : 0 < l.length := List.length_pos_iff.2 hl
  obtain ⟨a1, a2, a3⟩ := belowV_in c l.length
  have hx := a3 (by omega)
  have hg := getD_map es l (belowV c l.length).1.toNat (by omega)
  simp only [es] at hg
  refine p_spec_l01Str rfl rfl ?_
  simp only [seval, go_sem, i_spec_l01Str]
  repeat' (first
   | ((with_reducible_and_instances first | refine go_br (fun hc => ?_) (fun hc => ?_) | refine go_grd (fun hc => ?_) (fun hc => ?_) | refine go_dgrd (fun hc => ?_) (fun hc => ?_)) <;> (try simp only [decide_eq_true_eq, decide_eq_false_iff_not, Bool.not_eq_true', Bool.not_eq_false'] at hc) <;> simp only [seval, go_sem, hc, a1, hx, hg, es])
   | ((with_reducible_and_instances first | refine go_use (sBelow_ret _ _) ?_); simp only [seval, go_sem, a1, hx, hg, es]))
  exact ⟨(_, _), rfl, rfl, at_mem _⟩
noncomputable def strV (c : Cur) (l : List Str) (hl : l ≠ []) : Str × Cur := (sStr_ex c l hl).choose
theorem sStr_ret (c : Cur) (l : List Str) (hl : l ≠ []) : Ret PG f_spec_l01Str [c.a, .v (.sl 1 (l.map es))] (oS (strV c l hl).1) [(strV c l hl).2.o] := (sStr_ex c l hl).choose_spec.1
theorem strV_in (c : Cur) (l : List Str) (hl : l ≠ []) : (strV c l hl).1 ∈ l := (sStr_ex c l hl).choose_spec.2
theorem new_st (B : P) (E I E0 : Int) : st 32 [(0, L.p B), (3, L.p (P.int .i64 E)), (4, L.p (P.int .i64 I))] [] = st 32 [(3, L.p (P.int .i64 E)), (4, L.p (P.int .i64 I)), (0, L.p B), (3, L.p (P.int .i64 E0)), (4, L.p (P.int .i64 0))] [] := by
  exact rfl
theorem sNew_ex (b : List UInt8) (hb : b.length ≤ 1048576) : ∃ r : Int, Ret PG f_spec_l01New [aBs b] (.box [.p (.sl 1 (b.map eb)), .p (.int .i64 0), .p (.int .i64 r)]) [] ∧ True := by
  refine ex_of ?_
  refine p_spec_l01New rfl rfl ?_
  simp only [seval, go_sem, i_spec_l01New]
  refine go_lp (β := Nat × Int) (fun x => [(3, .p (.int .i64 x.2)), (4, .p (.int .i64 x.1))]) (fun _ => []) (fun x => x.1 ≤ b.length) (fun x => b.length - x.1) (0, IntKind.i64.wrap (1539 + b.length)) ?_ ?_ ?_
  · rfl
  · simp
  · rintro ⟨i, h⟩ hi
    simp only at hi
    by_cases h1 : (i : Int) < b.length
    · have h1' : i < b.length := by omega
      have hg := getD_map eb b i h1'
      simp only [eb] at hg
      by_cases h2 : (i : Int) < 4000
      · simp only [seval, go_sem, h1, h2, hg, eb, wrap_succ i (by omega)]
        exact ⟨(i + 1, _), new_st _ _ _ _, (show i + 1 ≤ b.length by omega), (show b.length - (i + 1) < b.length - i by omega)⟩
      · simp only [seval, go_sem, h1, h2]
        exact ⟨_, rfl⟩
    · simp only [seval, go_sem, h1]
      exact ⟨_, rfl⟩
noncomputable def newV (b : List UInt8) (hb : b.length ≤ 1048576) : Cur := ⟨b, 0, (sNew_ex b hb).choose, hb, Nat.zero_le _⟩
theorem sNew_ret (b : List UInt8) (hb : b.length ≤ 1048576) : Ret PG f_spec_l01New [aBs b] (.box (newV b hb).o) [] := (sNew_ex b hb).choose_spec.1
end Go.AW
namespace Go.AW
open IntWalk
set_option maxRecDepth 20000
theorem sRingNew_ret (b span : Int) (hb : 1 ≤ b ∧ b ≤ 8) (hs : 1 ≤ span ∧ span ≤ 1000) :
    Ret PG f_spec_RingNew [aI b, aI span] (.tup [rR (Ring.c ⟨span, 0, List.replicate b.toNat 0, List.replicate b.toNat 0⟩), oB true]) [] := by
  refine wk_of ?_
  have h1 : inr b 1 8 := hb
  have h2 : inr span 1 1000 := hs
  have e1 : 0 ≤ b := by omega
  have e2 : b < 9223372036854775808 := by omega
  have e3 : (8 : Int) * b ≤ 281474976710656 := by omega
  refine p_spec_RingNew rfl rfl ?_
  simp only [seval, go_sem, i_spec_RingNew]
  repeat' (first
   | ((with_reducible_and_instances first | refine go_br (fun hc => ?_) (fun hc => ?_) | refine go_grd (fun hc => ?_) (fun hc => ?_) | refine go_dgrd (fun hc => ?_) (fun hc => ?_)) <;> (try simp only [decide_eq_true_eq, decide_eq_false_iff_not, Bool.not_eq_true', Bool.not_eq_false'] at hc) <;> simp only [seval, go_sem, hc, tf_true h1, tf_true h2, e1, e2, e3, List.length_replicate, Nat.le_refl])
   | ((with_reducible_and_instances first | refine go_use (sIn_ret _ _ _) ?_); simp only [seval, go_sem, tf_true h1, tf_true h2, e1, e2, e3, List.length_replicate, Nat.le_refl])
   | ((with_reducible refine And.intro ?_ ?_); focus omega))
  refine ⟨rfl, ?_⟩
  simp [R.wk, R.wks, O.wk, Ring.c, ei]
theorem ringOk_len {r : Ring} (h : ringOk r) : 1 ≤ r.counts.length ∧ r.counts.length ≤ 8 ∧ r.sums.length = r.counts.length := by
  have h1 := h.2.1; have h2 := h.2.2.1; unfold inr at h1; omega
def ringO (r : Ring) : R := .agg [.p (.int .i64 r.span), .p (.int .i64 r.head), .own 1 (r.counts.map ei), .own 1 (r.sums.map ei)]
theorem sRingCopy_ret (r : Ring) (h1 : 1 ≤ r.counts.length ∧ r.counts.length ≤ 8) (h2 : 1 ≤ r.sums.length ∧ r.sums.length ≤ 8) : Ret PG f_spec_l06Copy [.v r.p] (ringO r) [] := by
  obtain ⟨sp, hd, cs, ss⟩ := r
  simp only at h1 h2
  cases cs with
  | nil => simp at h1
  | cons x cs =>
    cases ss with
    | nil => simp at h2
    | cons y ss =>
      simp only [List.length_cons] at h1 h2
      refine exact_of (p_spec_l06Copy rfl rfl ?_)
      simp only [seval, go_sem, i_spec_l06Copy, Ring.p, ringO]
      exact ⟨by omega, by omega⟩
theorem quo_in {now span : Int} (h1 : 0 ≤ now ∧ now ≤ 1000000000) (h2 : 1 ≤ span) : IntKind.i64.wrap (now.tdiv span) = now / span ∧ 0 ≤ now / span ∧ now / span ≤ now := by
  have a1 : 0 ≤ now / span := Int.ediv_nonneg h1.1 (by omega)
  have a2 : now / span ≤ now := Int.ediv_le_self _ h1.1
  rw [Int.tdiv_eq_ediv_of_nonneg h1.1]
  exact ⟨i64_in _ (by omega), a1, a2⟩
theorem set_ok {l : List Int} {i : Nat} {v : Int} (h : ∀ x ∈ l, money x) (hv : money v) : ∀ x ∈ l.set i v, money x := by
  intro x hx
  rcases List.mem_or_eq_of_mem_set hx with h1 | h1
  · exact h x h1
  · rw [h1]; exact hv
theorem money0 : money 0 := by unfold money inr; omega
theorem sRingRoll_ex (r : Ring) (h : ringOk r) (now : Int) (hn : time now) :
    ∃ r' : Ring, Ret PG f_spec_RingRoll [.v r.p, aI now] (ringO r') [] ∧ (ringOk r' ∧ r'.counts.length = r.counts.length ∧ r'.span = r.span) := by
  obtain ⟨hl1, hl2, hl3⟩ := ringOk_len h
  have c1 := sRingCopy_ret r ⟨hl1, hl2⟩ ⟨by omega, by omega⟩
  have c2 := sringOk_ret r ⟨by omega, by omega⟩
  rw [tf_true h] at c2
  have hn' : 0 ≤ now ∧ now ≤ 1000000000 := hn
  have hsp : 1 ≤ r.span ∧ r.span ≤ 1000 := h.1
  have hhd : 0 ≤ r.head ∧ r.head ≤ 1000000000 := h.2.2.2.1
  obtain ⟨q1, q2, q3⟩ := quo_in hn' hsp.1
  have s0 : ¬ r.span = 0 := by omega
  have hok := h
  obtain ⟨g1, g2, g3, g4, g5, g6⟩ := h
  obtain ⟨sp, hd, cs, ss⟩ := r
  simp only at *
  unfold Ring.p at c1 c2
  unfold ringO at c1
  refine ex_of ?_
  by_cases hle : now / sp ≤ hd
  · refine p_spec_RingRoll rfl rfl ?_
    simp only [seval, go_sem, i_spec_RingRoll, Ring.p]
    repeat' (first
     | ((with_reducible_and_instances first | refine go_br (fun hc => ?_) (fun hc => ?_) | refine go_grd (fun hc => ?_) (fun hc => ?_) | refine go_dgrd (fun hc => ?_) (fun hc => ?_)) <;> (try simp only [decide_eq_true_eq, decide_eq_false_iff_not, Bool.not_eq_true', Bool.not_eq_false'] at hc) <;> simp only [seval, go_sem, hc, tf_true hn, q1, s0, hle])
     | ((with_reducible_and_instances first | refine go_use (c1) ?_ | refine go_use (c2) ?_ | refine go_use (sTime_ret _) ?_); simp only [seval, go_sem, tf_true hn, q1, s0, hle]))
    exact ⟨⟨sp, hd, cs, ss⟩, rfl, hok, rfl, rfl⟩
  · have e6 : IntKind.i64.wrap (now / sp - hd) = now / sp - hd := i64_in _ (by omega)
    refine p_spec_RingRoll rfl rfl ?_
    simp only [seval, go_sem, i_spec_RingRoll, Ring.p]
    repeat' (first
     | ((with_reducible_and_instances first | refine go_br (fun hc => ?_) (fun hc => ?_) | refine go_grd (fun hc => ?_) (fun hc => ?_) | refine go_dgrd (fun hc => ?_) (fun hc => ?_)) <;> (try simp only [decide_eq_true_eq, decide_eq_false_iff_not, Bool.not_eq_true', Bool.not_eq_false'] at hc) <;> simp only [seval, go_sem, hc, tf_true hn, q1, s0, hle, e6])
     | ((with_reducible_and_instances first | refine go_use (c1) ?_ | refine go_use (c2) ?_ | refine go_use (sTime_ret _) ?_); simp only [seval, go_sem, tf_true hn, q1, s0, hle, e6]))
    refine go_lp (β := Nat × List Int × List Int) (fun b => [(38, .p (.int .i64 b.1))])
      (fun b => [(1000578, 0, .arr 1 (b.2.1.map ei) false), (1000579, 0, .arr 1 (b.2.2.map ei) false)])
      (fun b => b.1 ≤ cs.length ∧ b.2.1.length = cs.length ∧ b.2.2.length = cs.length ∧ (∀ x ∈ b.2.1, money x) ∧ ∀ x ∈ b.2.2, money x) (fun b => cs.length - b.1) (0, cs, ss) ?_ ?_ ?_
    · rfl
    · exact ⟨Nat.zero_le _, rfl, hl3, g5, g6⟩
    · rintro ⟨i, xs, ys⟩ ⟨hi, l1, l2, m1, m2⟩
      simp only at hi l1 l2 m1 m2
      by_cases h1 : (i : Int) < cs.length
      · have h5 : i < xs.length := by omega
        have h6 : i < ys.length := by omega
        have s1 : ((xs.map ei).set i (P.int .i64 0)).getD i default = .int .i64 0 := by simp [h5]
        have s2 : ((ys.map ei).set i (P.int .i64 0)).getD i default = .int .i64 0 := by simp [h6]
        have h1' : i < cs.length := by omega
        have h2 : (i : Int) < xs.length := by omega
        have h3 : (i : Int) < ys.length := by omega
        by_cases h4 : now / sp - hd ≤ (i : Int)
        · obtain ⟨k, hk⟩ : ∃ k : Nat, (i : Int) - (now / sp - hd) = k := ⟨((i : Int) - (now / sp - hd)).toNat, by omega⟩
          have e7 : IntKind.i64.wrap ((i : Int) - (now / sp - hd)) = (k : Int) := by rw [hk]; exact i64_in _ (by omega)
          have k1 : k < cs.length := by omega
          have k2 : k < ss.length := by omega
          have k3 : (k : Int) < cs.length := by omega
          have k4 : (k : Int) < ss.length := by omega
          have h4' : (i : Int) ≥ now / sp - hd := h4
          simp only [seval, go_sem, h1, h2, h3, h4, h4', h5, h6, s1, s2, getD_map ei xs i h5, getD_map ei ys i h6, e7, k3, k4, getD_map ei cs k k1, getD_map ei ss k k2, ei, wrap_succ i (by omega), List.length_set, List.length_map]
          repeat' (first
           | ((with_reducible_and_instances first | refine go_br (fun hc => ?_) (fun hc => ?_) | refine go_grd (fun hc => ?_) (fun hc => ?_) | refine go_dgrd (fun hc => ?_) (fun hc => ?_)) <;> (try simp only [decide_eq_true_eq, decide_eq_false_iff_not, Bool.not_eq_true', Bool.not_eq_false'] at hc) <;> simp only [seval, go_sem, hc, h1, h2, h3, h4, h4', h5, h6, s1, s2, getD_map ei xs i h5, getD_map ei ys i h6, e7, k3, k4, getD_map ei cs k k1, getD_map ei ss k k2, ei, wrap_succ i (by omega), List.length_set, List.length_map])
           | ((with_reducible refine And.intro ?_ ?_); focus omega))
          refine ⟨(i + 1, (xs.set i 0).set i cs[k], (ys.set i 0).set i ss[k]), ?_, ⟨h1', by simp [l1], by simp [l2], set_ok (set_ok m1 money0) (g5 _ (at_mem k1)), set_ok (set_ok m2 money0) (g6 _ (at_mem k2))⟩, (show cs.length - (i + 1) < cs.length - i by omega)⟩
          simp only [List.map_set]
          rfl
        · have h4' : ¬ (i : Int) ≥ now / sp - hd := h4
          simp only [seval, go_sem, h1, h2, h3, h4, h4', h5, h6, s1, s2, getD_map ei xs i h5, getD_map ei ys i h6, ei, wrap_succ i (by omega), List.length_set, List.length_map]
          repeat' (first
           | ((with_reducible_and_instances first | refine go_br (fun hc => ?_) (fun hc => ?_) | refine go_grd (fun hc => ?_) (fun hc => ?_) | refine go_dgrd (fun hc => ?_) (fun hc => ?_)) <;> (try simp only [decide_eq_true_eq, decide_eq_false_iff_not, Bool.not_eq_true', Bool.not_eq_false'] at hc) <;> simp only [seval, go_sem, hc, h1, h2, h3, h4, h4', h5, h6, s1, s2, getD_map ei xs i h5, getD_map ei ys i h6, ei, wrap_succ i (by omega), List.length_set, List.length_map])
           | ((with_reducible refine And.intro ?_ ?_); focus omega))
          refine ⟨(i + 1, xs.set i 0, ys.set i 0), ?_, ⟨h1', by simp [l1], by simp [l2], set_ok m1 money0, set_ok m2 money0⟩, (show cs.length - (i + 1) < cs.length - i by omega)⟩
          simp only [List.map_set]
          rfl
      · simp only [seval, go_sem, h1, q1, s0, l1, l2, hl3, Nat.le_refl]
        repeat' (first
         | ((with_reducible_and_instances first | refine go_br (fun hc => ?_) (fun hc => ?_) | refine go_grd (fun hc => ?_) (fun hc => ?_) | refine go_dgrd (fun hc => ?_) (fun hc => ?_)) <;> (try simp only [decide_eq_true_eq, decide_eq_false_iff_not, Bool.not_eq_true', Bool.not_eq_false'] at hc) <;> simp only [seval, go_sem, hc, h1, q1, s0, l1, l2, hl3, Nat.le_refl])
         | ((with_reducible refine And.intro ?_ ?_); focus omega))
        refine ⟨⟨sp, now / sp, xs, ys⟩, ?_, ⟨g1, ?_, ?_, ?_, m1, m2⟩, l1, rfl⟩
        · have t1 : (xs.map ei).take xs.length = xs.map ei := List.take_of_length_le (by simp)
          have t2 : (ys.map ei).take xs.length = ys.map ei := List.take_of_length_le (by simp; omega)
          simp [ringO, ← l1, t1, t2]
        · rw [l1]; exact g2
        · exact l2.trans l1.symm
        · simp only [time, inr]; omega
noncomputable def rollV (r : Ring) (h : ringOk r) (now : Int) (hn : time now) : Ring := (sRingRoll_ex r h now hn).choose
theorem sRingRoll_ret (r : Ring) (h : ringOk r) (now : Int) (hn : time now) : Ret PG f_spec_RingRoll [.v r.p, aI now] (ringO (rollV r h now hn)) [] := (sRingRoll_ex r h now hn).choose_spec.1
theorem rollV_ok (r : Ring) (h : ringOk r) (now : Int) (hn : time now) : ringOk (rollV r h now hn) := (sRingRoll_ex r h now hn).choose_spec.2.1
theorem addSat_money (a b : Int) : money (addSat a b) := by
  unfold money inr addSat clamp; omega
theorem sRingAdd_ex (r : Ring) (h : ringOk r) (now : Int) (hn : time now) (n : Int) (hm : money n) :
    ∃ r' : Ring, Ret PG f_spec_RingAdd [.v r.p, aI now, aI n] (rR r'.c) [] ∧ ringOk r' := by
  refine exw_of ?_
  obtain ⟨hl1, hl2, hl3⟩ := ringOk_len h
  have c2 := sringOk_ret r ⟨by omega, by omega⟩
  rw [tf_true h] at c2
  have c3 := sRingRoll_ret r h now hn
  have ok := rollV_ok r h now hn
  generalize rollV r h now hn = r' at *
  obtain ⟨k1, k2, k3⟩ := ringOk_len ok
  obtain ⟨g1, g2, g3, g4, g5, g6⟩ := ok
  obtain ⟨sp, hd, cs, ss⟩ := r
  obtain ⟨sp', hd', xs, ys⟩ := r'
  simp only at *
  unfold ringO at c3
  unfold Ring.p at c2 c3
  cases xs with
  | nil => simp at k1
  | cons x xs =>
    cases ys with
    | nil => simp at k3
    | cons y ys =>
      simp only [List.map_cons] at c3
      simp only [List.length_cons] at k1 k2 k3 g2 g3
      refine p_spec_RingAdd rfl rfl ?_
      simp only [seval, go_sem, i_spec_RingAdd, Ring.p]
      repeat' (first
       | ((with_reducible_and_instances first | refine go_br (fun hc => ?_) (fun hc => ?_) | refine go_grd (fun hc => ?_) (fun hc => ?_) | refine go_dgrd (fun hc => ?_) (fun hc => ?_)) <;> (try simp only [decide_eq_true_eq, decide_eq_false_iff_not, Bool.not_eq_true', Bool.not_eq_false'] at hc) <;> simp only [seval, go_sem, hc, tf_true hn, tf_true hm, List.length_cons, ei])
       | ((with_reducible_and_instances first | refine go_use (c2) ?_ | refine go_use (c3) ?_ | refine go_use (sTime_ret _) ?_ | refine go_use (sMoney_ret _) ?_ | refine go_use (sAddSat_ret _ _) ?_); simp only [seval, go_sem, tf_true hn, tf_true hm, List.length_cons, ei])
       | ((with_reducible refine And.intro ?_ ?_); focus omega))
      refine ⟨⟨sp', hd', addSat x 1 :: xs, addSat y n :: ys⟩, rfl, ?_, g1, g2, g3, g4, ?_, ?_⟩
      · simp [R.wk, O.wk, Ring.c, ei]
      · intro z hz
        rcases List.mem_cons.1 hz with e | e
        · rw [e]; exact addSat_money _ _
        · exact g5 z (List.mem_cons_of_mem _ e)
      · intro z hz
        rcases List.mem_cons.1 hz with e | e
        · rw [e]; exact addSat_money _ _
        · exact g6 z (List.mem_cons_of_mem _ e)
end Go.AW
