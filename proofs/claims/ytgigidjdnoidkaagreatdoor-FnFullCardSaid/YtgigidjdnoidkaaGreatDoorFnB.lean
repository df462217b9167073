/- Part 2 of the proof that laws.FnFull answers true at every input and leaves it as it was: an own small semantics of the translated code, contracts of the functions, the plain law. No condition. -/
import Derived.Deep.LoopGhost
import Derived.Laws.Sem
import Derived.Orders
import Derived.Test.YtgigidjdnoidkaaGreatDoorFnA
set_option linter.unusedVariables false
set_option linter.unusedSimpArgs false
set_option linter.unnecessarySimpa false
namespace Go.AW

variable {M0 : Nat → Prop} {D : List Nat} {w0 : Base} {w w' : World} {ρ ρ' : Nat → Nat} {σ : AS} {a : Act} {Pg : Program} {mem mem' : Mem}

def chkG (ops : Array Oper) : Option (Nat × Bool) → Option (Nat × Bool) → Bool
  | none, none => true
  | some (t, b), some (j, b') => decide (b = b') && decide (((ops[j]?).bind (·.dst)) = some t)
  | _, _ => false
def chkCall (io : AOp) (c : Call) : Bool :=
  match io, c.callee with
  | .call f xs _ _, .value o => chkX f o && chkXs xs c.args.toList
  | _, _ => false
def isCall : AOp → Bool
  | .call _ _ _ _ => true
  | _ => false
def chkIOp (Pg : Program) (ops : Array Oper) (io : IOp) (o : Oper) : Bool :=
  decide (io.dst = o.dst) && chkG ops io.guard o.guard && (if isCall io.op then (match o.op with | .call c => chkCall io.op c | _ => false) else chkOp Pg io.op o.op)
def chkIOps (Pg : Program) (ops : Array Oper) : List IOp → List Oper → Bool
  | [], [] => true
  | io :: ios, o :: os => chkIOp Pg ops io o && chkIOps Pg ops ios os
  | _, _ => false

theorem clo_run (h : SR M0 D w0 ρ σ a w) {f : X} {o : Operand} {args : List L} {fn : FuncId} {ls : List L} (hc : chkX f o = true) (hca : callee (ev σ.env f) args = some (fn, ls)) :
    ∃ vs caps, a.eval o = .func (.func fn) #[] vs ∧ ls = args ++ caps ∧ LRels w (mutOf M0 ρ σ.mem) ρ σ.mem caps vs.toList := by
  have h1 := ev_rel h hc
  unfold callee at hca
  split at hca
  · rename_i g caps hev
    rw [hev] at h1
    simp only [Option.some.injEq, Prod.mk.injEq] at hca; obtain ⟨rfl, rfl⟩ := hca
    simp only [LRel] at h1; obtain ⟨vs, hv, hr⟩ := h1
    exact ⟨vs, caps, hv, rfl, hr⟩
  · rename_i g caps hev
    rw [hev] at h1
    simp only [Option.some.injEq, Prod.mk.injEq] at hca; obtain ⟨rfl, rfl⟩ := hca
    simp only [LRel, PRel] at h1; obtain ⟨vs, hv, hr⟩ := h1
    exact ⟨vs, _, hv, rfl, (LRels_P _ _).2 hr⟩
  · cases hca

theorem step_wp (h : SR M0 D w0 ρ σ a w) {ops : Array Oper} {io : IOp} {o : Oper} (hc : chkIOp Pg ops io o = true) {K : Eff → AS → Prop} (hs : step Pg σ io K)
    {next : Act → World → Prop} {Q : Exit → Act → World → Prop} (hn : ∀ e a' w' ρ', K e (σ.after io.dst e) → SR M0 D w0 ρ' (σ.after io.dst e) a' w' → next a' w') : o.wp Pg a w next Q := by
  unfold chkIOp at hc
  simp only [Bool.and_eq_true, decide_eq_true_eq] at hc
  obtain ⟨⟨hd, _⟩, hop⟩ := hc
  unfold step at hs
  split at hs
  · rename_i f xs keep own hio
    rw [hio] at hop
    simp only [isCall, if_true] at hop
    split at hop
    · rename_i c hoc
      unfold chkCall at hop
      split at hop
      · rename_i f' xs' keep' own' fo hio' hcal
        injection hio' with e1 e2 e3 e4; subst e1; subst e2
        simp only [Bool.and_eq_true] at hop
        obtain ⟨fn, ls, as, hs', ss, res, outs, e, k1, k2, k3, k4, k5⟩ := hs
        obtain ⟨vs, caps, v1, rfl, v3⟩ := clo_run h hop.1 k1
        obtain ⟨⟨fd, fd1, fd2, fd3⟩, hret⟩ := k3
        have hargs := evs_rel h hop.2
        have hall := LRels_app hargs v3
        have hrun : (execOp a.eval o).run Pg w = .ok (.enter fn ((c.args.map a.eval) ++ vs)) w := by
          have f2 : ¬ fd.name = "runtime.NumGoroutine" := by simpa using fd2
          have f3 : ¬ fd.body = none := by intro hb; rw [hb] at fd3; cases fd3
          simp [execOp, hoc, resolve, hcal, v1, Deferred.ofValue, invoke, callFunc, fd1, f2, f3]
        unfold Oper.wp
        rw [hrun, Oper.upon_enter]
        have hva : (c.args.map a.eval) ++ vs = ((c.args.toList.map a.eval) ++ vs.toList).toArray := by
          apply Array.ext'; simp
        rw [hva]
        refine call_good h hall k2 hret k4 ?_
        intro v w' ρ' hsr hl
        refine hn e _ w' ρ' k5 ?_
        have := hsr.setv io.dst hl
        rw [hd] at this ⊢
        exact this
      · cases hop
    · cases hop
  · rename_i hnc
    have hic : isCall io.op = false := by
      cases hio : io.op <;> first | rfl | (exact absurd hio (hnc _ _ _ _))
    rw [hic] at hop
    simp only [Bool.false_eq_true, if_false] at hop
    obtain ⟨e, he, hk⟩ := hs
    obtain ⟨nx, v, w', ρ', hrun, hnx, hsr, hl⟩ := op_good h hop he
    have hst := hsr.setv io.dst hl
    unfold Oper.wp
    rw [hrun]
    rcases hnx with rfl | ⟨rfl, rfl⟩
    · rw [Oper.upon_value]
      rw [hd] at hst hk hn
      exact hn e _ w' ρ' hk hst
    · rw [Oper.upon_skip]
      rw [hd] at hst hk hn
      exact hn e _ w' ρ' hk hst

theorem guard_yield (h : SR M0 D w0 ρ σ a w) {ops : Array Oper} {t j : Nat} {b want : Bool} (ht : guardOf (σ.env.getD t .undef) want = some b) (hj : ((ops[j]?).bind (·.dst)) = some t) :
    (yielded ops a.tmps j == some want) = b := by
  have hlt : t < σ.env.length := by
    rcases Nat.lt_or_ge t σ.env.length with h' | h'
    · exact h'
    · simp [List.getD, List.getElem?_eq_none h', guardOf] at ht
  obtain ⟨l, hl⟩ : ∃ l, σ.env[t]? = some l := ⟨_, List.getElem?_eq_getElem hlt⟩
  have e1 : σ.env.getD t .undef = l := by simp [List.getD, hl]
  rw [e1] at ht
  have := h.env t _ hl
  have hlt' : t < a.tmps.size := by rw [← h.len]; exact hlt
  have hv : ∀ v, a.tmps.getD t undef = v → a.tmps[t]? = some v := by
    intro v hv
    rw [Array.getD_eq_getD_getElem?, Array.getElem?_eq_getElem hlt'] at hv
    rw [Array.getElem?_eq_getElem hlt']
    simpa using hv
  unfold guardOf at ht
  split at ht
  · rename_i c
    simp only [LRel, PRel] at this
    have hv := hv _ this
    unfold yielded
    rw [hj]
    simp only [Option.bind_some, hv]
    injection ht
  · simp only [LRel, LRels] at this
    obtain ⟨vs, hvv, hvs⟩ := this
    have hv := hv _ hvv
    unfold yielded
    rw [hj]
    simp only [Option.bind_some, hv]
    cases ht; rfl
  · cases ht

/-- one operation, its guard asked -/
theorem stepG_wp (h : SR M0 D w0 ρ σ a w) {ops : Array Oper} {io : IOp} {i : Nat} {o : Oper} (hi : ops[i]? = some o) (hc : chkIOp Pg ops io o = true) {K : Eff → AS → Prop} (hs : stepG Pg σ io K)
    {next : Act → World → Prop} {Q : Exit → Act → World → Prop} (hn : ∀ e a' w' ρ', K e (σ.after io.dst e) → SR M0 D w0 ρ' (σ.after io.dst e) a' w' → next a' w') : wpOp Pg ops Q i next a w := by
  have hc' := hc
  unfold chkIOp at hc'
  simp only [Bool.and_eq_true, decide_eq_true_eq] at hc'
  obtain ⟨⟨hd, hg⟩, _⟩ := hc'
  unfold wpOp
  simp only [hi]
  unfold stepG at hs
  split at hs
  · rename_i hgn
    rw [hgn] at hg
    have hw : Region.wanted o (yielded ops a.tmps) = true := by
      unfold chkG at hg
      split at hg
      · rename_i h2; unfold Region.wanted; rw [h2]
      · rename_i h1 _; cases h1
      · cases hg
    simp only [hw, if_true]
    exact .inl (step_wp h hc hs hn)
  · rename_i t want hgn
    rw [hgn] at hg
    unfold chkG at hg
    split at hg
    · rename_i h1 _; cases h1
    · rename_i t' b' j b'' h1 h2
      injection h1 with h1; injection h1 with h3 h4; subst h3; subst h4
      simp only [Bool.and_eq_true, decide_eq_true_eq] at hg
      obtain ⟨rfl, hj⟩ := hg
      obtain ⟨b, hb, hk⟩ := hs
      have hy := guard_yield h hb hj
      have hw : Region.wanted o (yielded ops a.tmps) = b := by
        unfold Region.wanted
        rw [h2]
        exact hy
      rw [hw]
      by_cases hbw : b = true
      · simp only [hbw, if_true]
        rw [if_pos hbw] at hk
        exact .inl (step_wp h hc hk hn)
      · simp only [hbw, Bool.false_eq_true, if_false]
        rw [if_neg hbw] at hk
        have hst : SR M0 D w0 ρ (σ.after io.dst skipped) (a.put io.dst undef) w := h.setv io.dst (l := .tup []) (by simp only [LRel, LRels]; exact ⟨#[], rfl, rfl⟩)
        rw [hd] at hst hk hn
        exact hn skipped _ w ρ hk hst
    · cases hg

theorem chkIOps_len : ∀ {ios : List IOp} {os : List Oper} {ops : Array Oper}, chkIOps Pg ops ios os = true → ios.length = os.length
  | [], [], _, _ => rfl
  | _ :: _, _ :: _, _, h => by simp only [chkIOps, Bool.and_eq_true] at h; simp [chkIOps_len h.2]
  | [], _ :: _, _, h => by simp [chkIOps] at h
  | _ :: _, [], _, h => by simp [chkIOps] at h

theorem run_wp {ops : Array Oper} {Q : Exit → Act → World → Prop} {K : AS → Prop} (hq : ∀ σ' a' w' ρ', K σ' → SR M0 D w0 ρ' σ' a' w' → Q .normal a' w') :
    ∀ (os : List Oper) (ios : List IOp) (k : Nat) (σ : AS) (a : Act) (w : World) (ρ : Nat → Nat), ops.toList.drop k = os → chkIOps Pg ops ios os = true → SR M0 D w0 ρ σ a w → run Pg ios σ K →
      wpOps Pg ops Q (List.range' k os.length) a w
  | [], ios, k, σ, a, w, ρ, _, hc, h, hr => by
    cases ios with
    | nil => exact hq σ a w ρ hr h
    | cons _ _ => simp [chkIOps] at hc
  | o :: os, ios, k, σ, a, w, ρ, hd, hc, h, hr => by
    cases ios with
    | nil => simp [chkIOps] at hc
    | cons io ios =>
      simp only [chkIOps, Bool.and_eq_true] at hc
      have hk : ops[k]? = some o := by
        have := congrArg (·[0]?) hd
        simpa [List.getElem?_drop] using this
      have hd' : ops.toList.drop (k + 1) = os := by
        have := congrArg List.tail hd
        simpa [List.tail_drop] using this
      simp only [List.length_cons, List.range'_succ]
      rw [wpOps_cons]
      refine stepG_wp h hk hc.1 hr ?_
      intro e a' w' ρ' hk' hsr
      exact run_wp hq os ios (k + 1) _ a' w' ρ' hd' hc.2 hsr hk'

theorem region_wp (h : SR M0 D w0 ρ σ a w) {id : Nat} {ops : Array Oper} {ios : List IOp} (hc : chkIOps Pg ops ios ops.toList = true) {K : AS → Prop} (hr : run Pg ios σ K)
    {Q : Exit → Act → World → Prop} (hq : ∀ σ' a' w' ρ', K σ' → SR M0 D w0 ρ' σ' a' w' → Q .normal a' w') : (Code.region id ops false).wp Pg Q a w := by
  apply wp_region
  have := run_wp hq ops.toList ios 0 σ a w ρ (by simp) hc h hr
  simpa [List.range_eq_range'] using this

end Go.AW
namespace Go.AW

variable {Pg : Program} {mem mem' m m' : Mem} {σ σ' : AS}

/-- the two memories show the same at these places -/
def Eqs (m m' : Mem) (ss : List Nat) : Prop := ∀ s, s ∈ ss → look m' s = look m s

theorem Eqs.sub {ss ss' : List Nat} (h : Eqs m m' ss) (hs : ∀ s, s ∈ ss' → s ∈ ss) : Eqs m m' ss' := fun s hs' => h s (hs s hs')

theorem arrAt_loc {s v : Nat} (h : look m' s = look m s) : arrAt m' s v = arrAt m s v := by unfold arrAt; rw [h]
theorem boxAt_loc {s v : Nat} (h : look m' s = look m s) : boxAt m' s v = boxAt m s v := by unfold boxAt; rw [h]
theorem nextVer_loc {s : Nat} (h : look m' s = look m s) : nextVer m' s = nextVer m s := by unfold nextVer; rw [h]

theorem flat_loc {l : L} {p : P} {ss : List Nat} (h : flat m l = some (p, ss)) (he : Eqs m m' ss) : flat m' l = some (p, ss) := by
  cases l with
  | sl s ver off len =>
    simp only [flat] at h ⊢
    split at h
    · rename_i n es fz ha
      split at h
      · rename_i hle
        simp only [Option.some.injEq, Prod.mk.injEq] at h; obtain ⟨rfl, rfl⟩ := h
        rw [arrAt_loc (he s (by simp)), ha]
        simp [hle]
      · cases h
    · cases h
  | _ => first | (exfalso; simp [flat] at h; done) | simpa [flat] using h

theorem flats_loc : ∀ {ls : List L} {ps : List P} {ss : List Nat}, flats m ls = some (ps, ss) → Eqs m m' ss → flats m' ls = some (ps, ss)
  | [], _, _, h, _ => by simpa [flats] using h
  | l :: ls, ps, ss, h, he => by
    simp only [flats] at h ⊢
    split at h
    · rename_i p s ps' ss' h1 h2
      simp only [Option.some.injEq, Prod.mk.injEq] at h; obtain ⟨rfl, rfl⟩ := h
      rw [flat_loc h1 (he.sub fun x hx => List.mem_append_left _ hx), flats_loc h2 (he.sub fun x hx => List.mem_append_right _ hx)]
    · cases h

theorem capt_loc {l : L} {p : P} {ss : List Nat} (h : capt m l = some (p, ss)) (he : Eqs m m' ss) : capt m' l = some (p, ss) := by
  cases l with
  | ptr s ver off =>
    simp only [capt] at h ⊢
    split at h
    · rename_i cs fz hb
      split at h
      · rename_i ps ss' hfl
        simp only [Option.some.injEq, Prod.mk.injEq] at h; obtain ⟨rfl, rfl⟩ := h
        rw [boxAt_loc (he s (by simp)), hb]
        simp only [flats_loc hfl (he.sub fun x hx => List.mem_cons_of_mem _ hx)]
      · cases h
    · cases h
  | p q => exact flat_loc (by simpa [capt] using h) he
  | sl s ver off len => exact flat_loc (by simpa [capt] using h) he
  | _ => simp [capt, flat] at h

theorem capts_loc : ∀ {ls : List L} {ps : List P} {ss : List Nat}, capts m ls = some (ps, ss) → Eqs m m' ss → capts m' ls = some (ps, ss)
  | [], _, _, h, _ => by simpa [capts] using h
  | l :: ls, ps, ss, h, he => by
    simp only [capts] at h ⊢
    split at h
    · rename_i p s ps' ss' h1 h2
      simp only [Option.some.injEq, Prod.mk.injEq] at h; obtain ⟨rfl, rfl⟩ := h
      rw [capt_loc h1 (he.sub fun x hx => List.mem_append_left _ hx), capts_loc h2 (he.sub fun x hx => List.mem_append_right _ hx)]
    · cases h

theorem snap_loc {l : L} {p : P} {ss : List Nat} (h : snap m l = some (p, ss)) (he : Eqs m m' ss) : snap m' l = some (p, ss) := by
  cases l with
  | agg xs =>
    simp only [snap] at h ⊢
    split at h
    · rename_i ps ss' h1
      simp only [Option.some.injEq, Prod.mk.injEq] at h; obtain ⟨rfl, rfl⟩ := h
      rw [flats_loc h1 he]
    · cases h
  | clo f xs =>
    simp only [snap] at h ⊢
    split at h
    · rename_i ps ss' h1
      simp only [Option.some.injEq, Prod.mk.injEq] at h; obtain ⟨rfl, rfl⟩ := h
      rw [capts_loc h1 he]
    · cases h
  | ptr s ver off => exact capt_loc (by simpa [snap] using h) he
  | p q => exact capt_loc (by simpa [snap] using h) he
  | sl s ver off len => exact capt_loc (by simpa [snap] using h) he
  | _ => simp [snap, capt, flat] at h

theorem freeze_loc {ss : List Nat} (he : Eqs m m' ss) : freeze m' ss = freeze m ss := by
  unfold freeze
  induction ss with
  | nil => rfl
  | cons s ss ih =>
    simp only [List.filterMap_cons]
    rw [he s (by simp), ih (he.sub fun x hx => List.mem_cons_of_mem _ hx)]

theorem elems_loc {n : Nat} {l : L} {es : List P} {ss : List Nat} (h : elems m n l = some (es, ss)) (he : Eqs m m' ss) : elems m' n l = some (es, ss) := by
  unfold elems at h ⊢
  split at h
  · exact h
  · exact h
  · exact h
  · exact h
  · rename_i s ver off len
    split at h
    · rename_i n' es' fz ha
      split at h
      · rename_i hle
        simp only [Option.some.injEq, Prod.mk.injEq] at h; obtain ⟨rfl, rfl⟩ := h
        simp only [arrAt_loc (he s (by simp)), ha, hle, and_self, if_true]
      · cases h
    · cases h
  · cases h

def AOp.xs : AOp → List X
  | .mov x | .box _ x | .load _ _ x | .nilc x | .isnil _ _ x | .un _ x | .conv _ x | .slice0 _ x | .cap x | .faddr _ x | .field _ _ _ x | .extr x _ | .len _ x | .clear _ _ x => [x]
  | .pick a b c => [a, b, c]
  | .alloc _ => []
  | .dead => []
  | .build _ ps => ps.map (·.2.2)
  | .bslice _ _ _ ps => ps.map (·.2)
  | .store _ x y | .aeq _ _ x y | .bin _ x y | .beq _ x y | .iaddr _ x y | .index x y | .mks _ _ _ x y | .app _ _ x y | .copy _ x y | .max x y | .min x y => [x, y]
  | .fn _ xs => xs
  | .sstr x lo hi | .slice _ x lo hi => x :: (lo.toList ++ hi.toList)
  | .call f xs _ _ => f :: xs

def EqX (env env' : List L) (xs : List X) : Prop := ∀ x, x ∈ xs → ev env' x = ev env x

theorem partsIn_loc {env env' : List L} : ∀ {ps : List (Nat × Nat × X)} {ls : List L}, EqX env env' (ps.map (·.2.2)) → partsIn env' ps ls = partsIn env ps ls
  | [], _, _ => rfl
  | (off, n, x) :: ps, ls, h => by
    simp only [partsIn]
    rw [h x (by simp)]
    split
    · exact partsIn_loc fun y hy => h y (by simp at hy ⊢; exact .inr hy)
    · rfl

theorem partsOf_loc {env env' : List L} {n : Nat} : ∀ {ps : List (Nat × X)} {es es' : List P} {ss : List Nat}, EqX env env' (ps.map (·.2)) → partsOf env m n ps es = some (es', ss) → Eqs m m' ss →
    partsOf env' m' n ps es = some (es', ss)
  | [], _, _, _, _, h, _ => h
  | (i, x) :: ps, es, es', ss, h, hp, he => by
    simp only [partsOf] at hp ⊢
    rw [h x (by simp)]
    split at hp
    · rename_i p s1 hsn
      split at hp
      · rename_i hc
        split at hp
        · rename_i es1 ss1 hrec
          simp only [Option.some.injEq, Prod.mk.injEq] at hp; obtain ⟨rfl, rfl⟩ := hp
          rw [snap_loc hsn (he.sub fun x hx => List.mem_append_left _ hx)]
          simp only [hc, and_self, if_true]
          rw [partsOf_loc (fun y hy => h y (by simp at hy ⊢; exact .inr hy)) hrec (he.sub fun x hx => List.mem_append_right _ hx)]
        · cases hp
      · cases hp
    · cases hp

def Eff.sites (e : Eff) : List Nat := e.rd ++ e.wr.map (·.1)

theorem pureE_loc {o o' : Option L} {e : Eff} (h : o' = o) (he : pureE o = some e) : pureE o' = some e := by rw [h]; exact he

theorem opt_map_ev {env env' : List L} {lo : Option X} {xs : List X} (h : EqX env env' xs) (hm : ∀ y, y ∈ lo.toList → y ∈ xs) : lo.map (ev env') = lo.map (ev env) := by
  cases lo with
  | none => rfl
  | some y => simp only [Option.map_some]; rw [h y (hm y (by simp))]

theorem aop_loc {dst : Nat} {io : AOp} {e : Eff} (h : aop σ dst io = some e) (hx : EqX σ.env σ'.env io.xs) (hs : Eqs σ.mem σ'.mem e.sites) : aop σ' dst io = some e := by
  cases io with
  | mov x => simp only [aop, hx x (by simp [AOp.xs])] at h ⊢; exact h
  | pick c a b => simp only [aop, hx c (by simp [AOp.xs]), hx a (by simp [AOp.xs]), hx b (by simp [AOp.xs])] at h ⊢; exact h
  | alloc zero =>
    simp only [aop, Option.some.injEq] at h ⊢; subst h
    rw [nextVer_loc (hs dst (by simp [Eff.sites]))]
  | box n x =>
    simp only [aop, hx x (by simp [AOp.xs])] at h ⊢
    split at h
    · rename_i hc
      simp only [Option.some.injEq] at h; subst h
      simp only [hc, and_self, if_true]
      rw [nextVer_loc (hs dst (by simp [Eff.sites]))]
    · cases h
  | build zero ps => simp only [aop] at h ⊢; rw [partsIn_loc (env := σ.env) hx]; exact h
  | bslice n len zero ps =>
    simp only [aop] at h ⊢
    split at h
    · rename_i es ss hp
      simp only [Option.some.injEq] at h; subst h
      have h1 : Eqs σ.mem σ'.mem ss := hs.sub fun s hs' => by simp only [Eff.sites]; exact List.mem_append_left _ (List.mem_cons_of_mem _ hs')
      rw [partsOf_loc (env := σ.env) hx hp h1]
      simp only
      rw [freeze_loc h1, nextVer_loc (hs dst (by simp [Eff.sites]))]
    · cases h
  | load ag n x =>
    simp only [aop, hx x (by simp [AOp.xs])] at h ⊢
    split at h
    · rename_i s ver off hev
      split at h
      · rename_i cs fz hb
        cases hm : mkv ag n ((cs.drop off).take n) with
        | none => rw [hm] at h; cases h
        | some l =>
          rw [hm] at h
          simp only [Option.map_some, Option.some.injEq] at h; subst h
          simp only [boxAt_loc (hs s (by simp [Eff.sites])), hb, hm, Option.map_some]
      · cases h
    · rename_i s ver i off hev
      split at h
      · rename_i k es fz hb
        split at h
        · rename_i hi
          cases hm : mkv ag n ((((es.getD i default).cells.drop off).take n).map .p) with
          | none => rw [hm] at h; cases h
          | some l =>
            rw [hm] at h
            simp only [Option.map_some, Option.some.injEq] at h; subst h
            simp only [arrAt_loc (hs s (by simp [Eff.sites])), hb, hi, if_true, hm, Option.map_some]
        · cases h
      · cases h
    · exact h
    · cases h
  | store n x y =>
    simp only [aop, hx x (by simp [AOp.xs]), hx y (by simp [AOp.xs])] at h ⊢
    split at h
    · rename_i s ver off hev
      split at h
      · rename_i cs hb
        split at h
        · rename_i hc
          simp only [Option.some.injEq] at h; subst h
          simp only [boxAt_loc (hs s (by simp [Eff.sites])), hb, hc, and_self, if_true]
        · cases h
      · cases h
    · rename_i s ver i off hev
      split at h
      · rename_i k es hb
        split at h
        · rename_i hc
          split at h
          · rename_i ps ss hfl
            split at h
            · cases h
            · rename_i hns
              split at h
              · rename_i e1 hset
                split at h
                · rename_i hel
                  simp only [Option.some.injEq] at h; subst h
                  have h1 : Eqs σ.mem σ'.mem ss := hs.sub fun z hz => by simp only [Eff.sites]; exact List.mem_append_left _ (List.mem_cons_of_mem _ hz)
                  simp only [arrAt_loc (hs s (by simp [Eff.sites])), hb, hc, and_self, if_true, flats_loc hfl h1, hns, hset, hel, freeze_loc h1, if_false, Bool.false_eq_true]
                · cases h
              · cases h
          · cases h
        · cases h
      · cases h
    · cases h
  | nilc x =>
    simp only [aop, hx x (by simp [AOp.xs])] at h ⊢
    split at h
    · rename_i s ver off hev
      cases hb : boxAt σ.mem s ver with
      | none => rw [hb] at h; cases h
      | some b => rw [hb] at h; simp only [Option.map_some, Option.some.injEq] at h; subst h; simp only [boxAt_loc (hs s (by simp [Eff.sites])), hb, Option.map_some]
    · rename_i s ver i off hev
      cases hb : arrAt σ.mem s ver with
      | none => rw [hb] at h; cases h
      | some b => rw [hb] at h; simp only [Option.map_some, Option.some.injEq] at h; subst h; simp only [arrAt_loc (hs s (by simp [Eff.sites])), hb, Option.map_some]
    · exact h
    · cases h
  | bin op x y => simp only [aop, hx x (by simp [AOp.xs]), hx y (by simp [AOp.xs])] at h ⊢; exact h
  | aeq neg ks x y => simp only [aop, hx x (by simp [AOp.xs]), hx y (by simp [AOp.xs])] at h ⊢; exact h
  | beq neg x y => simp only [aop, hx x (by simp [AOp.xs]), hx y (by simp [AOp.xs])] at h ⊢; exact h
  | isnil k neg x =>
    simp only [aop, hx x (by simp [AOp.xs])] at h ⊢
    split at h
    · exact h
    · exact h
    · rename_i s ver off hev
      cases hb : boxAt σ.mem s ver with
      | none => rw [hb] at h; cases h
      | some b => rw [hb] at h; simp only [Option.map_some, Option.some.injEq] at h; subst h; simp only [boxAt_loc (hs s (by simp [Eff.sites])), hb, Option.map_some]
    · rename_i s ver i off hev
      cases hb : arrAt σ.mem s ver with
      | none => rw [hb] at h; cases h
      | some b => rw [hb] at h; simp only [Option.map_some, Option.some.injEq] at h; subst h; simp only [arrAt_loc (hs s (by simp [Eff.sites])), hb, Option.map_some]
    · exact h
    · exact h
    · exact h
    · exact h
    · cases h
  | un op x => simp only [aop, hx x (by simp [AOp.xs])] at h ⊢; exact h
  | conv k x =>
    simp only [aop, hx x (by simp [AOp.xs])] at h ⊢
    split at h
    · exact h
    · exact h
    · exact h
    · rename_i l hl0
      split at h
      · rename_i es ss hel
        have h1 : Eqs σ.mem σ'.mem ss := by
          refine hs.sub fun z hz => ?_
          split at h
          · cases h
          · cases hu : u8s es with
            | none => rw [hu] at h; cases h
            | some s => rw [hu] at h; simp only [Option.map_some, Option.some.injEq] at h; subst h; simp [Eff.sites, hz]
        rw [elems_loc hel h1]
        exact h
      · cases h
    · exact h
    · cases h
  | fn f xs =>
    simp only [aop] at h ⊢
    refine pureE_loc ?_ h
    congr 2
    exact List.map_congr_left fun x hx' => hx x hx'
  | sstr x lo hi =>
    simp only [aop] at h ⊢
    rw [hx x (by simp [AOp.xs]), opt_map_ev (lo := lo) hx (by simp [AOp.xs]; intro y hy; exact .inr (.inl hy)), opt_map_ev (lo := hi) hx (by simp [AOp.xs]; intro y hy; exact .inr (.inr hy))]
    exact h
  | slice n x lo hi =>
    simp only [aop] at h ⊢
    rw [hx x (by simp [AOp.xs]), opt_map_ev (lo := lo) hx (by simp [AOp.xs]; intro y hy; exact .inr (.inl hy)), opt_map_ev (lo := hi) hx (by simp [AOp.xs]; intro y hy; exact .inr (.inr hy))]
    split at h
    · rename_i s ver off len hev
      split at h
      · rename_i k es fz ha
        have hmem : s ∈ e.sites := by
          split at h
          · split at h
            · split at h <;> (simp only [Option.some.injEq] at h; subst h; simp [Eff.sites])
            · cases h
          · cases h
        simp only [arrAt_loc (hs s hmem), ha]
        exact h
      · cases h
    · exact h
    · exact h
    · cases h
  | cap x =>
    simp only [aop, hx x (by simp [AOp.xs])] at h ⊢
    exact h
  | dead => simp only [aop] at h; cases h
  | slice0 n x =>
    simp only [aop, hx x (by simp [AOp.xs])] at h ⊢
    split at h
    · rename_i s ver off len hev
      split at h
      · rename_i b hb
        simp only [Option.some.injEq] at h; subst h
        simp only [arrAt_loc (hs s (by simp [Eff.sites])), hb]
      · cases h
    · exact h
    · exact h
    · cases h
  | faddr o x =>
    simp only [aop, hx x (by simp [AOp.xs])] at h ⊢
    split at h
    · rename_i s ver off hev
      cases hb : boxAt σ.mem s ver with
      | none => rw [hb] at h; cases h
      | some b => rw [hb] at h; simp only [Option.map_some, Option.some.injEq] at h; subst h; simp only [boxAt_loc (hs s (by simp [Eff.sites])), hb, Option.map_some]
    · rename_i s ver i off hev
      cases hb : arrAt σ.mem s ver with
      | none => rw [hb] at h; cases h
      | some b => rw [hb] at h; simp only [Option.map_some, Option.some.injEq] at h; subst h; simp only [arrAt_loc (hs s (by simp [Eff.sites])), hb, Option.map_some]
    · exact h
    · cases h
  | field ag off n x => simp only [aop, hx x (by simp [AOp.xs])] at h ⊢; exact h
  | iaddr n x i =>
    simp only [aop, hx x (by simp [AOp.xs]), hx i (by simp [AOp.xs])] at h ⊢
    split at h
    · rename_i k j hei
      split at h
      · rename_i s ver off len hev
        split at h
        · rename_i k' es fz ha
          split at h
          · rename_i hc
            simp only [Option.some.injEq] at h; subst h
            simp only [arrAt_loc (hs s (by simp [Eff.sites])), ha, hc, and_self, if_true]
          · cases h
        · cases h
      · exact h
      · cases h
    · cases h
  | index x i => simp only [aop, hx x (by simp [AOp.xs]), hx i (by simp [AOp.xs])] at h ⊢; exact h
  | extr x i => simp only [aop, hx x (by simp [AOp.xs])] at h ⊢; exact h
  | mks n bytes zero l c =>
    simp only [aop, hx l (by simp [AOp.xs]), hx c (by simp [AOp.xs])] at h ⊢
    split at h
    · split at h
      · rename_i hc
        simp only [Option.some.injEq] at h; subst h
        rw [if_pos hc, nextVer_loc (hs dst (by simp [Eff.sites]))]
      · cases h
    · cases h
  | len str x =>
    simp only [aop, hx x (by simp [AOp.xs])] at h ⊢
    split at h
    · rename_i s ver off len hev
      cases hb : arrAt σ.mem s ver with
      | none => rw [hb] at h; cases h
      | some b => rw [hb] at h; simp only [Option.map_some, Option.some.injEq] at h; subst h; simp only [arrAt_loc (hs s (by simp [Eff.sites])), hb, Option.map_some]
    · exact h
    · exact h
    · exact h
    · cases h
  | app n bytes x y =>
    simp only [aop, hx x (by simp [AOp.xs]), hx y (by simp [AOp.xs])] at h ⊢
    split at h
    · rename_i ys ss hys
      split at h
      · rename_i s ver off len hev
        split at h
        · rename_i k es ha
          split at h
          · rename_i hc
            simp only [Option.some.injEq] at h; subst h
            rw [elems_loc hys (hs.sub fun z hz => by simp [Eff.sites, hz])]
            simp only [arrAt_loc (hs s (by simp [Eff.sites])), ha]
            rw [if_pos hc]
          · cases h
        · cases h
      · rename_i k hev
        split at h
        · rename_i h0
          simp only [Option.some.injEq] at h; subst h
          rw [elems_loc hys (hs.sub fun z hz => by simp [Eff.sites, hz])]
          simp only [h0, if_true]
        · rename_i h0
          split at h
          · rename_i hc
            simp only [Option.some.injEq] at h; subst h
            rw [elems_loc hys (hs.sub fun z hz => by simp [Eff.sites, hz])]
            simp only [h0, if_false, hc, if_true]
            rw [nextVer_loc (hs dst (by simp [Eff.sites]))]
          · cases h
      · cases h
    · cases h
  | copy n x y =>
    simp only [aop, hx x (by simp [AOp.xs]), hx y (by simp [AOp.xs])] at h ⊢
    split at h
    · rename_i ys ss hys
      split at h
      · rename_i s ver off len hev
        split at h
        · rename_i k es ha
          split at h
          · rename_i hc
            simp only [Option.some.injEq] at h; subst h
            rw [elems_loc hys (hs.sub fun z hz => by simp [Eff.sites, hz])]
            simp only [arrAt_loc (hs s (by simp [Eff.sites])), ha]
            rw [if_pos hc]
          · cases h
        · cases h
      · simp only [Option.some.injEq] at h; subst h
        rw [elems_loc hys (hs.sub fun z hz => by simp [Eff.sites, hz])]
      · cases h
    · cases h
  | clear n zero x =>
    simp only [aop, hx x (by simp [AOp.xs])] at h ⊢
    split at h
    · rename_i s ver off len hev
      split at h
      · rename_i k es ha
        split at h
        · rename_i hc
          simp only [Option.some.injEq] at h; subst h
          simp only [arrAt_loc (hs s (by simp [Eff.sites])), ha, hc, and_self, if_true]
        · cases h
      · cases h
    · exact h
    · cases h
  | max x y => simp only [aop, hx x (by simp [AOp.xs]), hx y (by simp [AOp.xs])] at h ⊢; exact h
  | min x y => simp only [aop, hx x (by simp [AOp.xs]), hx y (by simp [AOp.xs])] at h ⊢; exact h
  | call f xs k o => simp [aop] at h

end Go.AW
namespace Go.AW

variable {M0 : Nat → Prop} {D : List Nat} {w0 : Base} {w w' : World} {ρ ρ' : Nat → Nat} {a : Act} {Pg : Program} {mem mem' m m' : Mem} {σ σ' : AS}

theorem toO_loc {l : L} {o : O} {hs ss : List Nat} (h : toO m l = some (o, hs, ss)) (he : Eqs m m' (hs ++ ss)) : toO m' l = some (o, hs, ss) := by
  unfold toO at h ⊢
  split at h
  · rename_i s ver len
    have hmem : s ∈ hs ++ ss := by
      split at h
      · split at h
        · simp only [Option.some.injEq, Prod.mk.injEq] at h; obtain ⟨_, rfl, rfl⟩ := h; simp
        · cases h
      · split at h
        · simp only [Option.some.injEq, Prod.mk.injEq] at h; obtain ⟨_, rfl, rfl⟩ := h; simp
        · cases h
      · cases h
    rw [arrAt_loc (he s hmem)]; exact h
  · exact h
  · split at h
    · rename_i p ss' hf
      simp only [Option.some.injEq, Prod.mk.injEq] at h; obtain ⟨rfl, rfl, rfl⟩ := h
      rw [flat_loc hf (by simpa using he)]
    · cases h

theorem toOs_loc : ∀ {ls : List L} {os : List O} {hs ss : List Nat}, toOs m ls = some (os, hs, ss) → Eqs m m' (hs ++ ss) → toOs m' ls = some (os, hs, ss)
  | [], _, _, _, h, _ => by simpa [toOs] using h
  | l :: ls, os, hs, ss, h, he => by
    simp only [toOs] at h ⊢
    split at h
    · rename_i o h1 s1 os' hs' ss' e1 e2
      simp only [Option.some.injEq, Prod.mk.injEq] at h; obtain ⟨rfl, rfl, rfl⟩ := h
      rw [toO_loc e1 (he.sub fun x hx => by simp at hx ⊢; rcases hx with hx | hx <;> simp [hx]), toOs_loc e2 (he.sub fun x hx => by simp at hx ⊢; rcases hx with hx | hx <;> simp [hx])]
    · cases h

theorem toA_loc {own : Bool} {l : L} {o : A} {hs ss : List Nat} (h : toA own m l = some (o, hs, ss)) (he : Eqs m m' (hs ++ ss)) : toA own m' l = some (o, hs, ss) := by
  unfold toA at h ⊢
  split at h
  · rename_i s ver
    split at h
    · rename_i cs hb
      split at h
      · rename_i os h1 ss' ho
        simp only [Option.some.injEq, Prod.mk.injEq] at h; obtain ⟨rfl, rfl, rfl⟩ := h
        rw [boxAt_loc (he s (by simp)), hb]
        simp only [toOs_loc ho (he.sub fun x hx => by simp at hx ⊢; rcases hx with hx | hx <;> simp [hx])]
      · cases h
    · cases h
  · split at h
    · rename_i hown
      rw [if_pos hown]
      split at h
      · rename_i n es h1 ss' ho
        simp only [Option.some.injEq, Prod.mk.injEq] at h; obtain ⟨rfl, rfl, rfl⟩ := h
        rw [toO_loc ho he]
      · rename_i p h1 ss' ho
        simp only [Option.some.injEq, Prod.mk.injEq] at h; obtain ⟨rfl, rfl, rfl⟩ := h
        rw [toO_loc ho he]
      · cases h
    · rename_i hown
      rw [if_neg hown]
      split at h
      · rename_i p ss' ho
        simp only [Option.some.injEq, Prod.mk.injEq] at h; obtain ⟨rfl, rfl, rfl⟩ := h
        rw [snap_loc ho (by simpa using he)]
      · cases h

theorem toAs_loc {own : Bool} : ∀ {ls : List L} {os : List A} {hs ss : List Nat}, toAs own m ls = some (os, hs, ss) → Eqs m m' (hs ++ ss) → toAs own m' ls = some (os, hs, ss)
  | [], _, _, _, h, _ => by simpa [toAs] using h
  | l :: ls, os, hs, ss, h, he => by
    simp only [toAs] at h ⊢
    split at h
    · rename_i o h1 s1 os' hs' ss' e1 e2
      simp only [Option.some.injEq, Prod.mk.injEq] at h; obtain ⟨rfl, rfl, rfl⟩ := h
      rw [toA_loc e1 (he.sub fun x hx => by simp at hx ⊢; rcases hx with hx | hx <;> simp [hx]), toAs_loc e2 (he.sub fun x hx => by simp at hx ⊢; rcases hx with hx | hx <;> simp [hx])]
    · cases h

theorem fromO_loc {keep : Bool} {site : Nat} {o : O} (he : Eqs m m' ((fromO keep m site o).2.map (·.1))) : fromO keep m' site o = fromO keep m site o := by
  cases o with
  | p p => rfl
  | own n es =>
    cases keep with
    | false => rfl
    | true => simp only [fromO, if_true] at he ⊢; rw [nextVer_loc (he site (by simp))]

theorem fromOs_loc {keep : Bool} : ∀ {os : List O} {site : Nat}, Eqs m m' ((fromOs keep m site os).2.map (·.1)) → fromOs keep m' site os = fromOs keep m site os
  | [], _, _ => rfl
  | o :: os, site, he => by
    simp only [fromOs] at he ⊢
    rw [fromO_loc (he.sub fun x hx => by simp only [List.map_append]; exact List.mem_append_left _ hx), fromOs_loc (he.sub fun x hx => by simp only [List.map_append]; exact List.mem_append_right _ hx)]

theorem fromR1_loc {keep : Bool} {site : Nat} {r : R} (he : Eqs m m' ((fromR1 keep m site r).2.map (·.1))) : fromR1 keep m' site r = fromR1 keep m site r := by
  cases r with
  | o x => cases x with
    | p p => rfl
    | own n es => exact fromO_loc (o := .own n es) he
  | agg cs => simp only [fromR1] at he ⊢; rw [fromOs_loc he]
  | box cs =>
    simp only [fromR1] at he ⊢
    rw [nextVer_loc (he site (by simp)), fromOs_loc (he.sub fun x hx => by simp only [List.map_cons]; exact List.mem_cons_of_mem _ hx)]
  | tup rs => rfl

theorem fromRs_loc {keep : Bool} : ∀ {rs : List R} {site : Nat}, Eqs m m' ((fromRs keep m site rs).2.map (·.1)) → fromRs keep m' site rs = fromRs keep m site rs
  | [], _, _ => rfl
  | r :: rs, site, he => by
    simp only [fromRs] at he ⊢
    rw [fromR1_loc (he.sub fun x hx => by simp only [List.map_append]; exact List.mem_append_left _ hx), fromRs_loc (he.sub fun x hx => by simp only [List.map_append]; exact List.mem_append_right _ hx)]

theorem fromR_loc {keep : Bool} {site : Nat} {r : R} (he : Eqs m m' ((fromR keep m site r).2.map (·.1))) : fromR keep m' site r = fromR keep m site r := by
  cases r with
  | tup rs => simp only [fromR] at he ⊢; rw [fromRs_loc he]
  | o x => exact fromR1_loc he
  | agg x => exact fromR1_loc he
  | box x => exact fromR1_loc he

theorem backs_loc {keep : Bool} : ∀ {ls : List L} {as : List A} {outs : List (List O)} {bk : List (Nat × Nat × Blk)}, backs keep m ls as outs = some bk → Eqs m m' (bk.map (·.1)) → backs keep m' ls as outs = some bk
  | [], [], [], bk, h, _ => by simpa [backs] using h
  | [], [], _ :: _, bk, h, _ => by simp [backs] at h
  | [], _ :: _, _, bk, h, _ => by simp [backs] at h
  | l :: ls, [], outs, bk, h, _ => by cases l <;> simp [backs] at h
  | l :: ls, .v p :: as, outs, bk, h, he => by
    have e1 : ∀ mm, backs keep mm (l :: ls) (.v p :: as) outs = backs keep mm ls as outs := fun mm => by cases l <;> simp [backs]
    rw [e1] at h ⊢
    exact backs_loc h he
  | l :: ls, .own n es :: as, outs, bk, h, he => by
    have e1 : ∀ mm, backs keep mm (l :: ls) (.own n es :: as) outs = backs keep mm ls as outs := fun mm => by cases l <;> simp [backs]
    rw [e1] at h ⊢
    exact backs_loc h he
  | l :: ls, .box os :: as, [], bk, h, _ => by cases l <;> simp [backs] at h
  | l :: ls, .box os :: as, o :: outs, bk, h, he => by
    cases l with
    | ptr s ver off =>
      simp only [backs] at h ⊢
      split at h
      · rename_i r hr
        simp only [Option.some.injEq] at h; subst h
        rw [backs_loc hr (he.sub fun x hx => by simp at hx ⊢; right; right; exact hx)]
        rw [fromOs_loc (he.sub fun x hx => by simp at hx ⊢; right; left; exact hx)]
      · cases h
    | _ => simp [backs] at h

theorem gone_loc {hs : List Nat} (he : Eqs m m' hs) : gone m' hs = gone m hs := by
  unfold gone
  have h1 : ∀ s ∈ hs, isBoxSite m' s = isBoxSite m s := fun s hs' => by unfold isBoxSite; rw [he s hs']
  rw [List.filter_congr (q := fun s => !isBoxSite m s) fun s hs' => by rw [h1 s hs']]
  refine List.map_congr_left fun s hs' => ?_
  rw [nextVer_loc (he s (List.mem_filter.1 hs').1)]

theorem callEff_loc {dst : Nat} {keep : Bool} {ls : List L} {as : List A} {hs ss : List Nat} {res : R} {outs : List (List O)} {e : Eff} (h : callEff m dst keep ls as hs ss res outs = some e)
    (he : Eqs m m' e.sites) : callEff m' dst keep ls as hs ss res outs = some e := by
  unfold callEff at h ⊢
  split at h
  · cases h
  · rename_i bk hbk
    split at h
    · rename_i hc
      simp only [Option.some.injEq] at h
      have hrd : e.rd = hs ++ ss ++ e.wr.map (·.1) := by rw [← h]
      have hwr : e.wr = callWr m dst keep hs ss res outs bk := by rw [← h]
      have in1 : ∀ x, x ∈ hs → x ∈ e.sites := fun x hx => by simp [Eff.sites, hrd, hx]
      have in2 : ∀ x, x ∈ ss → x ∈ e.sites := fun x hx => by simp [Eff.sites, hrd, hx]
      have in3 : ∀ x, x ∈ e.wr.map (·.1) → x ∈ e.sites := fun x hx => by simp only [Eff.sites]; exact List.mem_append_right _ hx
      have b1 : Eqs m m' (bk.map (·.1)) := he.sub fun x hx => in3 x (by rw [hwr, callWr]; simp only [List.map_append, List.mem_append]; exact .inl (.inl (.inr hx)))
      have b2 : Eqs m m' ((fromR keep m (1000000 + 64 * dst) res).2.map (·.1)) := he.sub fun x hx => in3 x (by rw [hwr, callWr]; simp only [List.map_append, List.mem_append]; exact .inl (.inr hx))
      have b3 : callWr m' dst keep hs ss res outs bk = callWr m dst keep hs ss res outs bk := by
        unfold callWr
        rw [fromR_loc b2, gone_loc (he.sub fun x hx => in1 x (List.mem_filter.1 hx).1), freeze_loc (he.sub fun x hx => in2 x (List.mem_filter.1 ((mem_uniq _ _).1 hx)).1)]
      rw [backs_loc hbk b1]
      simp only
      rw [b3, fromR_loc b2, if_pos hc]
      exact congrArg some h
    · cases h

/-- what an operation does, told by its effect -/
def Does (Pg : Program) (σ : AS) (io : IOp) (e : Eff) : Prop := stepG Pg σ io fun e' _ => e' = e

theorem stepG_split {io : IOp} {K : Eff → AS → Prop} (h : stepG Pg σ io K) : ∃ e, Does Pg σ io e ∧ K e (σ.after io.dst e) := by
  have st : ∀ K, step Pg σ io K → ∃ e, step Pg σ io (fun e' _ => e' = e) ∧ K e (σ.after io.dst e) := by
    intro K h
    obtain ⟨dst, guard, op⟩ := io
    cases op with
    | call f xs keep own =>
      obtain ⟨fn, ls, as, hs, ss, res, outs, e, h1, h2, h3, h4, h5⟩ := h
      exact ⟨e, ⟨fn, ls, as, hs, ss, res, outs, e, h1, h2, h3, h4, rfl⟩, h5⟩
    | _ =>
      obtain ⟨e, h1, h2⟩ := h
      exact ⟨e, ⟨e, h1, rfl⟩, h2⟩
  unfold Does
  unfold stepG at h ⊢
  cases hg : io.guard with
  | none => rw [hg] at h; exact st K h
  | some tw =>
    obtain ⟨t, want⟩ := tw
    rw [hg] at h
    obtain ⟨b, hb, h⟩ := h
    by_cases hw : b = true
    · rw [if_pos hw] at h
      obtain ⟨e, h1, h2⟩ := st K h
      exact ⟨e, ⟨b, hb, by rw [if_pos hw]; exact h1⟩, h2⟩
    · rw [if_neg hw] at h
      exact ⟨skipped, ⟨b, hb, by rw [if_neg hw]⟩, h⟩

def IOp.tmps (io : IOp) : List Nat := (io.op.xs.filterMap fun | .t i => some i | _ => none) ++ (match io.guard with | some (t, _) => [t] | none => [])

theorem Does.loc {io : IOp} {e : Eff} (h : Does Pg σ io e) (hx : ∀ t, t ∈ io.tmps → σ'.env.getD t .undef = σ.env.getD t .undef) (hs : Eqs σ.mem σ'.mem e.sites) : Does Pg σ' io e := by
  have hev : EqX σ.env σ'.env io.op.xs := by
    intro x hx'
    cases x with
    | t i => simp only [ev]; exact hx i (List.mem_append_left _ (List.mem_filterMap.2 ⟨.t i, hx', rfl⟩))
    | c p => rfl
    | f g => rfl
  have st : step Pg σ io (fun e' _ => e' = e) → step Pg σ' io (fun e' _ => e' = e) := by
    intro h
    unfold step at h ⊢
    split at h
    · rename_i f xs keep own hio
      rw [hio] at hev
      obtain ⟨fn, ls, as, hs', ss, res, outs, e', h1, h2, h3, h4, rfl⟩ := h
      refine ⟨fn, ls, as, hs', ss, res, outs, e', ?_, toAs_loc h2 (hs.sub fun x hx => ?_), h3, callEff_loc h4 hs, rfl⟩
      · rw [hev f (by simp [AOp.xs]), List.map_congr_left fun x hx => hev x (by simp [AOp.xs, hx])]; exact h1
      · unfold callEff at h4
        split at h4
        · cases h4
        · split at h4
          · simp only [Option.some.injEq] at h4; subst h4
            simp only [Eff.sites, List.mem_append] at hx ⊢
            exact .inl (.inl hx)
          · cases h4
    · obtain ⟨e', h1, rfl⟩ := h
      exact ⟨e', aop_loc h1 hev hs, rfl⟩
  unfold Does at h ⊢
  unfold stepG at h ⊢
  split at h
  · rename_i hg; exact st h
  · rename_i t want hg
    obtain ⟨b, hb, h⟩ := h
    refine ⟨b, by rw [hx t (by simp [IOp.tmps, hg])]; exact hb, ?_⟩
    by_cases hw : b = true
    · rw [if_pos hw] at h ⊢; exact st h
    · rw [if_neg hw] at h ⊢; exact h

end Go.AW
namespace Go.AW

variable {M0 : Nat → Prop} {D : List Nat} {w0 : Base} {w w' : World} {ρ ρ' : Nat → Nat} {a : Act} {Pg : Program} {mem mem' m m' : Mem} {σ σ' : AS}

/-- the state, but for the order in which the blocks are listed -/
theorem SR.congr (h : SR M0 D w0 ρ σ a w) (he : σ'.env = σ.env) (hm : ∀ s, look σ'.mem s = look σ.mem s) : SR M0 D w0 ρ σ' a w := by
  have hmut : ∀ b, mutOf M0 ρ σ'.mem b → mutOf M0 ρ σ.mem b := by
    intro b hb
    rcases hb with hb | ⟨s, ver, blk, h1, h2, h3⟩
    · exact .inl hb
    · exact .inr ⟨s, ver, blk, (hm s).symm.trans h1, h2, h3⟩
  have tr : Tr w (mutOf M0 ρ σ.mem) ρ σ.mem w (mutOf M0 ρ σ'.mem) ρ σ'.mem :=
    ⟨Agree.refl _ _, fun b _ => hmut b, fun s ver blk hl => ⟨ver, blk, (hm s).trans hl, Nat.le_refl _, fun _ => ⟨rfl, Fits.refl _ _ _ _ fun _ => rfl⟩⟩⟩
  have := h.turn tr h.keeps (fun s ver blk hl => h.lo s ver blk ((hm s).symm.trans hl)) (fun s ver blk hl => h.hi s ver blk ((hm s).symm.trans hl))
    (fun s ver blk s' ver' blk' h1 h2 h3 h4 h5 => h.inj _ _ _ _ _ _ ((hm s).symm.trans h1) h2 ((hm s').symm.trans h3) h4 h5)
    (fun s ver blk hl => (h.blk s ver blk ((hm s).symm.trans hl)).move tr fun _ => rfl)
  obtain ⟨env', mem'⟩ := σ'
  simp only at he
  subst he
  exact this

/-- the last that is put at a place -/
def lastAt : List (Nat × Nat × Blk) → Nat → Option (Nat × Blk)
  | [], _ => none
  | (s, v, b) :: r, t => match lastAt r t with
    | some x => some x
    | none => if s = t then some (v, b) else none

theorem look_putAll_last : ∀ (wr : List (Nat × Nat × Blk)) (m : Mem) (t : Nat), look (putAll m wr) t = match lastAt wr t with | some x => some x | none => look m t
  | [], _, _ => rfl
  | (s, v, b) :: r, m, t => by
    simp only [putAll, lastAt]
    rw [look_putAll_last r]
    cases lastAt r t with
    | some x => rfl
    | none => rw [look_put]; by_cases h : s = t <;> simp [h]

theorem lastAt_none : ∀ {wr : List (Nat × Nat × Blk)} {t : Nat}, t ∉ wr.map (·.1) → lastAt wr t = none
  | [], _, _ => rfl
  | (s, v, b) :: r, t, h => by
    simp only [List.map_cons, List.mem_cons, not_or] at h
    simp only [lastAt, lastAt_none h.2, if_neg (Ne.symm h.1)]

section
variable (σ0 : AS) (ds : Nat → Option Nat) (es : Nat → Eff)

/-- a temporary, when the operations S have been done -/
def envAt (S : Nat → Bool) : Nat → Nat → L
  | 0, t => σ0.env.getD t .undef
  | k + 1, t => if S k = true ∧ ds k = some t ∧ t < σ0.env.length then (es k).val else envAt S k t
def memAt (S : Nat → Bool) : Nat → Nat → Option (Nat × Blk)
  | 0, s => look σ0.mem s
  | k + 1, s => if S k = true then (match lastAt (es k).wr s with | some x => some x | none => memAt S k s) else memAt S k s

theorem envAt_congr {S S' : Nat → Bool} {t : Nat} : ∀ (k : Nat), (∀ j, j < k → ds j = some t → S j = S' j) → envAt σ0 ds es S k t = envAt σ0 ds es S' k t
  | 0, _ => rfl
  | k + 1, h => by
    have ih := envAt_congr k fun j hj => h j (by omega)
    simp only [envAt, ih]
    by_cases hd : ds k = some t
    · rw [h k (by omega) hd]
    · simp [hd]

theorem memAt_congr {S S' : Nat → Bool} {s : Nat} : ∀ (k : Nat), (∀ j, j < k → s ∈ (es j).wr.map (·.1) → S j = S' j) → memAt σ0 es S k s = memAt σ0 es S' k s
  | 0, _ => rfl
  | k + 1, h => by
    have ih := memAt_congr k fun j hj => h j (by omega)
    simp only [memAt, ih]
    by_cases hd : s ∈ (es k).wr.map (·.1)
    · rw [h k (by omega) hd]
    · rw [lastAt_none hd]; simp

def ins (S : Nat → Bool) (i : Nat) : Nat → Bool := fun j => S j || j == i

theorem envAt_ins {S : Nat → Bool} {i t n : Nat} (hi : i < n) (hS : S i = false) (h : ∀ j, i < j → j < n → S j = true → ds i = some t → ds j ≠ some t) :
    envAt σ0 ds es (ins S i) n t = if ds i = some t ∧ t < σ0.env.length then (es i).val else envAt σ0 ds es S n t := by
  have low : ∀ k, k ≤ i → envAt σ0 ds es (ins S i) k t = envAt σ0 ds es S k t := fun k hk => envAt_congr σ0 ds es k fun j hj _ => by
    have : (j == i) = false := by simp; omega
    simp [ins, this]
  have up : ∀ d, i + 1 + d ≤ n → envAt σ0 ds es (ins S i) (i + 1 + d) t = if ds i = some t ∧ t < σ0.env.length then (es i).val else envAt σ0 ds es S (i + 1 + d) t := by
    intro d
    induction d with
    | zero =>
      intro _
      simp only [Nat.add_zero, envAt]
      have : ins S i i = true := by simp [ins]
      rw [this, low i (Nat.le_refl _), hS]
      simp
    | succ d ih =>
      intro hd
      have e1 : i + 1 + (d + 1) = (i + 1 + d) + 1 := by omega
      rw [e1]
      simp only [envAt]
      have hne : (i + 1 + d == i) = false := by simp; omega
      have hin : ins S i (i + 1 + d) = S (i + 1 + d) := by simp [ins, hne]
      rw [hin, ih (by omega)]
      by_cases hc : S (i + 1 + d) = true ∧ ds (i + 1 + d) = some t ∧ t < σ0.env.length
      · by_cases hdi : ds i = some t ∧ t < σ0.env.length
        · exact absurd hc.2.1 (h _ (by omega) (by omega) hc.1 hdi.1)
        · rw [if_neg hdi, if_neg hdi]
      · rw [if_neg hc, if_neg hc]
  have := up (n - (i + 1)) (by omega)
  rwa [show i + 1 + (n - (i + 1)) = n by omega] at this

theorem memAt_ins {S : Nat → Bool} {i s n : Nat} (hi : i < n) (hS : S i = false) (h : ∀ j, i < j → j < n → S j = true → s ∈ (es i).wr.map (·.1) → s ∉ (es j).wr.map (·.1)) :
    memAt σ0 es (ins S i) n s = match lastAt (es i).wr s with | some x => some x | none => memAt σ0 es S n s := by
  have low : ∀ k, k ≤ i → memAt σ0 es (ins S i) k s = memAt σ0 es S k s := fun k hk => memAt_congr σ0 es k fun j hj _ => by
    have : (j == i) = false := by simp; omega
    simp [ins, this]
  have up : ∀ d, i + 1 + d ≤ n → memAt σ0 es (ins S i) (i + 1 + d) s = match lastAt (es i).wr s with | some x => some x | none => memAt σ0 es S (i + 1 + d) s := by
    intro d
    induction d with
    | zero =>
      intro _
      simp only [Nat.add_zero, memAt]
      have : ins S i i = true := by simp [ins]
      rw [this, low i (Nat.le_refl _), hS]
      simp
    | succ d ih =>
      intro hd
      have e1 : i + 1 + (d + 1) = (i + 1 + d) + 1 := by omega
      rw [e1]
      simp only [memAt]
      have hne : (i + 1 + d == i) = false := by simp; omega
      have hin : ins S i (i + 1 + d) = S (i + 1 + d) := by simp [ins, hne]
      rw [hin, ih (by omega)]
      by_cases hc : S (i + 1 + d) = true
      · simp only [hc, if_true]
        by_cases hw : s ∈ (es i).wr.map (·.1)
        · rw [lastAt_none (h _ (by omega) (by omega) hc hw)]
        · rw [lastAt_none hw]
      · simp only [hc, if_false, Bool.false_eq_true]
  have := up (n - (i + 1)) (by omega)
  rwa [show i + 1 + (n - (i + 1)) = n by omega] at this

/-- the state when the operations S have been done -/
def Like (S : Nat → Bool) (n : Nat) (σ : AS) : Prop :=
  σ.env.length = σ0.env.length ∧ (∀ t, σ.env.getD t .undef = envAt σ0 ds es S n t) ∧ ∀ s, look σ.mem s = memAt σ0 es S n s

theorem getD_set (env : List L) (d t : Nat) (v : L) : (env.set d v).getD t .undef = if d = t ∧ t < env.length then v else env.getD t .undef := by
  simp only [List.getD, List.getElem?_set]
  by_cases h : d = t
  · subst h
    by_cases h2 : d < env.length
    · simp [h2]
    · simp [h2, List.getElem?_eq_none (Nat.le_of_not_lt h2)]
  · simp [h]

theorem Like.after {S : Nat → Bool} {i n : Nat} {σ : AS} (h : Like σ0 ds es S n σ) (hi : i < n) (hS : S i = false)
    (h1 : ∀ t j, i < j → j < n → S j = true → ds i = some t → ds j ≠ some t) (h2 : ∀ s j, i < j → j < n → S j = true → s ∈ (es i).wr.map (·.1) → s ∉ (es j).wr.map (·.1)) :
    Like σ0 ds es (ins S i) n (σ.after (ds i) (es i)) := by
  obtain ⟨l1, l2, l3⟩ := h
  refine ⟨by simp [AS.after, setEnv_length, l1], fun t => ?_, fun s => ?_⟩
  · rw [envAt_ins σ0 ds es hi hS (h1 t), ← l2]
    simp only [AS.after]
    cases hd : ds i with
    | none => simp [setEnv]
    | some d =>
      simp only [setEnv]
      rw [getD_set, l1]
      simp only [Option.some.injEq]
  · rw [memAt_ins σ0 es hi hS (h2 s), ← l3]
    simp only [AS.after]
    exact look_putAll_last _ _ _

theorem Like.eq {S : Nat → Bool} {n : Nat} {σ σ' : AS} (h : Like σ0 ds es S n σ) (h' : Like σ0 ds es S n σ') : σ'.env = σ.env ∧ ∀ s, look σ'.mem s = look σ.mem s := by
  refine ⟨?_, fun s => by rw [h.2.2, h'.2.2]⟩
  apply List.ext_getElem?
  intro t
  have hl : σ'.env.length = σ.env.length := by rw [h.1, h'.1]
  have ht := (h'.2.1 t).trans (h.2.1 t).symm
  by_cases hlt : t < σ.env.length
  · have hlt' : t < σ'.env.length := by omega
    simp only [List.getD, List.getElem?_eq_getElem hlt, List.getElem?_eq_getElem hlt', Option.getD_some] at ht ⊢
    rw [ht]
  · rw [List.getElem?_eq_none (by omega), List.getElem?_eq_none (by omega)]
end

/-- the order of the text: what each operation does, from the state in which it stands -/
theorem runD_list {K : List Eff → AS → Prop} : ∀ (ios : List IOp) (es0 : List Eff) (σ : AS), runD Pg ios es0 σ K →
    ∃ es : List Eff, es.length = ios.length ∧ ∃ st : Nat → AS, st 0 = σ ∧ (∀ i io e, ios[i]? = some io → es[i]? = some e → Does Pg (st i) io e ∧ st (i + 1) = (st i).after io.dst e) ∧ K (es0 ++ es) (st ios.length)
  | [], es0, σ, h => ⟨[], rfl, fun _ => σ, rfl, by simp, by simpa [runD] using h⟩
  | io :: ios, es0, σ, h => by
    simp only [runD] at h
    obtain ⟨e, h1, h2⟩ := stepG_split h
    obtain ⟨es, g1, st, g2, g3, g4⟩ := runD_list ios (es0 ++ [e]) _ h2
    refine ⟨e :: es, by simp [g1], fun i => match i with | 0 => σ | i + 1 => st i, rfl, ?_, by simpa using g4⟩
    intro i io' e' hi he
    cases i with
    | zero => simp at hi he; subst hi; subst he; exact ⟨h1, g2⟩
    | succ i => simp at hi he; exact g3 i io' e' hi he

end Go.AW
namespace Go.AW

variable {M0 : Nat → Prop} {D : List Nat} {w0 : Base} {w w' : World} {ρ ρ' : Nat → Nat} {a : Act} {Pg : Program} {mem mem' m m' : Mem} {σ σ' : AS}

def dirOf (o : Oper) : List Nat := (o.after.toList.filter fun e => Region.binds .any e).map (·.on)
def maskOf (t : List Nat) : List Nat → Nat
  | [] => 0
  | e :: es => 2 ^ e ||| t.getD e 0 ||| maskOf t es
def masks : List (List Nat) → List Nat → List Nat
  | [], acc => acc
  | d :: ds, acc => masks ds (acc ++ [maskOf acc d])

theorem maskOf_bit {t : List Nat} {i : Nat} : ∀ {es : List Nat}, (maskOf t es).testBit i = true → ∃ e ∈ es, e = i ∨ (t.getD e 0).testBit i = true
  | [], h => by simp [maskOf] at h
  | e :: es, h => by
    simp only [maskOf, Nat.testBit_or, Bool.or_eq_true, Nat.testBit_two_pow, decide_eq_true_eq] at h
    rcases h with (h | h) | h
    · exact ⟨e, by simp, .inl h⟩
    · exact ⟨e, by simp, .inr h⟩
    · obtain ⟨e', h1, h2⟩ := maskOf_bit h
      exact ⟨e', by simp [h1], h2⟩

theorem masks_pre : ∀ (ds : List (List Nat)) (acc : List Nat), acc <+: masks ds acc
  | [], acc => List.prefix_refl _
  | d :: ds, acc => (List.prefix_append _ _).trans (masks_pre ds _)

theorem masks_bit : ∀ (ds : List (List Nat)) (acc : List Nat) (k i : Nat) (d : List Nat), ds[k]? = some d → ((masks ds acc).getD (acc.length + k) 0).testBit i = true →
    ∃ e ∈ d, e = i ∨ (e < acc.length + k ∧ ((masks ds acc).getD e 0).testBit i = true)
  | [], _, _, _, _, h, _ => by simp at h
  | d0 :: ds, acc, 0, i, d, h, hb => by
    simp at h; subst h
    simp only [masks, Nat.add_zero] at hb ⊢
    have hp := masks_pre ds (acc ++ [maskOf acc d0])
    obtain ⟨r, hr⟩ := hp
    have e1 : (masks ds (acc ++ [maskOf acc d0])).getD acc.length 0 = maskOf acc d0 := by
      rw [← hr]; simp [List.getD]
    rw [e1] at hb
    obtain ⟨e, h1, h2⟩ := maskOf_bit hb
    refine ⟨e, h1, h2.imp id fun h2 => ?_⟩
    have hlt : e < acc.length := by
      rcases Nat.lt_or_ge e acc.length with h | h
      · exact h
      · simp [List.getD, List.getElem?_eq_none h] at h2
    refine ⟨hlt, ?_⟩
    rw [← hr]
    have : (acc ++ [maskOf acc d0] ++ r).getD e 0 = acc.getD e 0 := by
      simp only [List.getD, List.append_assoc]
      rw [List.getElem?_append_left hlt]
    rw [this]; exact h2
  | d0 :: ds, acc, k + 1, i, d, h, hb => by
    simp at h
    simp only [masks] at hb ⊢
    have := masks_bit ds (acc ++ [maskOf acc d0]) k i d h (by simpa [Nat.add_assoc, Nat.add_comm 1 k] using hb)
    simpa [Nat.add_assoc, Nat.add_comm 1 k] using this

def chkUn (ios : List IOp) : List (Nat × Nat) → Bool
  | [] => true
  | (i, j) :: un => (match ios[i]?, ios[j]? with
    | some x, some y => (match x.dst with | some d => !y.tmps.contains d && decide (y.dst ≠ some d) | none => true) && (match y.dst with | some d => !x.tmps.contains d | none => true)
    | _, _ => false) && chkUn ios un

def dirsOf (ops : List Oper) : List (List Nat) := ops.map dirOf

def chkDraw (Pg : Program) (ops : Array Oper) (ios : List IOp) (un : List (Nat × Nat)) : Bool :=
  chkIOps Pg ops ios ops.toList && chkUn ios un &&
  (let ms := masks (dirsOf ops.toList) []
   (List.range ops.size).all fun j => ((dirsOf ops.toList).getD j []).all (fun e => decide (e < j)) && (List.range j).all fun i => (ms.getD j 0).testBit i || un.contains (i, j))

theorem chkIOps_get : ∀ {ios : List IOp} {os : List Oper} {ops : Array Oper}, chkIOps Pg ops ios os = true → ∀ (i : Nat) (o : Oper), os[i]? = some o → ∃ io, ios[i]? = some io ∧ chkIOp Pg ops io o = true
  | [], [], _, _, i, o, h => by simp at h
  | io :: ios, o' :: os, ops, hc, 0, o, h => by
    simp only [chkIOps, Bool.and_eq_true] at hc
    simp at h; subst h; exact ⟨io, rfl, hc.1⟩
  | io :: ios, o' :: os, ops, hc, i + 1, o, h => by
    simp only [chkIOps, Bool.and_eq_true] at hc
    simpa using chkIOps_get hc.2 i o (by simpa using h)
  | [], _ :: _, _, h, _, _, _ => by simp [chkIOps] at h
  | _ :: _, [], _, h, _, _, _ => by simp [chkIOps] at h

theorem chkUn_get {ios : List IOp} : ∀ {un : List (Nat × Nat)}, chkUn ios un = true → ∀ i j, (i, j) ∈ un → ∃ x y, ios[i]? = some x ∧ ios[j]? = some y ∧
    (∀ d, x.dst = some d → d ∉ y.tmps ∧ y.dst ≠ some d) ∧ ∀ d, y.dst = some d → d ∉ x.tmps
  | [], _, i, j, h => by simp at h
  | (i', j') :: un, hc, i, j, h => by
    simp only [chkUn, Bool.and_eq_true] at hc
    rcases List.mem_cons.1 h with h | h
    · injection h with h1 h2; subst h1; subst h2
      obtain ⟨hc, _⟩ := hc
      split at hc
      · rename_i x y hx hy
        simp only [Bool.and_eq_true] at hc
        refine ⟨x, y, hx, hy, fun d hd => ?_, fun d hd => ?_⟩
        · have := hc.1; rw [hd] at this; simpa using this
        · have := hc.2; rw [hd] at this; simpa using this
      · cases hc
    · exact chkUn_get hc.2 i j h

theorem draw_wp (hmix : Pg.follows .mixedOrders = true) (h : SR M0 D w0 ρ σ a w) {id : Nat} {ops : Array Oper} {ios : List IOp} {un : List (Nat × Nat)} (hc : chkDraw Pg ops ios un = true) {K : AS → Prop}
    (hr : runD Pg ios [] σ fun es s => indep un es = true ∧ K s) {Q : Exit → Act → World → Prop} (hq : ∀ σ' a' w' ρ', K σ' → SR M0 D w0 ρ' σ' a' w' → Q .normal a' w') :
    (Code.region id ops true).wp Pg Q a w := by
  apply wp_region_any hmix
  simp only [World.drew_eq]
  unfold chkDraw at hc
  simp only [Bool.and_eq_true] at hc
  obtain ⟨⟨hc1, hc2⟩, hc3⟩ := hc
  rw [List.all_eq_true] at hc3
  have hlen : ios.length = ops.size := by have := chkIOps_len hc1; simpa using this
  obtain ⟨es, g1, st, g2, g3, g4, g5⟩ := runD_list ios [] σ hr
  simp only [List.nil_append] at g4
  -- names
  let n := ops.size
  let ds : Nat → Option Nat := fun i => (ios[i]?).bind (·.dst)
  let ef : Nat → Eff := fun i => es.getD i ⟨.undef, [], []⟩
  let ms := masks (dirsOf ops.toList) []
  have ioAt : ∀ i, i < n → ∃ io e, ios[i]? = some io ∧ es[i]? = some e ∧ ds i = io.dst ∧ ef i = e := by
    intro i hi
    have h1 : i < ios.length := by rw [hlen]; exact hi
    have h2 : i < es.length := by rw [g1]; exact h1
    exact ⟨ios[i], es[i], List.getElem?_eq_getElem h1, List.getElem?_eq_getElem h2, by simp [ds, List.getElem?_eq_getElem h1], by simp [ef, List.getD, List.getElem?_eq_getElem h2]⟩
  have dirlt : ∀ j e, j < n → e ∈ (dirsOf ops.toList).getD j [] → e < j := by
    intro j e hj he
    have := hc3 j (List.mem_range.2 hj)
    simp only [Bool.and_eq_true, List.all_eq_true, decide_eq_true_eq] at this
    exact this.1 e he
  have pairs : ∀ i j, i < j → j < n → (ms.getD j 0).testBit i = true ∨ (i, j) ∈ un := by
    intro i j hij hj
    have := hc3 j (List.mem_range.2 hj)
    simp only [Bool.and_eq_true, List.all_eq_true, Bool.or_eq_true] at this
    have := this.2 i (List.mem_range.2 hij)
    simpa using this
  have unAp : ∀ i j, (i, j) ∈ un → (ef i).apart (ef j) = true := by
    intro i j hij
    unfold indep at g4
    rw [List.all_eq_true] at g4
    exact g4 (i, j) hij
  have unTm : ∀ i j, (i, j) ∈ un → ∀ x y, ios[i]? = some x → ios[j]? = some y → (∀ d, x.dst = some d → d ∉ y.tmps ∧ y.dst ≠ some d) ∧ ∀ d, y.dst = some d → d ∉ x.tmps := by
    intro i j hij x y hx hy
    obtain ⟨x', y', h1, h2, h3⟩ := chkUn_get hc2 i j hij
    rw [hx] at h1; rw [hy] at h2
    injection h1 with h1; injection h2 with h2; subst h1; subst h2
    exact h3
  have apW : ∀ i j s, (i, j) ∈ un → s ∈ (ef i).wr.map (·.1) → s ∉ (ef j).wr.map (·.1) ∧ s ∉ (ef j).rd := by
    intro i j s hij hs
    have := unAp i j hij
    unfold Eff.apart at this
    simp only [Bool.and_eq_true, List.all_eq_true] at this
    obtain ⟨x, hx, rfl⟩ := List.mem_map.1 hs
    have := this.1 x hx
    simpa using this
  have apR : ∀ i j s, (i, j) ∈ un → s ∈ (ef j).wr.map (·.1) → s ∉ (ef i).wr.map (·.1) ∧ s ∉ (ef i).rd := by
    intro i j s hij hs
    refine ⟨fun h' => (apW i j s hij h').1 hs, ?_⟩
    have := unAp i j hij
    unfold Eff.apart at this
    simp only [Bool.and_eq_true, List.all_eq_true] at this
    obtain ⟨x, hx, rfl⟩ := List.mem_map.1 hs
    have := this.2 x hx
    simpa using this
  -- sets that hold with each operation all that it waits for
  have closed : ∀ (S : Nat → Bool), (∀ k, k < n → S k = true → ∀ e ∈ (dirsOf ops.toList).getD k [], S e = true) →
      ∀ k, k < n → ∀ i, (∀ e ∈ (dirsOf ops.toList).getD k [], S e = true) → (ms.getD k 0).testBit i = true → S i = true := by
    intro S hS k
    induction k using Nat.strongRecOn with
    | ind k ih =>
      intro hk i hd hb
      have hk' : (dirsOf ops.toList)[k]? = some ((dirsOf ops.toList).getD k []) := by
        have : k < (dirsOf ops.toList).length := by simp [dirsOf]; exact hk
        simp [List.getD, List.getElem?_eq_getElem this]
      obtain ⟨e, he, h1 | ⟨h1, h2⟩⟩ := masks_bit (dirsOf ops.toList) [] k i _ hk' (by simpa [ms] using hb)
      · rw [← h1]; exact hd e he
      · have hek := dirlt k e hk he
        exact ih e hek (Nat.lt_trans hek hk) i (hS e (Nat.lt_trans hek hk) (hd e he)) h2
  -- the states of the order of the text
  have likeCongr : ∀ (S S' : Nat → Bool) (σ : AS), (∀ j, j < n → S j = S' j) → ∀ σ0, Like σ0 ds ef S n σ → Like σ0 ds ef S' n σ := by
    intro S S' σ hSS σ0 hl
    exact ⟨hl.1, fun t => by rw [hl.2.1 t]; exact envAt_congr σ0 ds ef n fun j hj _ => hSS j hj, fun s => by rw [hl.2.2 s]; exact memAt_congr σ0 ef n fun j hj _ => hSS j hj⟩
  have env0 : ∀ (S : Nat → Bool) k t, (∀ j, j < k → S j = false) → envAt σ ds ef S k t = σ.env.getD t .undef := by
    intro S k t
    induction k with
    | zero => intro _; rfl
    | succ k ih => intro hS; simp only [envAt, hS k (by omega)]; simpa using ih fun j hj => hS j (by omega)
  have mem0 : ∀ (S : Nat → Bool) k s, (∀ j, j < k → S j = false) → memAt σ ef S k s = look σ.mem s := by
    intro S k s
    induction k with
    | zero => intro _; rfl
    | succ k ih => intro hS; simp only [memAt, hS k (by omega)]; simpa using ih fun j hj => hS j (by omega)
  have like0 : ∀ (S : Nat → Bool), (∀ j, j < n → S j = false) → Like σ ds ef S n σ := fun S hS => ⟨rfl, fun t => (env0 S n t hS).symm, fun s => (mem0 S n s hS).symm⟩
  have likeSt : ∀ i, i ≤ n → Like σ ds ef (fun j => decide (j < i)) n (st i) := by
    intro i
    induction i with
    | zero => intro _; rw [g2]; exact like0 _ fun j _ => by simp
    | succ i ih =>
      intro hi
      obtain ⟨io, e, h1, h2, h3, h4⟩ := ioAt i (by omega)
      obtain ⟨_, h6⟩ := g3 i io e h1 h2
      have := (ih (by omega)).after σ ds ef (i := i) (by omega) (by simp) (fun t j hj _ hS => by simp at hS; omega) (fun s j hj _ hS => by simp at hS; omega)
      rw [h3, h4, ← h6] at this
      refine likeCongr _ _ _ (fun j _ => ?_) σ this
      simp only [ins]
      by_cases hji : j = i
      · subst hji; simp
      · have : (j == i) = false := by simpa using hji
        simp only [this, Bool.or_false, decide_eq_decide]; omega
  -- any order
  have main : ∀ (f : Nat) (listed : Array Bool) (σ1 : AS) (a1 : Act) (w1 : World) (ρ1 : Nat → Nat), listed.size = n → (listed.toList.filter (!·)).length ≤ f →
      (∀ k, k < n → listed.getD k false = true → ∀ e ∈ (dirsOf ops.toList).getD k [], listed.getD e false = true) → Like σ ds ef (fun j => listed.getD j false) n σ1 → SR M0 D w0 ρ1 σ1 a1 w1 →
      wpAny Pg .any ops Q f listed a1 w1 := by
    have rdy : ∀ (listed : Array Bool) i, listed.size = n → (i ∈ Region.ready .any ops listed ↔ i < n ∧ listed.getD i false = false ∧ ∀ e ∈ (dirsOf ops.toList).getD i [], listed.getD e false = true) := by
      intro listed i hsz
      unfold Region.ready
      rw [List.mem_filter, List.mem_range]
      constructor
      · rintro ⟨hi, hb⟩
        have hi' : i < ops.size := hi
        simp only [Bool.and_eq_true, Bool.not_eq_true', Array.getElem?_eq_getElem hi', Option.map_some, Option.getD_some, Array.all_eq_true', Bool.or_eq_true, Bool.not_eq_true'] at hb
        refine ⟨hi, ?_, fun e he => ?_⟩
        · have := hb.1
          simp only [Array.getD_eq_getD_getElem?] at this ⊢
          have hl : i < listed.size := by omega
          simpa [Array.getElem?_eq_getElem hl] using this
        · simp only [dirsOf, List.getD, List.getElem?_map] at he
          have : ops.toList[i]? = some ops[i] := by simp [hi']
          rw [this] at he
          simp only [Option.map_some, Option.getD_some, dirOf, List.mem_map, List.mem_filter] at he
          obtain ⟨ed, ⟨h1, h2⟩, rfl⟩ := he
          rcases hb.2 ed (by simpa using h1) with h3 | h3
          · rw [h2] at h3; cases h3
          · exact h3
      · rintro ⟨hi, h1, h2⟩
        have hi' : i < ops.size := hi
        refine ⟨hi, ?_⟩
        simp only [Bool.and_eq_true, Bool.not_eq_true', Array.getElem?_eq_getElem hi', Option.map_some, Option.getD_some, Array.all_eq_true', Bool.or_eq_true, Bool.not_eq_true']
        refine ⟨?_, fun ed hed => ?_⟩
        · have hl : i < listed.size := by omega
          simp only [Array.getD_eq_getD_getElem?, Array.getElem?_eq_getElem hl] at h1 ⊢
          simpa using h1
        · cases hb : Region.binds .any ed with
          | false => exact .inl rfl
          | true =>
            refine .inr (h2 ed.on ?_)
            simp only [dirsOf, List.getD, List.getElem?_map]
            have : ops.toList[i]? = some ops[i] := by simp [hi']
            rw [this]
            simp only [Option.map_some, Option.getD_some, dirOf, List.mem_map, List.mem_filter]
            exact ⟨ed, ⟨by simpa using hed, hb⟩, rfl⟩
    -- nothing is ready: all is done
    have allDone : ∀ (listed : Array Bool) (σ1 : AS) (a1 : Act) (w1 : World) (ρ1 : Nat → Nat), listed.size = n → Region.ready .any ops listed = [] → Like σ ds ef (fun j => listed.getD j false) n σ1 → SR M0 D w0 ρ1 σ1 a1 w1 → Q .normal a1 w1 := by
      intro listed σ1 a1 w1 ρ1 hsz hnil hl hsr
      have hall : ∀ j, j < n → listed.getD j false = true := by
        intro j
        induction j using Nat.strongRecOn with
        | ind j ih =>
          intro hj
          cases hb : listed.getD j false with
          | true => rfl
          | false =>
            exfalso
            have : j ∈ Region.ready .any ops listed := (rdy listed j hsz).2 ⟨hj, hb, fun e he => ih e (dirlt j e hj he) (Nat.lt_trans (dirlt j e hj he) hj)⟩
            rw [hnil] at this; cases this
      have h1 := likeSt n (Nat.le_refl _)
      have h2 := likeCongr _ (fun j => decide (j < n)) σ1 (fun j hj => by simp only [hall j hj]; simpa using hj) σ hl
      obtain ⟨e1, e2⟩ := h2.eq σ ds ef h1
      have := hsr.congr e1 e2
      rw [hlen] at g5
      exact hq _ _ _ _ g5 this
    intro f
    induction f with
    | zero =>
      intro listed σ1 a1 w1 ρ1 hsz hcnt hcl hl hsr
      have hnil : Region.ready .any ops listed = [] := by
        apply List.eq_nil_iff_forall_not_mem.2
        intro i hi
        obtain ⟨h1, h2, _⟩ := (rdy listed i hsz).1 hi
        have hl : i < listed.size := by omega
        have : listed[i] ∈ listed.toList.filter (!·) := by
          rw [List.mem_filter]
          refine ⟨by simp, ?_⟩
          simp only [Array.getD_eq_getD_getElem?, Array.getElem?_eq_getElem hl] at h2
          simpa using h2
        have := List.length_pos_of_mem this
        omega
      exact ⟨hnil, allDone listed σ1 a1 w1 ρ1 hsz hnil hl hsr⟩
    | succ f ih =>
      intro listed σ1 a1 w1 ρ1 hsz hcnt hcl hl hsr
      refine ⟨fun hnil => allDone listed σ1 a1 w1 ρ1 hsz hnil hl hsr, fun i hi => ?_⟩
      obtain ⟨hin, hiL, hid⟩ := (rdy listed i hsz).1 hi
      obtain ⟨io, e, h1, h2, h3, h4⟩ := ioAt i hin
      obtain ⟨hdo, _⟩ := g3 i io e h1 h2
      have hiops : ops[i]? = some ops[i] := Array.getElem?_eq_getElem hin
      obtain ⟨io', hio', hchk⟩ := chkIOps_get hc1 i ops[i] (by simp [hin])
      rw [h1] at hio'; injection hio' with hio'; subst hio'
      -- what is done and what stands ahead
      have ahead : ∀ j, j < n → j < i → listed.getD j false = false → (j, i) ∈ un := by
        intro j hj hji hjL
        rcases pairs j i hji hin with hb | hb
        · have := closed (fun j => listed.getD j false) hcl i hin j hid hb
          rw [hjL] at this; cases this
        · exact hb
      have behind : ∀ j, j < n → i < j → listed.getD j false = true → (i, j) ∈ un := by
        intro j hj hij hjL
        rcases pairs i j hij hj with hb | hb
        · have := closed (fun j => listed.getD j false) hcl j hj i (hcl j hj hjL) hb
          rw [hiL] at this; cases this
        · exact hb
      have hst := likeSt i (Nat.le_of_lt hin)
      have hdo' : Does Pg σ1 io e := by
        refine hdo.loc (fun t ht => ?_) (fun s hs => ?_)
        · rw [hst.2.1 t, hl.2.1 t]
          refine (envAt_congr σ ds ef n fun j hj hd => ?_)
          obtain ⟨jo, je, k1, _, k3, _⟩ := ioAt j hj
          rw [k3] at hd
          by_cases hji : j < i
          · simp only [hji, decide_true]
            cases hjL : listed.getD j false with
            | true => rfl
            | false => exact absurd ht ((unTm j i (ahead j hj hji hjL) jo io k1 h1).1 t hd).1
          · simp only [hji, decide_false]
            by_cases hje : j = i
            · subst hje; exact hiL
            · cases hjL : listed.getD j false with
              | false => rfl
              | true => exact absurd ht ((unTm i j (behind j hj (by omega) hjL) io jo h1 k1).2 t hd)
        · rw [hst.2.2 s, hl.2.2 s]
          refine (memAt_congr σ ef n fun j hj hd => ?_)
          rw [← h4] at hs
          simp only [Eff.sites, List.mem_append] at hs
          by_cases hji : j < i
          · simp only [hji, decide_true]
            cases hjL : listed.getD j false with
            | true => rfl
            | false =>
              have := apW j i s (ahead j hj hji hjL) hd
              rcases hs with hs | hs
              · exact absurd hs this.2
              · exact absurd hs this.1
          · simp only [hji, decide_false]
            by_cases hje : j = i
            · subst hje; exact hiL
            · cases hjL : listed.getD j false with
              | false => rfl
              | true =>
                have := apR i j s (behind j hj (by omega) hjL) hd
                rcases hs with hs | hs
                · exact absurd hs this.2
                · exact absurd hs this.1
      refine stepG_wp hsr hiops hchk hdo' ?_
      intro e' a' w' ρ' he' hsr'
      subst he'
      have hsz' : (listed.setIfInBounds i true).size = n := by simpa using hsz
      have hget : ∀ j, (listed.setIfInBounds i true).getD j false = (listed.getD j false || j == i) := by
        intro j
        simp only [Array.getD_eq_getD_getElem?, Array.getElem?_setIfInBounds]
        by_cases hje : i = j
        · subst hje
          have : i < listed.size := by omega
          simp [this]
        · have : (j == i) = false := by simpa using fun h => hje h.symm
          simp [hje, this]
      refine ih (listed.setIfInBounds i true) _ a' w' ρ' hsz' ?_ ?_ ?_ hsr'
      · have hl : i < listed.size := by omega
        have hcount : ∀ (l : List Bool) (k : Nat), l[k]? = some false → ((l.set k true).filter (!·)).length + 1 = (l.filter (!·)).length := by
          intro l
          induction l with
          | nil => intro k hk; simp at hk
          | cons b l ihl =>
            intro k hk
            cases k with
            | zero => simp at hk; subst hk; simp
            | succ k =>
              have := ihl k (by simpa using hk)
              cases b <;> simp [List.filter_cons] <;> omega
        have hfi : listed.toList[i]? = some false := by
          simp only [Array.getD_eq_getD_getElem?, Array.getElem?_eq_getElem hl] at hiL
          simp [hl]
          simpa using hiL
        have := hcount listed.toList i hfi
        simp only [Array.toList_setIfInBounds]
        omega
      · intro k hk hkL e1 he1
        rw [hget] at hkL ⊢
        simp only [Bool.or_eq_true, beq_iff_eq] at hkL ⊢
        rcases hkL with hkL | rfl
        · exact .inl (hcl k hk hkL e1 he1)
        · exact .inl (hid e1 he1)
      · have := hl.after σ ds ef (i := i) hin hiL (fun t j hj hjn hS hdi hdj => by
          obtain ⟨jo, je, k1, _, k3, _⟩ := ioAt j hjn
          rw [h3] at hdi; rw [k3] at hdj
          exact ((unTm i j (behind j hjn hj hS) io jo h1 k1).1 t hdi).2 hdj) (fun s j hj hjn hS hsi hsj => (apW i j s (behind j hjn hj hS) hsi).1 hsj)
        rw [h3, h4] at this
        exact likeCongr _ _ _ (fun j _ => by rw [hget]; rfl) σ this
  refine main ops.size (Array.replicate ops.size false) σ a w.drew ρ (by simp [n]) (by simp) (fun k hk hkL => ?_) (like0 _ fun j hj => ?_) h.drew
  · have : k < ops.size := hk
    simp [Array.getD_eq_getD_getElem?, Array.getElem?_replicate, this] at hkL
  · have : j < ops.size := hj
    simp [Array.getD_eq_getD_getElem?, Array.getElem?_replicate, this]

end Go.AW
namespace Go.AW

variable {M0 M M' : Nat → Prop} {D : List Nat} {w0 : Base} {w w' : World} {ρ ρ' : Nat → Nat} {a : Act} {Pg : Program} {mem mem' m m' : Mem} {σ σ' : AS}

theorem Here.refOn {s ver : Nat} {K : Blk → Nat → Prop} (hs : look mem' s = look mem s) (h : Here ρ mem s ver K) : Here ρ mem' s ver K := by
  obtain ⟨v, b, h1, h2⟩ := h
  exact ⟨v, b, hs.trans h1, h2⟩

mutual
theorem LRel.refOn (hM : ∀ b, M' b → M b) : ∀ (l : L) (v : Value), (∀ s ∈ refs l, look mem' s = look mem s) → LRel w M ρ mem l v → LRel w M' ρ mem' l v
  | .p p, v, _, h => by simp only [LRel] at h ⊢; exact h.sub hM
  | .sl s ver off len, v, hs, h => by simp only [LRel] at h ⊢; exact ⟨h.1, h.2.refOn (hs s (by simp [refs]))⟩
  | .ptr s ver off, v, hs, h => by simp only [LRel] at h ⊢; exact ⟨h.1, h.2.refOn (hs s (by simp [refs]))⟩
  | .eptr s ver i off, v, hs, h => by simp only [LRel] at h ⊢; exact ⟨h.1, h.2.refOn (hs s (by simp [refs]))⟩
  | .agg ls, v, hs, h => by simp only [LRel] at h ⊢; obtain ⟨vs, rfl, hr⟩ := h; exact ⟨vs, rfl, LRels.refOn hM ls _ (fun s h => hs s (by simpa [refs] using h)) hr⟩
  | .tup ls, v, hs, h => by simp only [LRel] at h ⊢; obtain ⟨vs, rfl, hr⟩ := h; exact ⟨vs, rfl, LRels.refOn hM ls _ (fun s h => hs s (by simpa [refs] using h)) hr⟩
  | .clo f ls, v, hs, h => by simp only [LRel] at h ⊢; obtain ⟨vs, rfl, hr⟩ := h; exact ⟨vs, rfl, LRels.refOn hM ls _ (fun s h => hs s (by simpa [refs] using h)) hr⟩
  | .undef, _, _, _ => by simp only [LRel]
theorem LRels.refOn (hM : ∀ b, M' b → M b) : ∀ (ls : List L) (vs : List Value), (∀ s ∈ refss ls, look mem' s = look mem s) → LRels w M ρ mem ls vs → LRels w M' ρ mem' ls vs
  | [], vs, _, h => by simpa [LRels] using h
  | l :: ls, vs, hs, h => by
    simp only [LRels] at h ⊢
    obtain ⟨v, rest, rfl, h1, h2⟩ := h
    exact ⟨v, rest, rfl, LRel.refOn hM l v (fun s h => hs s (by simp [refss, h])) h1, LRels.refOn hM ls rest (fun s h => hs s (by simp [refss, h])) h2⟩
end

theorem look_filter (p : Nat → Bool) : ∀ (mem : Mem) (s : Nat), look (mem.filter fun x => p x.1) s = if p s then look mem s else none
  | [], s => by simp [look]
  | (t, v, b) :: mem, s => by
    simp only [List.filter_cons]
    by_cases ht : p t = true
    · simp only [ht, if_true, look]
      by_cases hts : t = s
      · subst hts; simp [ht]
      · simp only [hts, if_false]; exact look_filter p mem s
    · simp only [ht, Bool.false_eq_true, if_false, look, look_filter p mem s]
      by_cases hts : t = s
      · subst hts; simp [ht]
      · simp only [hts, if_false]

theorem cleanEnv_get (live : List Nat) : ∀ (env : List L) (k i : Nat) (l : L), (cleanEnv live k env)[i]? = some l → ∃ l0, env[i]? = some l0 ∧ (l = l0 ∨ l = .undef)
  | [], k, i, l, h => by simp [cleanEnv] at h
  | l0 :: env, k, 0, l, h => by
    simp only [cleanEnv, List.getElem?_cons_zero, Option.some.injEq] at h
    refine ⟨l0, rfl, ?_⟩
    split at h
    · exact .inl h.symm
    · exact .inr h.symm
  | l0 :: env, k, i + 1, l, h => by
    simp only [cleanEnv, List.getElem?_cons_succ] at h ⊢
    exact cleanEnv_get live env (k + 1) i l h

theorem cleanEnv_len (live : List Nat) : ∀ (env : List L) (k : Nat), (cleanEnv live k env).length = env.length
  | [], k => rfl
  | l0 :: env, k => by simp [cleanEnv, cleanEnv_len live env (k + 1)]

theorem refss_get : ∀ {env : List L} {i : Nat} {l : L}, env[i]? = some l → ∀ s ∈ refs l, s ∈ refss env
  | [], i, l, h => by simp at h
  | l0 :: env, 0, l, h => by simp at h; subst h; intro s hs; simp [refss, hs]
  | l0 :: env, i + 1, l, h => by
    intro s hs; simp only [List.getElem?_cons_succ] at h
    simp [refss, refss_get h s hs]

theorem look_mem : ∀ {mem : Mem} {s ver : Nat} {b : Blk}, look mem s = some (ver, b) → (s, ver, b) ∈ mem
  | [], s, ver, b, h => by simp [look] at h
  | (t, v, b0) :: mem, s, ver, b, h => by
    simp only [look] at h
    split at h
    · rename_i hts; subst hts; simp only [Option.some.injEq, Prod.mk.injEq] at h; obtain ⟨rfl, rfl⟩ := h; simp
    · exact List.mem_cons_of_mem _ (look_mem h)

theorem clean_good (h : SR M0 D w0 ρ σ a w) {live sites : List Nat} (hc : clean live sites σ = some σ') : SR M0 D w0 ρ σ' a w := by
  unfold clean at hc
  simp only at hc
  generalize reach σ.mem 3 (sites ++ refss (cleanEnv live 0 σ.env)) = sites at hc
  split at hc
  · rename_i hall
    simp only [Option.some.injEq] at hc; subst hc
    have hl : ∀ s, look (σ.mem.filter fun x => keptSite sites x.1) s = if keptSite sites s then look σ.mem s else none := look_filter (fun s => keptSite sites s) σ.mem
    have hsome : ∀ {s ver b}, look (σ.mem.filter fun x => keptSite sites x.1) s = some (ver, b) → look σ.mem s = some (ver, b) := by
      intro s ver b hb; rw [hl] at hb; split at hb
      · exact hb
      · cases hb
    have hM : ∀ b, mutOf M0 ρ (σ.mem.filter fun x => keptSite sites x.1) b → mutOf M0 ρ σ.mem b := by
      rintro b (hb | ⟨s, ver, blk, h1, h2, h3⟩)
      · exact .inl hb
      · exact .inr ⟨s, ver, blk, hsome h1, h2, h3⟩
    rw [List.all_eq_true] at hall
    have hr : ∀ s, s ∈ refss (cleanEnv live 0 σ.env) → look (σ.mem.filter fun x => keptSite sites x.1) s = look σ.mem s := by
      intro s hs; rw [hl, if_pos (hall s (List.mem_append_left _ hs))]
    have hb : ∀ s ver b, look (σ.mem.filter fun x => keptSite sites x.1) s = some (ver, b) → ∀ t ∈ blkRefs b, look (σ.mem.filter fun x => keptSite sites x.1) t = look σ.mem t := by
      intro s ver b hs t ht
      rw [hl, if_pos (hall t (List.mem_append_right _ (List.mem_flatMap.2 ⟨_, look_mem hs, ht⟩)))]
    refine ⟨h.defers, (cleanEnv_len live σ.env 0).trans h.len, h.keeps, h.base, h.own, fun s ver blk h1 => h.lo s ver blk (hsome h1), fun s ver blk h1 => h.hi s ver blk (hsome h1),
      fun s ver blk s' ver' blk' h1 h2 h3 => h.inj s ver blk s' ver' blk' (hsome h1) h2 (hsome h3), fun s ver b h1 => ?_, fun i l h1 => ?_, fun s b hm => ?_⟩
    · have := h.blk s ver b (hsome h1)
      have hbr := hb s ver b h1
      cases b with
      | box cs fz =>
        obtain ⟨c, t, h2, h3⟩ := this
        exact ⟨c, t, h2, LRels.refOn hM cs _ (fun s hs => hbr s (by simpa [blkRefs] using hs)) h3⟩
      | arr n es fz =>
        obtain ⟨c, t, vs, rest, h2, h3, h4⟩ := this
        exact ⟨c, t, vs, rest, h2, h3.sub hM, h4⟩
      | dead => trivial
    · obtain ⟨l0, h2, h3⟩ := cleanEnv_get live σ.env 0 i l h1
      rcases h3 with rfl | rfl
      · exact LRel.refOn hM l _ (fun s hs => hr s (refss_get h1 s hs)) (h.env i l h2)
      · simp [LRel]
    · obtain ⟨h1, h2, ver, blk, h3, h4⟩ := h.pin s b hm
      refine ⟨h1, h2, ver, blk, ?_, h4⟩
      rw [hl, if_pos]
      · exact h3
      · simp [keptSite, h1, h2]
  · cases hc

def chkC (Pg : Program) : Code → IC → Bool
  | .skip, .skip => true
  | .region _ ops false, .reg ios => chkIOps Pg ops ios ops.toList
  | .region _ ops true, .draw ios un => chkDraw Pg ops ios un
  | .seq a b, .seq x y => chkC Pg a x && chkC Pg b y
  | .cond c a b, .ite x p q => chkX x c && chkC Pg a p && chkC Pg b q
  | .block id c, .blk id' p => decide (id = id') && chkC Pg c p
  | .loop c, .loop _ _ p => chkC Pg c p
  | .exit i, .exit j => decide (i = j)
  | .ret, .ret => true
  | _, _ => false

def IE.out : IE → Exit
  | .norm => .normal
  | .exit id => .exit id
  | .ret => .ret

theorem code_wp (hmix : Pg.follows .mixedOrders = true) : ∀ (c : Code) (ic : IC), chkC Pg c ic = true → ∀ {ρ : Nat → Nat} {σ : AS} {a : Act} {w : World}, SR M0 D w0 ρ σ a w → ∀ {QI : IE → AS → Prop}, awp Pg ic QI σ →
    ∀ {Q : Exit → Act → World → Prop}, (∀ ie σ' a' w' ρ', QI ie σ' → SR M0 D w0 ρ' σ' a' w' → Q ie.out a' w') → c.wp Pg Q a w := by
  intro c
  induction c with
  | skip =>
    intro ic hc ρ σ a w h QI hw Q hq
    cases ic <;> simp only [chkC, Bool.false_eq_true] at hc
    exact wp_skip (hq .norm σ a w ρ hw h)
  | region id ops draw =>
    intro ic hc ρ σ a w h QI hw Q hq
    cases draw <;> cases ic <;> simp only [chkC, Bool.false_eq_true] at hc
    · exact region_wp h hc hw fun σ' a' w' ρ' hk hsr => hq .norm σ' a' w' ρ' hk hsr
    · exact draw_wp hmix h hc (K := fun s => QI .norm s) hw fun σ' a' w' ρ' hk hsr => hq .norm σ' a' w' ρ' hk hsr
  | seq x y ih1 ih2 =>
    intro ic hc ρ σ a w h QI hw Q hq
    cases ic <;> simp only [chkC, Bool.false_eq_true, Bool.and_eq_true] at hc
    refine wp_seq (ih1 _ hc.1 h hw ?_)
    intro ie σ' a' w' ρ' hk hsr
    cases ie with
    | norm => exact ih2 _ hc.2 hsr hk hq
    | exit id => exact hq (.exit id) _ _ _ _ hk hsr
    | ret => exact hq .ret _ _ _ _ hk hsr
  | cond x p q ih1 ih2 =>
    intro ic hc ρ σ a w h QI hw Q hq
    cases ic <;> simp only [chkC, Bool.false_eq_true, Bool.and_eq_true] at hc
    obtain ⟨t, ht, hw⟩ := hw
    have hv := ev_rel h hc.1.1
    rw [ht] at hv
    simp only [LRel, PRel] at hv
    refine wp_cond hv ?_
    cases t with
    | true => exact ih1 _ hc.1.2 h hw hq
    | false => exact ih2 _ hc.2 h hw hq
  | block id x ih =>
    intro ic hc ρ σ a w h QI hw Q hq
    cases ic <;> simp only [chkC, Bool.false_eq_true, Bool.and_eq_true, decide_eq_true_eq] at hc
    obtain ⟨rfl, hc⟩ := hc
    refine wp_block (ih _ hc h hw ?_)
    intro ie σ' a' w' ρ' hk hsr
    cases ie with
    | norm => exact hq .norm _ _ _ _ (by simpa using hk) hsr
    | ret => exact hq .ret _ _ _ _ (by simpa using hk) hsr
    | exit id' =>
      simp only [IE.out, Exit.inBlock]
      by_cases hid : id' = id
      · subst hid; simp only [if_true] at hk ⊢; exact hq .norm _ _ _ _ hk hsr
      · simp only [hid, if_false]
        rw [if_neg (by simp [hid])] at hk
        exact hq (.exit id') _ _ _ _ hk hsr
  | loop x ih =>
    intro ic hc ρ σ a w h QI hw Q hq
    cases ic <;> simp only [chkC, Bool.false_eq_true] at hc
    rename_i live sites p
    obtain ⟨n, hn⟩ := hw
    refine wp_loop_ghost (fun n a w => ∃ ρ σ, SR M0 D w0 ρ σ a w ∧ iter (awp Pg p) live sites QI n σ) n ⟨ρ, σ, h, hn⟩ ?_
    rintro n a w ⟨ρ, σ, h, hn⟩
    cases n with
    | zero => exact hn.elim
    | succ n =>
      obtain ⟨σ', hcl, hb⟩ := hn
      refine ih _ hc (clean_good h hcl) hb ?_
      intro ie σ' a' w' ρ' hk hsr
      cases ie with
      | norm => exact ⟨n, Nat.lt_succ_self n, ρ', σ', hsr, hk⟩
      | exit id => exact hq (.exit id) _ _ _ _ hk hsr
      | ret => exact hq .ret _ _ _ _ hk hsr
  | exit id =>
    intro ic hc ρ σ a w h QI hw Q hq
    cases ic <;> simp only [chkC, Bool.false_eq_true, decide_eq_true_eq] at hc
    subst hc
    exact wp_exit (hq (.exit _) σ a w ρ hw h)
  | ret =>
    intro ic hc ρ σ a w h QI hw Q hq
    cases ic <;> simp only [chkC, Bool.false_eq_true] at hc
    exact wp_ret (hq .ret σ a w ρ hw h)
  | _ =>
    intro ic hc
    cases ic <;> simp [chkC] at hc

end Go.AW
namespace Go.AW

variable {M0 M M' Mx Mf : Nat → Prop} {D : List Nat} {w0 : Base} {w w' : World} {ρ ρ' : Nat → Nat} {a : Act} {Pg : Program} {mem mem' m m' : Mem} {σ σ' : AS}

theorem Took.nil {lit : Prop} {K : (Nat → Prop) → (Nat → Nat) → Mem → Prop} (h : ∀ Mf ρ' mem', (lit ∨ ∀ b, Mf b → Mx b) → K Mf ρ' mem') : Took w Mx ρ mem [] [] lit K :=
  ⟨[], rfl, by simp, by simp, fun Mf ρ' mem' _ hl _ => ⟨h Mf ρ' mem' hl, by simp⟩⟩

theorem entry_took : ∀ {args : List A} {vals : List Value} {bs : List Nat} (i : Nat), ARels w Mx args vals bs → bs.Nodup → ∀ (ρ : Nat → Nat),
    Took w Mx ρ [] (entry i args).2 bs False fun Mf ρ' mem' => LRels w Mf ρ' mem' (entry i args).1 vals
  | [], vals, bs, i, h, _, ρ => by
    obtain ⟨rfl, rfl⟩ := h
    exact Took.nil fun _ _ _ _ => by simp [entry, LRels]
  | .v p :: as, vals, bs, i, h, hn, ρ => by
    obtain ⟨v, rest, b1, b2, rfl, rfl, ⟨rfl, h1⟩, h2⟩ := h
    have t1 : Took w Mx ρ [] [] [] False fun Mf ρ' mem' => LRel w Mf ρ' mem' (ofP p) v := Took.nil fun Mf ρ' mem' hs => ofP_rel (h1.sub (hs.resolve_left id))
    refine (t1.both (entry_took (i + 1) h2 (by simpa using hn) ρ) hn).mono (fun h => ⟨h, h⟩) fun Mf ρ' mem' hk => ?_
    simp only [entry, LRels]; exact ⟨v, rest, rfl, hk.1, hk.2⟩
  | .own n es :: as, vals, bs, i, h, hn, ρ => by
    obtain ⟨v, rest, b1, b2, rfl, rfl, h1, h2⟩ := h
    have t1 := fromO_took (o := .own n es) h1 true ρ [] (900 + i)
    refine ((t1.mono (lit' := False) False.elim fun _ _ _ h => h).both (entry_took (i + 1) h2 (List.nodup_append.1 hn).2.1 ρ) hn).mono (fun h => ⟨h, h⟩) fun Mf ρ' mem' hk => ?_
    simp only [entry, LRels]; exact ⟨v, rest, rfl, hk.1, hk.2⟩
  | .box os :: as, vals, bs, i, h, hn, ρ => by
    obtain ⟨v, rest, b1, b2, rfl, rfl, h1, h2⟩ := h
    have t1 := box_took h1 (List.nodup_append.1 hn).1 true ρ [] (900 + i) 0 (1000 + 64 * (900 + i)) (.inl rfl)
    refine ((t1.mono (lit' := False) False.elim fun _ _ _ h => h).both (entry_took (i + 1) h2 (List.nodup_append.1 hn).2.1 ρ) hn).mono (fun h => ⟨h, h⟩) fun Mf ρ' mem' hk => ?_
    simp only [entry, LRels]; exact ⟨v, rest, rfl, hk.1, hk.2⟩

theorem entry_len : ∀ (args : List A) (i : Nat), (entry i args).1.length = args.length
  | [], i => rfl
  | .v p :: as, i => by simp [entry, entry_len as]
  | .own n es :: as, i => by simp [entry, entry_len as]
  | .box os :: as, i => by simp [entry, entry_len as]

theorem look_nodup : ∀ (l : Mem), (l.map (·.1)).Nodup → ∀ x ∈ l, look l x.1 = some x.2
  | [], _, x, h => by simp at h
  | (s, v, b) :: l, hn, x, h => by
    simp only [List.map_cons, List.nodup_cons] at hn
    simp only [look]
    rcases List.mem_cons.1 h with rfl | h
    · simp
    · have : s ≠ x.1 := fun he => hn.1 (he ▸ List.mem_map_of_mem h)
      rw [if_neg this]; exact look_nodup l hn.2 x h

def boxSites (i : Nat) : List A → List Nat
  | [] => []
  | .box _ :: as => (900 + i) :: boxSites (i + 1) as
  | _ :: as => boxSites (i + 1) as

/-- the lent blocks' numbers -/
def BoxAt (ρ0 : Nat → Nat) (i : Nat) : List A → List Value → Prop
  | [], _ => True
  | .box _ :: as, vs => vs.head? = some (.pointer (some ⟨ρ0 (900 + i), 0, none⟩)) ∧ BoxAt ρ0 (i + 1) as vs.tail
  | _ :: as, vs => BoxAt ρ0 (i + 1) as vs.tail

theorem boxAt_of : ∀ (args : List A) (i : Nat) (vals : List Value), LRels w M ρ mem (entry i args).1 vals → (∀ x ∈ (entry i args).2, look mem x.1 = some x.2) →
    BoxAt ρ i args vals ∧ ∀ s ∈ boxSites i args, ∃ ver blk, look mem s = some (ver, blk)
  | [], i, vals, _, _ => by simp [BoxAt, boxSites]
  | .v p :: as, i, vals, h, hx => by
    simp only [entry, LRels] at h; obtain ⟨v, rest, rfl, _, h2⟩ := h
    simpa [BoxAt, boxSites] using boxAt_of as (i + 1) rest h2 (fun x h => hx x (by simpa [entry] using h))
  | .own n es :: as, i, vals, h, hx => by
    simp only [entry, LRels] at h; obtain ⟨v, rest, rfl, _, h2⟩ := h
    simpa [BoxAt, boxSites] using boxAt_of as (i + 1) rest h2 (fun x h => hx x (by simp only [entry]; exact List.mem_cons_of_mem _ h))
  | .box os :: as, i, vals, h, hx => by
    simp only [entry, LRels] at h; obtain ⟨v, rest, rfl, h1, h2⟩ := h
    obtain ⟨g1, g2⟩ := boxAt_of as (i + 1) rest h2 (fun x h => hx x (by simp only [entry, List.cons_append]; exact List.mem_cons_of_mem _ (List.mem_append_right _ h)))
    have hl : look mem (900 + i) = some (0, .box (fromOs true [] (1000 + 64 * (900 + i)) os).1 false) := hx (900 + i, 0, .box (fromOs true [] (1000 + 64 * (900 + i)) os).1 false) (by simp [entry])
    simp only [LRel] at h1
    have hv := h1.2.now hl
    simp only [ptrK] at hv
    refine ⟨⟨by simp [hv], by simpa using g1⟩, fun s hs => ?_⟩
    simp only [boxSites] at hs
    rcases List.mem_cons.1 hs with rfl | hs
    · exact ⟨_, _, hl⟩
    · exact g2 s hs

theorem boxSites_lt : ∀ (args : List A) (i : Nat), ∀ s ∈ boxSites i args, 900 ≤ s ∧ s < 900 + i + args.length
  | [], i, s, h => by simp [boxSites] at h
  | .v p :: as, i, s, h => by have := boxSites_lt as (i + 1) s (by simpa [boxSites] using h); simp; omega
  | .own n es :: as, i, s, h => by have := boxSites_lt as (i + 1) s (by simpa [boxSites] using h); simp; omega
  | .box os :: as, i, s, h => by
    simp only [boxSites] at h
    rcases List.mem_cons.1 h with rfl | h
    · simp
    · have := boxSites_lt as (i + 1) s h; simp; omega

theorem ARels_len : ∀ {args : List A} {vals : List Value} {bs : List Nat}, ARels w M args vals bs → vals.length = args.length
  | [], _, _, h => by obtain ⟨rfl, rfl⟩ := h; rfl
  | _ :: _, _, _, h => by obtain ⟨v, rest, b1, b2, rfl, rfl, _, h2⟩ := h; simp [ARels_len h2]

def okArgs (args : List A) : Bool := nodup ((entry 0 args).2.map (·.1)) && decide (args.length ≤ 100)

/-- the state at the entry -/
theorem start_good {args : List A} {vals : List Value} {fn : IFn} (ha : ARels w (fun b => M b ∨ b ∈ D) args vals D) (hn : D.Nodup) (hD : ∀ b, b ∈ D → b < w.heap.size ∧ ¬ M b)
    (hM : ∀ b, M b → b < w.heap.size) (hok : okArgs args = true) :
    ∃ (ρ0 : Nat → Nat), SR M D (Base.mk w ((boxSites 0 args).map fun s => (s, ρ0 s))) ρ0 (start fn args) { tmps := vals.toArray ++ Array.replicate (fn.ntmps - vals.toArray.size) undef, defers := [] } w ∧
      BoxAt ρ0 0 args vals := by
  unfold okArgs at hok
  simp only [Bool.and_eq_true, nodup_iff, decide_eq_true_eq] at hok
  obtain ⟨hok1, hok2⟩ := hok
  obtain ⟨E, e1, e2, e3, e4⟩ := entry_took 0 ha hn (fun _ => 0)
  have hEs : E.map (·.1) = (entry 0 args).2.map (·.1) := by rw [← e1]; simp [Ent.out]
  have hnE : (E.map (·.1)).Nodup := by rw [hEs]; exact hok1
  have hlk := look_nodup _ hok1
  obtain ⟨ρ0, rE⟩ : ∃ ρ' : Nat → Nat, ∀ en, en ∈ E → ρ' en.1 = en.b := by
    refine ⟨fun s => match E.find? (fun x => x.1 == s) with | some en => en.b | none => 0, fun en he => ?_⟩
    simp only [find_ent E hnE en he]
  have lE : ∀ en, en ∈ E → look (entry 0 args).2 en.1 = some (en.2.1, en.2.2.1) := fun en he => hlk (Ent.out en) (by rw [← e1]; exact List.mem_map_of_mem he)
  have back : ∀ s ver blk, look (entry 0 args).2 s = some (ver, blk) → ∃ en ∈ E, en.1 = s ∧ en.2.1 = ver ∧ en.2.2.1 = blk := by
    intro s ver blk h
    have := look_mem h
    rw [← e1] at this
    obtain ⟨en, he, ho⟩ := List.mem_map.1 this
    unfold Ent.out at ho
    injection ho with h1 h2; injection h2 with h2 h3
    exact ⟨en, he, h1, h2, h3⟩
  have inD : ∀ en ∈ E, en.b ∈ D := fun en he => e2.subset (List.mem_map_of_mem he)
  have mf : ∀ b, mutOf M ρ0 (entry 0 args).2 b → M b ∨ ∃ en ∈ E, en.b = b := by
    rintro b (hb | ⟨s, ver, blk, h1, _, h3⟩)
    · exact .inl hb
    · obtain ⟨en, he, rfl, _, _⟩ := back s ver blk h1
      exact .inr ⟨en, he, (rE en he).symm.trans h3⟩
  obtain ⟨k1, k2⟩ := e4 (mutOf M ρ0 (entry 0 args).2) ρ0 (entry 0 args).2 (fun en he => ⟨lE en he, rE en he⟩) (.inr fun b hb => by
      rcases mf b hb with hb | ⟨en, he, rfl⟩
      · exact .inl hb
      · exact .inr (inD en he)) (fun b hbD hb => by
      rcases mf b hb with hb | ⟨en, he, rfl⟩
      · exact absurd hb (hD b hbD).2
      · exact List.mem_map_of_mem he)
  obtain ⟨b1, b2⟩ := boxAt_of args 0 vals k1 hlk
  have hlen := ARels_len ha
  refine ⟨ρ0, ⟨rfl, ?_, Keeps.refl _ _, fun b hb => ⟨hM b hb, fun hd => (hD b hd).2 hb⟩, fun b hb => (hD b hb).1, fun s ver blk h1 _ => ?_, fun s ver blk h1 _ => ?_, fun s ver blk s' ver' blk' h1 _ h2 _ he => ?_,
    fun s ver blk h1 => ?_, fun i l h1 => ?_, fun s b hm => ?_⟩, b1⟩
  · simp [start, entry_len, hlen]
  · obtain ⟨en, he, rfl, _, _⟩ := back s ver blk h1
    rw [rE en he]; exact .inr (inD en he)
  · obtain ⟨en, he, rfl, _, _⟩ := back s ver blk h1
    rw [rE en he]; exact (hD _ (inD en he)).1
  · obtain ⟨en, hen, rfl, _, _⟩ := back s ver blk h1
    obtain ⟨en', hen', rfl, _, _⟩ := back s' ver' blk' h2
    rw [rE en hen, rE en' hen'] at he
    rw [ent_inj E (e2.nodup hn) en hen en' hen' he]
  · obtain ⟨en, he, rfl, rfl, rfl⟩ := back s ver blk h1
    rw [rE en he]; exact k2 en he
  · simp only [start] at h1
    rcases Nat.lt_or_ge i args.length with hi | hi
    · rw [List.getElem?_append_left (by rw [entry_len]; exact hi)] at h1
      obtain ⟨v, hv, this⟩ := LRels_get k1 i l h1
      have e : (vals.toArray ++ Array.replicate (fn.ntmps - vals.toArray.size) undef).getD i undef = v := by
        rw [Array.getD_eq_getD_getElem?, Array.getElem?_append_left (by simp; omega)]; simp [hv]
      rw [e]; exact this
    · rw [List.getElem?_append_right (by rw [entry_len]; exact hi)] at h1
      have := List.mem_of_getElem? h1
      rw [List.eq_of_mem_replicate this]
      simp [LRel]
  · obtain ⟨s', hs', he⟩ := List.mem_map.1 hm
    injection he with he1 he2; subst he1; subst he2
    have hb := boxSites_lt args 0 s' hs'
    obtain ⟨ver, blk, hl⟩ := b2 s' hs'
    exact ⟨hb.1, by omega, ver, blk, hl, fun _ _ => rfl⟩

end Go.AW
namespace Go.AW

variable {M0 M M' Mx Mf : Nat → Prop} {D : List Nat} {w0 : Base} {w w' : World} {ρ ρ' : Nat → Nat} {a : Act} {Pg : Program} {mem mem' m m' : Mem} {σ σ' : AS}

theorem toR_rel (h : SR M0 D w0 ρ σ a w) {l : L} {v : Value} {o : R} {hs ss : List Nat} (hf : toR σ.mem l = some (o, hs, ss)) (hl : LRel w (mutOf M0 ρ σ.mem) ρ σ.mem l v)
    (hM : ∀ b, M' b → Less M0 ρ σ.mem ss b) : RRel w M' o v (hs.map ρ) ∧ ∀ x ∈ hs, MutAt σ.mem x := by
  unfold toR at hf
  split at hf
  · rename_i xs
    split at hf
    · rename_i os h1 s1 ho
      simp only [Option.some.injEq, Prod.mk.injEq] at hf; obtain ⟨rfl, rfl, rfl⟩ := hf
      simp only [LRel] at hl; obtain ⟨vs, rfl, hl⟩ := hl
      obtain ⟨g1, g2⟩ := toOs_rel h ho hl hM
      simp only [RRel]
      exact ⟨⟨vs, rfl, g1⟩, fun x hx => (g2 x hx).1⟩
    · cases hf
  · rename_i s ver
    split at hf
    · rename_i cs hb
      split at hf
      · rename_i os h1 ss' ho
        simp only [Option.some.injEq, Prod.mk.injEq] at hf; obtain ⟨rfl, rfl, rfl⟩ := hf
        have hk := boxAt_look hb
        simp only [LRel] at hl
        have hv := hl.2.now hk
        simp only [ptrK] at hv
        obtain ⟨c, t, hc, hr⟩ := h.blk s ver _ hk
        obtain ⟨g1, g2⟩ := toOs_rel h ho hr hM
        simp only [RRel]
        refine ⟨⟨ρ s, c, t, _, hv, hc, g1, rfl⟩, fun x hx => ?_⟩
        rcases List.mem_cons.1 hx with rfl | hx
        · exact ⟨ver, _, hk, rfl⟩
        · exact (g2 x hx).1
      · cases hf
    · cases hf
  · split at hf
    · rename_i o' h1 s1 ho
      simp only [Option.some.injEq, Prod.mk.injEq] at hf; obtain ⟨rfl, rfl, rfl⟩ := hf
      obtain ⟨g1, g2⟩ := toO_rel h ho hl hM
      simp only [RRel]
      exact ⟨g1, fun x hx => (g2 x hx).1⟩
    · cases hf

def chkRes (Pg : Program) : RV → ResultVar → Bool
  | .t i, .tmp t => decide (i = t)
  | .cell ag n i, .cell x t => decide (i = x) && decide (szOf Pg t = some n) && decide (agOf Pg t = some ag)
  | _, _ => false
def chkRess (Pg : Program) : List RV → List ResultVar → Bool
  | [], [] => true
  | r :: rs, x :: xs => chkRes Pg r x && chkRess Pg rs xs
  | _, _ => false

def resRun (tmps : Array Value) : ResultVar → Sem Value
  | .tmp t => pure (tmps.getD t undef)
  | .cell a t => do loadVar t (← asAddr (tmps.getD a undef))

theorem env_at (h : SR M0 D w0 ρ σ a w) (i : Nat) : LRel w (mutOf M0 ρ σ.mem) ρ σ.mem (σ.env.getD i .undef) (a.tmps.getD i undef) := by
  cases hi : σ.env[i]? with
  | none => simp [List.getD, hi, LRel]
  | some l => simp only [List.getD, hi, Option.getD_some]; exact h.env i l hi

theorem resOf_rel (h : SR M0 D w0 ρ σ a w) {r : RV} {x : ResultVar} {l : L} (hc : chkRes Pg r x = true) (hr : resOf σ r = some l) :
    ∃ v, (resRun a.tmps x).run Pg w = .ok v w ∧ LRel w (mutOf M0 ρ σ.mem) ρ σ.mem l v := by
  cases r with
  | t i =>
    cases x with
    | cell => simp [chkRes] at hc
    | tmp t =>
      simp only [chkRes, decide_eq_true_eq] at hc; subst hc
      simp only [resOf, Option.some.injEq] at hr; subst hr
      exact ⟨_, rfl, env_at h i⟩
  | cell ag n i =>
    cases x with
    | tmp => simp [chkRes] at hc
    | cell x t =>
      simp only [chkRes, decide_eq_true_eq, Bool.and_eq_true] at hc; obtain ⟨⟨rfl, hs⟩, ha⟩ := hc
      have he := env_at h i
      simp only [resOf] at hr
      split at hr
      · rename_i s ver off hev
        rw [hev] at he
        simp only [LRel] at he
        split at hr
        · rename_i cs fz hb
          have hk := boxAt_look hb
          have hv := he.2.now hk
          simp only [ptrK] at hv
          obtain ⟨c, tt, hcell, hrr⟩ := h.blk s ver _ hk
          obtain ⟨h1, h2⟩ := mkv_rel (LRels_take n (LRels_drop off hrr)) hr
          have hrd := reads_row hcell off n
          rcases h2 with ⟨h2, h3⟩ | ⟨h2, v, h3, h4⟩
          · exact ⟨_, by simp [resRun, hv, asAddr, run_loadVar hs ha hrd h1 (.inl ⟨h2, rfl⟩)], h3⟩
          · exact ⟨_, by simp [resRun, hv, asAddr, run_loadVar hs ha hrd h1 (.inr ⟨h2, h3⟩)], h4⟩
        · cases hr
      · cases hr

theorem resRs_rel (h : SR M0 D w0 ρ σ a w) : ∀ {rs : List RV} {xs : List ResultVar} {os : List R} {hs ss : List Nat}, chkRess Pg rs xs = true → resRs σ rs = some (os, hs, ss) → (∀ b, M' b → Less M0 ρ σ.mem ss b) →
    ∃ vs, (xs.mapM (resRun a.tmps)).run Pg w = .ok vs w ∧ RRels w M' os vs (hs.map ρ) ∧ ∀ x ∈ hs, MutAt σ.mem x
  | [], [], os, hs, ss, _, hr, _ => by
    simp only [resRs, Option.some.injEq, Prod.mk.injEq] at hr; obtain ⟨rfl, rfl, rfl⟩ := hr
    exact ⟨[], by simp, by simp [RRels], by simp⟩
  | [], _ :: _, _, _, _, hc, _, _ => by simp [chkRess] at hc
  | _ :: _, [], _, _, _, hc, _, _ => by simp [chkRess] at hc
  | r :: rs, x :: xs, os, hs, ss, hc, hr, hM => by
    simp only [chkRess, Bool.and_eq_true] at hc
    simp only [resRs] at hr
    split at hr
    · rename_i l os1 hs1 ss1 e1 e2
      split at hr
      · rename_i o h1 s1 e3
        simp only [Option.some.injEq, Prod.mk.injEq] at hr; obtain ⟨rfl, rfl, rfl⟩ := hr
        obtain ⟨v, r1, r2⟩ := resOf_rel h hc.1 e1
        obtain ⟨g1, g2⟩ := toR_rel h e3 r2 fun b hb => (Less.app (hM b hb)).1
        obtain ⟨vs, r3, g3, g4⟩ := resRs_rel h hc.2 e2 fun b hb => (Less.app (hM b hb)).2
        refine ⟨v :: vs, by simp [List.mapM_cons, r1, r3], ?_, fun x hx => ?_⟩
        · simp only [RRels]; exact ⟨v, vs, h1.map ρ, hs1.map ρ, rfl, by simp, g1, g3⟩
        · rcases List.mem_append.1 hx with hx | hx
          · exact g2 x hx
          · exact g4 x hx
      · cases hr
    · cases hr

theorem outs_rel (h : SR M0 D w0 ρ σ a w) {ρ0 : Nat → Nat} : ∀ {args : List A} {vals : List Value} {os : List (List O)} {hs ss : List Nat} (i : Nat), outsOf σ.mem i args = some (os, hs, ss) →
    BoxAt ρ0 i args vals → vals.length = args.length → (∀ s ∈ boxSites i args, (s, ρ0 s) ∈ w0.pins) → (∀ b, M' b → Less M0 ρ σ.mem ss b) → OutRel w M' args vals os (hs.map ρ) ∧ ∀ x ∈ hs, MutAt σ.mem x
  | [], vals, os, hs, ss, i, hr, _, _, _, _ => by
    simp only [outsOf, Option.some.injEq, Prod.mk.injEq] at hr; obtain ⟨rfl, rfl, rfl⟩ := hr
    simp [OutRel]
  | .v p :: as, vals, os, hs, ss, i, hr, hb, hl, hp, hM => by
    simp only [outsOf] at hr
    simp only [BoxAt] at hb
    obtain ⟨g1, g2⟩ := outs_rel h (i + 1) hr hb (by simp [hl]) (by simpa [boxSites] using hp) hM
    exact ⟨by simp only [OutRel]; exact g1, g2⟩
  | .own n es :: as, vals, os, hs, ss, i, hr, hb, hl, hp, hM => by
    simp only [outsOf] at hr
    simp only [BoxAt] at hb
    obtain ⟨g1, g2⟩ := outs_rel h (i + 1) hr hb (by simp [hl]) (by simpa [boxSites] using hp) hM
    exact ⟨by simp only [OutRel]; exact g1, g2⟩
  | .box cs0 :: as, vals, os, hs, ss, i, hr, hb, hl, hp, hM => by
    simp only [outsOf] at hr
    simp only [BoxAt] at hb
    split at hr
    · rename_i cs os1 hs1 ss1 e1 e2
      split at hr
      · rename_i o h1 s1 e3
        simp only [Option.some.injEq, Prod.mk.injEq] at hr; obtain ⟨rfl, rfl, rfl⟩ := hr
        cases vals with
        | nil => simp at hl
        | cons v rest =>
          simp only [List.head?_cons, Option.some.injEq, List.tail_cons] at hb
          obtain ⟨rfl, hb⟩ := hb
          obtain ⟨_, _, ver, blk, p3, p4⟩ := h.pin (900 + i) (ρ0 (900 + i)) (hp _ (by simp [boxSites]))
          rw [e1] at p3; injection p3 with p3; injection p3 with p5 p6; subst p5; subst p6
          have p7 := p4 rfl rfl
          obtain ⟨c, t, hc, hrr⟩ := h.blk _ _ _ e1
          obtain ⟨g1, g2⟩ := toOs_rel h e3 hrr fun b hb => (Less.app (hM b hb)).1
          obtain ⟨g3, g4⟩ := outs_rel h (i + 1) e2 hb (by simpa using hl) (fun s hs => hp s (by simp [boxSites, hs])) fun b hb => (Less.app (hM b hb)).2
          refine ⟨?_, fun x hx => ?_⟩
          · simp only [OutRel]
            refine ⟨_, rest, o, os1, (ρ (900 + i)) :: h1.map ρ, hs1.map ρ, rfl, rfl, by simp, ⟨ρ (900 + i), c, t, _, by rw [p7], hc, g1, rfl⟩, g3⟩
          · rcases List.mem_cons.1 hx with rfl | hx
            · exact ⟨_, _, e1, rfl⟩
            · rcases List.mem_append.1 hx with hx | hx
              · exact (g2 x hx).1
              · exact g4 x hx
      · cases hr
    · cases hr

def chkF (Pg : Program) (fn : Func) (ifn : IFn) : Bool :=
  (fn.name != "runtime.NumGoroutine") && decide (fn.ntmps = ifn.ntmps) && chkRess Pg ifn.res fn.results.toList && (match fn.body with | some c => chkC Pg c ifn.body | none => false)

/-- A FUNCTION'S CONTRACT, from what its text comes to -/
theorem ret_of (hmix : Pg.follows .mixedOrders = true) {f : FuncId} {fn : Func} (hf : Pg.funcs[f]? = some fn) {ifn : IFn} (hc : chkF Pg fn ifn = true) {args : List A} {res : R} {outs : List (List O)}
    (hok : okArgs args = true) (h : Comes Pg ifn args res outs) : Ret Pg f args res outs := by
  unfold chkF at hc
  simp only [Bool.and_eq_true, decide_eq_true_eq, bne_iff_ne, ne_eq] at hc
  obtain ⟨⟨⟨hc1, hc2⟩, hc3⟩, hc4⟩ := hc
  split at hc4
  case h_2 => cases hc4
  rename_i c hb
  refine ⟨⟨fn, hf, by simpa using hc1, by simp [hb]⟩, ?_⟩
  intro w M vals D ha hn hD hM
  obtain ⟨ρ0, hsr, hbox⟩ := start_good (fn := ifn) ha hn hD hM hok
  have hlen := ARels_len ha
  refine calls_of_wp hf hb ?_
  rw [hc2]
  refine code_wp hmix c ifn.body hc4 hsr h ?_
  intro ie σ' a' w' ρ' hk hsr'
  have fin : finish ifn args σ' res outs → a'.defers = [] ∧ ∃ v, (results fn a'.tmps).run Pg w' = .ok v w' ∧ ∃ v_1 D1 D2, Ending.returned v = Ending.returned v_1 ∧ Keeps D w w' ∧
      OutRel w' (fun b => M b ∨ b ∈ D1 ++ D2) args vals outs D1 ∧ RRel w' (fun b => M b ∨ b ∈ D1 ++ D2) res v_1 D2 ∧ (D1 ++ D2).Nodup ∧
      ∀ b, b ∈ D1 ++ D2 → b < w'.heap.size ∧ (w.heap.size ≤ b ∨ b ∈ D) := by
    rintro ⟨rs, hs, ss, os, hs', ss', k1, k2, k3, k4, rfl⟩
    simp only [Bool.and_eq_true, nodup_iff, Bool.not_eq_true'] at k3
    obtain ⟨k3, k5⟩ := k3
    have hdis : ∀ x, x ∈ hs' ++ hs → x ∉ ss' ++ ss := by
      intro x hx hxs
      have : (hs' ++ hs).any ((ss' ++ ss).contains ·) = true := List.any_eq_true.2 ⟨x, hx, by simpa using hxs⟩
      rw [this] at k5; cases k5
    have hmut : ∀ x ∈ hs' ++ hs, MutAt σ'.mem x := by
      intro x hx
      rcases List.mem_append.1 hx with hx | hx
      · exact (outs_rel (M' := Less M ρ' σ'.mem ss') hsr' 0 k2 hbox hlen (fun s hs => List.mem_map_of_mem hs) fun b hb => hb).2 x hx
      · exact (resRs_rel (M' := Less M ρ' σ'.mem ss) hsr' hc3 k1 fun b hb => hb).choose_spec.2.2 x hx
    have hM' : ∀ b, (M b ∨ b ∈ hs'.map ρ' ++ hs.map ρ') → Less M ρ' σ'.mem (ss' ++ ss) b := by
      intro b hb
      rcases hb with hb | hb
      · exact ⟨.inl hb, fun s _ ver blk hl hv => live_ne hsr' hb hl hv⟩
      · rw [← List.map_append] at hb
        obtain ⟨x, hx, rfl⟩ := List.mem_map.1 hb
        obtain ⟨ver, blk, hlk, hmt⟩ := hmut x hx
        refine ⟨.inr ⟨x, ver, blk, hlk, hmt, rfl⟩, fun s hs' ver' blk' hl' hlv' he => ?_⟩
        have := hsr'.inj _ _ _ _ _ _ hlk (mut_live hmt) hl' hlv' he.symm
        exact hdis x hx (this ▸ hs')
    obtain ⟨g1, _⟩ := outs_rel (M' := fun b => M b ∨ b ∈ hs'.map ρ' ++ hs.map ρ') hsr' 0 k2 hbox hlen (fun s hs => List.mem_map_of_mem hs) fun b hb => (hM' b hb).app.1
    obtain ⟨vs, g2, g3, _⟩ := resRs_rel (M' := fun b => M b ∨ b ∈ hs'.map ρ' ++ hs.map ρ') hsr' hc3 k1 fun b hb => (hM' b hb).app.2
    have hnd : (hs'.map ρ' ++ hs.map ρ').Nodup := by
      rw [← List.map_append]
      have : ∀ l : List Nat, l.Nodup → (∀ x ∈ l, MutAt σ'.mem x) → (l.map ρ').Nodup := by
        intro l
        induction l with
        | nil => simp
        | cons x l ih =>
          intro hn hm
          simp only [List.nodup_cons] at hn
          simp only [List.map_cons, List.nodup_cons]
          refine ⟨fun hx => ?_, ih hn.2 fun y hy => hm y (List.mem_cons_of_mem _ hy)⟩
          obtain ⟨y, hy, he⟩ := List.mem_map.1 hx
          obtain ⟨v1, b1, l1, m1⟩ := hm x List.mem_cons_self
          obtain ⟨v2, b2, l2, m2⟩ := hm y (List.mem_cons_of_mem _ hy)
          have := hsr'.inj _ _ _ _ _ _ l2 (mut_live m2) l1 (mut_live m1) he
          exact hn.1 (this ▸ hy)
      exact this _ k3 hmut
    have hbd : ∀ b, b ∈ hs'.map ρ' ++ hs.map ρ' → b < w'.heap.size ∧ (w.heap.size ≤ b ∨ b ∈ D) := by
      intro b hb
      rw [← List.map_append] at hb
      obtain ⟨x, hx, rfl⟩ := List.mem_map.1 hb
      obtain ⟨ver, blk, hlk, hmt⟩ := hmut x hx
      exact ⟨hsr'.hi x ver blk hlk (mut_live hmt), hsr'.lo x ver blk hlk (mut_live hmt)⟩
    have hrun : (fn.results.mapM (resRun a'.tmps)).run Pg w' = .ok vs.toArray w' := by
      rw [Array.mapM_eq_mapM_toList]
      simp [g2]
    have hres : (results fn a'.tmps).run Pg w' = .ok (if h : vs.toArray.size = 1 then vs.toArray[0] else .tuple vs.toArray) w' := by
      have : results fn a'.tmps = (do let vs ← fn.results.mapM (resRun a'.tmps); pure (if h : vs.size = 1 then vs[0] else .tuple vs)) := rfl
      rw [this]; simp [hrun]
    refine ⟨hsr'.defers, _, hres, _, hs'.map ρ', hs.map ρ', rfl, hsr'.keeps, g1, ?_, hnd, hbd⟩
    split at k4
    · rename_i r
      subst k4
      simp only [RRels] at g3
      obtain ⟨v, rest, b1, b2, rfl, hb12, g4, rfl, rfl⟩ := g3
      simp only [List.append_nil] at hb12
      simpa [hb12] using g4
    · rename_i hne
      subst k4
      have hl : vs.toArray.size ≠ 1 := by
        intro he
        cases rs with
        | nil => simp only [RRels] at g3; simp [g3.1] at he
        | cons r rs =>
          simp only [RRels] at g3
          obtain ⟨v, rest, b1, b2, rfl, _, _, g5⟩ := g3
          cases rs with
          | nil => exact hne r rfl
          | cons r' rs => simp only [RRels] at g5; obtain ⟨v', rest', _, _, rfl, _⟩ := g5; simp at he
      rw [dif_neg hl]
      simp only [RRel]
      exact ⟨vs.toArray, rfl, g3⟩
  cases ie with
  | norm => exact fin hk
  | ret => exact fin hk
  | exit id => exact hk.elim

end Go.AW
namespace Go.AW

def lk : List (Nat × L) → Nat → L
  | [], _ => .undef
  | (i, l) :: e, j => if i = j then l else lk e j
def envOf (n : Nat) (E : List (Nat × L)) : List L := (List.range n).map (lk E)
def st (n : Nat) (E : List (Nat × L)) (m : Mem) : AS := ⟨envOf n E, m⟩
def evE (n : Nat) (E : List (Nat × L)) : X → L
  | .t i => if i < n then lk E i else .undef
  | .c p => .p p
  | .f f => .clo f []

theorem getD_envOf (n : Nat) (E : List (Nat × L)) (i : Nat) : (envOf n E).getD i .undef = if i < n then lk E i else .undef := by
  unfold envOf
  simp only [List.getD, List.getElem?_map]
  by_cases h : i < n
  · simp [h]
  · simp [h]
theorem ev_envOf (n : Nat) (E : List (Nat × L)) (x : X) : ev (envOf n E) x = evE n E x := by
  cases x with
  | t i => exact getD_envOf n E i
  | c p => rfl
  | f f => rfl
theorem ev_fun (n : Nat) (E : List (Nat × L)) : ev (envOf n E) = evE n E := funext (ev_envOf n E)
theorem set_envOf (n : Nat) (E : List (Nat × L)) (d : Nat) (v : L) : (envOf n E).set d v = envOf n ((d, v) :: E) := by
  apply List.ext_getElem
  · simp [envOf]
  · intro i h1 h2
    simp only [envOf, List.length_map, List.length_range] at h2
    rw [List.getElem_set]
    simp only [envOf, List.getElem_map, List.getElem_range, lk]
theorem setEnv_envOf (n : Nat) (E : List (Nat × L)) (d : Option Nat) (v : L) : setEnv (envOf n E) d v = envOf n (match d with | some d => (d, v) :: E | none => E) := by
  cases d with
  | none => rfl
  | some d => exact set_envOf n E d v
theorem after_st (n : Nat) (E : List (Nat × L)) (m : Mem) (d : Option Nat) (e : Eff) : (st n E m).after d e = st n (match d with | some d => (d, e.val) :: E | none => E) (putAll m e.wr) := by
  simp only [AS.after, st, setEnv_envOf]

def pairs : Nat → List L → List (Nat × L)
  | _, [] => []
  | i, l :: ls => (i, l) :: pairs (i + 1) ls
theorem lk_pairs : ∀ (ls : List L) (i j : Nat), lk (pairs i ls) (i + j) = ls.getD j .undef
  | [], i, j => by simp [pairs, lk]
  | l :: ls, i, 0 => by simp [pairs, lk]
  | l :: ls, i, j + 1 => by
    have := lk_pairs ls (i + 1) j
    simp only [pairs, lk]
    rw [if_neg (by omega), show i + (j + 1) = i + 1 + j by omega, this]
    simp
theorem pad_envOf (ls : List L) (n : Nat) (h : ls.length ≤ n) : ls ++ List.replicate (n - ls.length) .undef = envOf n (pairs 0 ls) := by
  apply List.ext_getElem
  · simp [envOf]; omega
  · intro i h1 h2
    simp only [envOf, List.getElem_map, List.getElem_range]
    have := lk_pairs ls 0 i
    rw [Nat.zero_add] at this
    rw [this]
    rw [List.getElem_append]
    split
    · rename_i h3; simp [List.getD, h3]
    · rename_i h3; simp [List.getD, List.getElem?_eq_none (Nat.le_of_not_lt h3)]

inductive Fr where
  | code (c : IC)
  | ops (os : List IOp)
  | drw (os : List IOp) (un : List (Nat × Nat)) (es : List Eff)
  | blk (id : Nat)
  | inv (G : AS → Prop)
  | br (l : L) (a b : IC)
  | eff (oe : Option Eff) (d : Option Nat)
  | grd (r : Option Bool) (o : IOp)
  | cal (c : Option (FuncId × List L)) (d : Option Nat) (keep own : Bool)
  | lpc (o : Option AS) (live sites : List Nat) (c : IC)
  | lp (live sites : List Nat) (c : IC)
  | ca2 (fn : FuncId) (as : Option (List A × List Nat × List Nat)) (ls : List L) (d : Option Nat) (keep : Bool)

section
variable (Pg : Program) (post : IE → AS → Prop)

def den : List Fr → IE → AS → Prop
  | [], e, s => post e s
  | .code c :: k, e, s => match e with
    | .norm => awp Pg c (den k) s
    | e => den k e s
  | .ops os :: k, e, s => match e with
    | .norm => run Pg os s (den k .norm)
    | e => den k e s
  | .drw os un es :: k, e, s => match e with
    | .norm => runD Pg os es s (fun es s => indep un es = true ∧ den k .norm s)
    | e => den k e s
  | .blk id :: k, e, s => if e = .exit id then den k .norm s else den k e s
  | .inv G :: k, e, s => match e with
    | .norm => G s
    | e => den k e s
  | .br l a b :: k, e, s => match e with
    | .norm => ∃ t, l = .p (.bool t) ∧ (if t = true then awp Pg a (den k) s else awp Pg b (den k) s)
    | e => den k e s
  | .eff oe d :: k, e, s => match e with
    | .norm => ∃ f, oe = some f ∧ (match k with
      | .drw os un es :: k' => runD Pg os (es ++ [f]) (s.after d f) (fun es s => indep un es = true ∧ den k' .norm s)
      | k => den k .norm (s.after d f))
    | e => den k e s
  | .grd r o :: k, e, s => match e with
    | .norm => ∃ b, r = some b ∧ (if b = true then step Pg s o (fun f s' => match k with
      | .drw os un es :: k' => runD Pg os (es ++ [f]) s' (fun es s => indep un es = true ∧ den k' .norm s)
      | k => den k .norm s') else (match k with
      | .drw os un es :: k' => runD Pg os (es ++ [skipped]) (s.after o.dst skipped) (fun es s => indep un es = true ∧ den k' .norm s)
      | k => den k .norm (s.after o.dst skipped)))
    | e => den k e s
  | .cal c d keep own :: k, e, s => match e with
    | .norm => ∃ fn ls as hs ss res outs f, c = some (fn, ls) ∧ toAs own s.mem ls = some (as, hs, ss) ∧ Ret Pg fn as res outs ∧ callEff s.mem (d.getD 0) keep ls as hs ss res outs = some f ∧ (match k with
      | .drw os un es :: k' => runD Pg os (es ++ [f]) (s.after d f) (fun es s => indep un es = true ∧ den k' .norm s)
      | k => den k .norm (s.after d f))
    | e => den k e s
  | .lpc o live sites c :: k, e, s => match e with
    | .norm => ∃ s', o = some s' ∧ ∃ n, awp Pg c (fun e t => match e with | .norm => iter (awp Pg c) live sites (den k) n t | e => den k e t) s'
    | e => den k e s
  | .lp live sites c :: k, e, s => match e with
    | .norm => ∃ n, awp Pg c (fun e t => match e with | .norm => iter (awp Pg c) live sites (den k) n t | e => den k e t) s
    | e => den k e s
  | .ca2 fn oas ls d keep :: k, e, s => match e with
    | .norm => ∃ as hs ss res outs f, oas = some (as, hs, ss) ∧ Ret Pg fn as res outs ∧ callEff s.mem (d.getD 0) keep ls as hs ss res outs = some f ∧ (match k with
      | .drw os un es :: k' => runD Pg os (es ++ [f]) (s.after d f) (fun es s => indep un es = true ∧ den k' .norm s)
      | k => den k .norm (s.after d f))
    | e => den k e s

end

theorem step_mono {Pg : Program} {s : AS} {o : IOp} {K K' : Eff → AS → Prop} (hk : ∀ e s, K e s → K' e s) (h : step Pg s o K) : step Pg s o K' := by
  unfold step at h ⊢
  split at h
  · obtain ⟨fn, ls, as, hs, ss, res, outs, e, h1, h2, h3, h4, h5⟩ := h
    exact ⟨fn, ls, as, hs, ss, res, outs, e, h1, h2, h3, h4, hk _ _ h5⟩
  · obtain ⟨e, h1, h2⟩ := h
    exact ⟨e, h1, hk _ _ h2⟩
theorem stepG_mono {Pg : Program} {s : AS} {o : IOp} {K K' : Eff → AS → Prop} (hk : ∀ e s, K e s → K' e s) (h : stepG Pg s o K) : stepG Pg s o K' := by
  unfold stepG at h ⊢
  split at h
  · exact step_mono hk h
  · obtain ⟨b, h1, h2⟩ := h
    refine ⟨b, h1, ?_⟩
    by_cases hb : b = true
    · rw [if_pos hb] at h2 ⊢; exact step_mono hk h2
    · rw [if_neg hb] at h2 ⊢; exact hk _ _ h2
theorem run_mono {Pg : Program} : ∀ (os : List IOp) (s : AS) {K K' : AS → Prop}, (∀ s, K s → K' s) → run Pg os s K → run Pg os s K'
  | [], s, K, K', hk, h => hk _ h
  | o :: os, s, K, K', hk, h => stepG_mono (fun e s h => run_mono os s hk h) h
theorem runD_mono {Pg : Program} : ∀ (os : List IOp) (es : List Eff) (s : AS) {K K' : List Eff → AS → Prop}, (∀ e s, K e s → K' e s) → runD Pg os es s K → runD Pg os es s K'
  | [], es, s, K, K', hk, h => hk _ _ h
  | o :: os, es, s, K, K', hk, h => stepG_mono (fun e s h => runD_mono os _ s hk h) h
theorem iter_mono {body : (IE → AS → Prop) → AS → Prop} (hb : ∀ (Q Q' : IE → AS → Prop), (∀ e s, Q e s → Q' e s) → ∀ s, body Q s → body Q' s) {live sites : List Nat} {Q Q' : IE → AS → Prop} (hq : ∀ e s, Q e s → Q' e s) :
    ∀ (n : Nat) (s : AS), iter body live sites Q n s → iter body live sites Q' n s
  | 0, _, h => h
  | n + 1, s, h => by
    obtain ⟨s', h1, h2⟩ := h
    refine ⟨s', h1, hb _ _ ?_ _ h2⟩
    intro e s h
    cases e with
    | norm => exact iter_mono hb hq n s h
    | exit id => exact hq _ _ h
    | ret => exact hq _ _ h
theorem awp_mono {Pg : Program} : ∀ (c : IC) (Q Q' : IE → AS → Prop), (∀ e s, Q e s → Q' e s) → ∀ s, awp Pg c Q s → awp Pg c Q' s
  | .skip, Q, Q', hq, s, h => hq _ _ h
  | .reg ops, Q, Q', hq, s, h => run_mono ops s (hq _) h
  | .draw ops un, Q, Q', hq, s, h => runD_mono ops [] s (fun e s h => ⟨h.1, hq _ _ h.2⟩) h
  | .seq a b, Q, Q', hq, s, h => awp_mono a _ _ (fun e s h => by
      cases e with
      | norm => exact awp_mono b Q Q' hq s h
      | exit id => exact hq _ _ h
      | ret => exact hq _ _ h) s h
  | .ite x a b, Q, Q', hq, s, h => by
    obtain ⟨t, h1, h2⟩ := h
    refine ⟨t, h1, ?_⟩
    cases t
    · exact awp_mono b Q Q' hq s h2
    · exact awp_mono a Q Q' hq s h2
  | .blk id c, Q, Q', hq, s, h => awp_mono c _ _ (fun e s h => by
      by_cases he : e = .exit id
      · rw [if_pos he] at h ⊢; exact hq _ _ h
      · rw [if_neg he] at h ⊢; exact hq _ _ h) s h
  | .loop l st c, Q, Q', hq, s, h => by
    obtain ⟨n, h⟩ := h
    exact ⟨n, iter_mono (fun Q Q' hq s h => awp_mono c Q Q' hq s h) hq n s h⟩
  | .exit id, Q, Q', hq, s, h => hq _ _ h
  | .ret, Q, Q', hq, s, h => hq _ _ h

section
variable {Pg : Program}
theorem stepG_split20 {s : AS} {o : IOp} {K : Eff → AS → Prop} (h : stepG Pg s o K) : ∃ e s', K e s' ∧ stepG Pg s o fun e' t => e' = e ∧ t = s' := by
  have st : ∀ K, step Pg s o K → ∃ e s', K e s' ∧ step Pg s o fun e' t => e' = e ∧ t = s' := by
    intro K h
    unfold step at h ⊢
    split at h
    · obtain ⟨fn, ls, as, hs, ss, res, outs, e, h1, h2, h3, h4, h5⟩ := h
      exact ⟨e, _, h5, fn, ls, as, hs, ss, res, outs, e, h1, h2, h3, h4, rfl, rfl⟩
    · obtain ⟨e, h1, h2⟩ := h
      exact ⟨e, _, h2, e, h1, rfl, rfl⟩
  unfold stepG at h ⊢
  split at h
  · exact st K h
  · obtain ⟨b, h1, h2⟩ := h
    by_cases hb : b = true
    · rw [if_pos hb] at h2
      obtain ⟨e, s', h3, h4⟩ := st K h2
      exact ⟨e, s', h3, b, h1, by rw [if_pos hb]; exact h4⟩
    · rw [if_neg hb] at h2
      exact ⟨_, _, h2, b, h1, by rw [if_neg hb]; exact ⟨rfl, rfl⟩⟩

theorem run_split0 : ∀ (os : List IOp) (s : AS) (K : AS → Prop), run Pg os s K → ∃ s', K s' ∧ run Pg os s (· = s')
  | [], s, K, h => ⟨s, h, rfl⟩
  | o :: os, s, K, h => by
    obtain ⟨e, s1, h1, h2⟩ := stepG_split20 h
    obtain ⟨s', h3, h4⟩ := run_split0 os s1 K h1
    exact ⟨s', h3, stepG_mono (fun e' t ht => by obtain ⟨_, rfl⟩ := ht; exact h4) h2⟩
theorem runD_split0 : ∀ (os : List IOp) (es : List Eff) (s : AS) (K : List Eff → AS → Prop), runD Pg os es s K → ∃ es' s', K es' s' ∧ runD Pg os es s fun f t => f = es' ∧ t = s'
  | [], es, s, K, h => ⟨es, s, h, rfl, rfl⟩
  | o :: os, es, s, K, h => by
    obtain ⟨e, s1, h1, h2⟩ := stepG_split20 h
    obtain ⟨es', s', h3, h4⟩ := runD_split0 os (es ++ [e]) s1 K h1
    exact ⟨es', s', h3, stepG_mono (fun e' t ht => by obtain ⟨rfl, rfl⟩ := ht; exact h4) h2⟩
theorem iter_split0 {body : (IE → AS → Prop) → AS → Prop} (hm : ∀ (Q Q' : IE → AS → Prop), (∀ e s, Q e s → Q' e s) → ∀ s, body Q s → body Q' s)
    (hb : ∀ (Q : IE → AS → Prop) s, body Q s → ∃ e s', Q e s' ∧ body (fun e' t => e' = e ∧ t = s') s) {live sites : List Nat} {Q : IE → AS → Prop} :
    ∀ (n : Nat) (s : AS), iter body live sites Q n s → ∃ e s', Q e s' ∧ e ≠ .norm ∧ iter body live sites (fun e' t => e' = e ∧ t = s') n s
  | 0, _, h => h.elim
  | n + 1, s, h => by
    obtain ⟨s1, h1, h2⟩ := h
    obtain ⟨e, s2, h3, h4⟩ := hb _ _ h2
    cases e with
    | norm =>
      obtain ⟨e', s', h5, hne, h6⟩ := iter_split0 hm hb n s2 h3
      exact ⟨e', s', h5, hne, s1, h1, hm _ _ (fun e t ht => by obtain ⟨rfl, rfl⟩ := ht; exact h6) _ h4⟩
    | exit id => exact ⟨.exit id, s2, h3, by simp, s1, h1, hm _ _ (fun e t ht => by obtain ⟨rfl, rfl⟩ := ht; exact ⟨rfl, rfl⟩) _ h4⟩
    | ret => exact ⟨.ret, s2, h3, by simp, s1, h1, hm _ _ (fun e t ht => by obtain ⟨rfl, rfl⟩ := ht; exact ⟨rfl, rfl⟩) _ h4⟩

theorem awp_split0 : ∀ (c : IC) (Q : IE → AS → Prop) (s : AS), awp Pg c Q s → ∃ e s', Q e s' ∧ awp Pg c (fun e' t => e' = e ∧ t = s') s
  | .skip, Q, s, h => ⟨_, _, h, rfl, rfl⟩
  | .reg ops, Q, s, h => by
    obtain ⟨s', h1, h2⟩ := run_split0 ops s _ h
    exact ⟨_, s', h1, run_mono ops s (fun t ht => ⟨rfl, ht⟩) h2⟩
  | .draw ops un, Q, s, h => by
    obtain ⟨es', s', h1, h2⟩ := runD_split0 ops [] s _ h
    exact ⟨_, s', h1.2, runD_mono ops [] s (fun f t ht => by obtain ⟨rfl, rfl⟩ := ht; exact ⟨h1.1, rfl, rfl⟩) h2⟩
  | .seq a b, Q, s, h => by
    obtain ⟨e, s1, h1, h2⟩ := awp_split0 a _ s h
    cases e with
    | norm =>
      obtain ⟨e', s', h3, h4⟩ := awp_split0 b _ s1 h1
      exact ⟨e', s', h3, awp_mono a _ _ (fun e t ht => by obtain ⟨rfl, rfl⟩ := ht; exact h4) s h2⟩
    | exit id => exact ⟨.exit id, s1, h1, awp_mono a _ _ (fun e t ht => by obtain ⟨rfl, rfl⟩ := ht; exact ⟨rfl, rfl⟩) s h2⟩
    | ret => exact ⟨.ret, s1, h1, awp_mono a _ _ (fun e t ht => by obtain ⟨rfl, rfl⟩ := ht; exact ⟨rfl, rfl⟩) s h2⟩
  | .ite x a b, Q, s, h => by
    obtain ⟨t, h1, h2⟩ := h
    cases t with
    | true => obtain ⟨e, s', h3, h4⟩ := awp_split0 a _ s h2; exact ⟨e, s', h3, true, h1, h4⟩
    | false => obtain ⟨e, s', h3, h4⟩ := awp_split0 b _ s h2; exact ⟨e, s', h3, false, h1, h4⟩
  | .blk id c, Q, s, h => by
    obtain ⟨e, s1, h1, h2⟩ := awp_split0 c _ s h
    by_cases he : e = .exit id
    · rw [if_pos he] at h1
      exact ⟨.norm, s1, h1, awp_mono c _ _ (fun e' t ht => by obtain ⟨rfl, rfl⟩ := ht; rw [if_pos he]; exact ⟨rfl, rfl⟩) s h2⟩
    · rw [if_neg he] at h1
      exact ⟨e, s1, h1, awp_mono c _ _ (fun e' t ht => by obtain ⟨rfl, rfl⟩ := ht; rw [if_neg he]; exact ⟨rfl, rfl⟩) s h2⟩
  | .loop l st c, Q, s, h => by
    obtain ⟨n, h⟩ := h
    obtain ⟨e, s', h1, _, h2⟩ := iter_split0 (fun Q Q' hq s h => awp_mono c Q Q' hq s h) (fun Q s h => awp_split0 c Q s h) n s h
    exact ⟨e, s', h1, n, h2⟩
  | .exit id, Q, s, h => ⟨_, _, h, rfl, rfl⟩
  | .ret, Q, s, h => ⟨_, _, h, rfl, rfl⟩

end

variable {Pg : Program} {post : IE → AS → Prop} {k : List Fr} {s : AS} {n : Nat} {E : List (Nat × L)} {m : Mem}

theorem go_skip : den Pg post (.code .skip :: k) .norm s = den Pg post k .norm s := by rfl
theorem go_reg (os : List IOp) : den Pg post (.code (.reg os) :: k) .norm s = den Pg post (.ops os :: k) .norm s := by rfl
theorem go_draw (os : List IOp) (un : List (Nat × Nat)) : den Pg post (.code (.draw os un) :: k) .norm s = den Pg post (.drw os un [] :: k) .norm s := by rfl
theorem go_ops_nil : den Pg post (.ops [] :: k) .norm s = den Pg post k .norm s := by rfl
theorem go_drw_nil (un : List (Nat × Nat)) (es : List Eff) : den Pg post (.drw [] un es :: k) .norm s = (indep un es = true ∧ den Pg post k .norm s) := by rfl
theorem go_seq (a b : IC) : den Pg post (.code (.seq a b) :: k) .norm s = den Pg post (.code a :: .code b :: k) .norm s := by
  simp only [den, awp]
  congr 1
theorem go_ite (x : X) (a b : IC) : den Pg post (.code (.ite x a b) :: k) .norm (st n E m) = den Pg post (.br (evE n E x) a b :: k) .norm (st n E m) := by
  simp only [den, awp, st, ev_envOf]
theorem go_br_true (a b : IC) : den Pg post (.br (.p (.bool true)) a b :: k) .norm s = den Pg post (.code a :: k) .norm s := by
  simp [den]
theorem go_br_false (a b : IC) : den Pg post (.br (.p (.bool false)) a b :: k) .norm s = den Pg post (.code b :: k) .norm s := by
  simp [den]
theorem go_blk (id : Nat) (c : IC) : den Pg post (.code (.blk id c) :: k) .norm s = den Pg post (.code c :: .blk id :: k) .norm s := by
  simp only [den, awp]
theorem go_blk_norm (id : Nat) : den Pg post (.blk id :: k) .norm s = den Pg post k .norm s := by simp [den]
theorem go_blk_ret (id : Nat) : den Pg post (.blk id :: k) .ret s = den Pg post k .ret s := by simp [den]
theorem go_blk_exit (id i : Nat) : den Pg post (.blk id :: k) (.exit i) s = if i = id then den Pg post k .norm s else den Pg post k (.exit i) s := by simp [den]
theorem go_exit (i : Nat) : den Pg post (.code (.exit i) :: k) .norm s = den Pg post k (.exit i) s := by rfl
theorem go_ret : den Pg post (.code .ret :: k) .norm s = den Pg post k .ret s := by rfl
theorem go_code_exit (c : IC) (i : Nat) : den Pg post (.code c :: k) (.exit i) s = den Pg post k (.exit i) s := by rfl
theorem go_code_ret (c : IC) : den Pg post (.code c :: k) .ret s = den Pg post k .ret s := by rfl
theorem go_inv_norm (G : AS → Prop) : den Pg post (.inv G :: k) .norm s = G s := by rfl
theorem go_inv_exit (G : AS → Prop) (i : Nat) : den Pg post (.inv G :: k) (.exit i) s = den Pg post k (.exit i) s := by rfl
theorem go_inv_ret (G : AS → Prop) : den Pg post (.inv G :: k) .ret s = den Pg post k .ret s := by rfl
theorem go_nil (e : IE) : den Pg post [] e s = post e s := by rfl

theorem st_env : (st n E m).env = envOf n E := by rfl
theorem st_mem : (st n E m).mem = m := by rfl

variable {os : List IOp} {un : List (Nat × Nat)} {es : List Eff} {d : Option Nat} {op : AOp}

theorem go_op (h : isCall op = false) : den Pg post (.ops (⟨d, none, op⟩ :: os) :: k) .norm (st n E m) = den Pg post (.eff (aop (st n E m) (d.getD 0) op) d :: .ops os :: k) .norm (st n E m) := by
  cases op <;> first | rfl | (simp [isCall] at h)
theorem go_dop (h : isCall op = false) : den Pg post (.drw (⟨d, none, op⟩ :: os) un es :: k) .norm (st n E m) = den Pg post (.eff (aop (st n E m) (d.getD 0) op) d :: .drw os un es :: k) .norm (st n E m) := by
  cases op <;> first | rfl | (simp [isCall] at h)
theorem go_call {f : X} {xs : List X} {keep own : Bool} : den Pg post (.ops (⟨d, none, .call f xs keep own⟩ :: os) :: k) .norm (st n E m) =
    den Pg post (.cal (callee (evE n E f) (xs.map (evE n E))) d keep own :: .ops os :: k) .norm (st n E m) := by
  simp only [den, run, stepG, step, st_env, ev_fun]
theorem go_dcall {f : X} {xs : List X} {keep own : Bool} : den Pg post (.drw (⟨d, none, .call f xs keep own⟩ :: os) un es :: k) .norm (st n E m) =
    den Pg post (.cal (callee (evE n E f) (xs.map (evE n E))) d keep own :: .drw os un es :: k) .norm (st n E m) := by
  simp only [den, runD, stepG, step, st_env, ev_fun]
theorem go_op_g {t : Nat} {w : Bool} : den Pg post (.ops (⟨d, some (t, w), op⟩ :: os) :: k) .norm (st n E m) = den Pg post (.grd (guardOf (evE n E (.t t)) w) ⟨d, none, op⟩ :: .ops os :: k) .norm (st n E m) := by
  simp only [den, run, stepG, st_env, ← ev_envOf]
  cases op <;> rfl
theorem go_dop_g {t : Nat} {w : Bool} : den Pg post (.drw (⟨d, some (t, w), op⟩ :: os) un es :: k) .norm (st n E m) = den Pg post (.grd (guardOf (evE n E (.t t)) w) ⟨d, none, op⟩ :: .drw os un es :: k) .norm (st n E m) := by
  simp only [den, runD, stepG, st_env, ← ev_envOf]
  cases op <;> rfl
theorem go_grd_true : den Pg post (.grd (some true) ⟨d, none, op⟩ :: .ops os :: k) .norm s = den Pg post (.ops (⟨d, none, op⟩ :: os) :: k) .norm s := by
  simp [den, run, stepG]
theorem go_dgrd_true : den Pg post (.grd (some true) ⟨d, none, op⟩ :: .drw os un es :: k) .norm s = den Pg post (.drw (⟨d, none, op⟩ :: os) un es :: k) .norm s := by
  simp [den, runD, stepG]
theorem go_grd_false : den Pg post (.grd (some false) ⟨d, none, op⟩ :: k) .norm s = den Pg post (.eff (some skipped) d :: k) .norm s := by
  cases k with
  | nil => simp [den]
  | cons x k => cases x <;> simp [den]
theorem go_eff {v : L} {wr : List (Nat × Nat × Blk)} {rd : List Nat} {t : Nat} : den Pg post (.eff (some ⟨v, wr, rd⟩) (some t) :: .ops os :: k) .norm (st n E m) = den Pg post (.ops os :: k) .norm (st n ((t, v) :: E) (putAll m wr)) := by
  simp [den, after_st]
theorem go_eff0 {v : L} {wr : List (Nat × Nat × Blk)} {rd : List Nat} : den Pg post (.eff (some ⟨v, wr, rd⟩) none :: .ops os :: k) .norm (st n E m) = den Pg post (.ops os :: k) .norm (st n E (putAll m wr)) := by
  simp [den, after_st]
theorem go_deff {v : L} {wr : List (Nat × Nat × Blk)} {rd : List Nat} {t : Nat} : den Pg post (.eff (some ⟨v, wr, rd⟩) (some t) :: .drw os un es :: k) .norm (st n E m) = den Pg post (.drw os un (es ++ [⟨v, wr, rd⟩]) :: k) .norm (st n ((t, v) :: E) (putAll m wr)) := by
  simp [den, after_st]
theorem go_deff0 {v : L} {wr : List (Nat × Nat × Blk)} {rd : List Nat} : den Pg post (.eff (some ⟨v, wr, rd⟩) none :: .drw os un es :: k) .norm (st n E m) = den Pg post (.drw os un (es ++ [⟨v, wr, rd⟩]) :: k) .norm (st n E (putAll m wr)) := by
  simp [den, after_st]
theorem go_eff_if {c : Prop} [Decidable c] {oe : Option Eff} : den Pg post (.eff (if c then oe else none) d :: k) .norm s = (c ∧ den Pg post (.eff oe d :: k) .norm s) := by
  by_cases h : c
  · simp [h]
  · simp only [h, if_false, false_and, eq_iff_iff, iff_false]
    cases k with
    | nil => simp [den]
    | cons x k => cases x <;> simp [den]
theorem go_eff_if' {c : Prop} [Decidable c] {oe : Option Eff} : den Pg post (.eff (if c then none else oe) d :: k) .norm s = (¬ c ∧ den Pg post (.eff oe d :: k) .norm s) := by
  by_cases h : c
  · simp only [h, if_true, not_true, false_and, eq_iff_iff, iff_false]
    cases k with
    | nil => simp [den]
    | cons x k => cases x <;> simp [den]
  · simp [h]
theorem go_cal {fn : FuncId} {ls : List L} {keep own : Bool} : den Pg post (.cal (some (fn, ls)) d keep own :: k) .norm (st n E m) = den Pg post (.ca2 fn (toAs own m ls) ls d keep :: k) .norm (st n E m) := by
  have go : ∀ (X : Eff → Prop), (∃ fn' ls' as hs ss res outs f, some (fn, ls) = some (fn', ls') ∧ toAs own m ls' = some (as, hs, ss) ∧ Ret Pg fn' as res outs ∧ callEff m (d.getD 0) keep ls' as hs ss res outs = some f ∧ X f) =
      (∃ as hs ss res outs f, toAs own m ls = some (as, hs, ss) ∧ Ret Pg fn as res outs ∧ callEff m (d.getD 0) keep ls as hs ss res outs = some f ∧ X f) := by
    intro X
    apply propext
    constructor
    · rintro ⟨fn', ls', as, hs, ss, res, outs, f, h1, h2, h3, h4, h5⟩
      injection h1 with h1; injection h1 with h6 h7; subst h6; subst h7
      exact ⟨as, hs, ss, res, outs, f, h2, h3, h4, h5⟩
    · rintro ⟨as, hs, ss, res, outs, f, h2, h3, h4, h5⟩
      exact ⟨fn, ls, as, hs, ss, res, outs, f, rfl, h2, h3, h4, h5⟩
  cases k with
  | nil => exact go _
  | cons x k => cases x <;> exact go _
/-- a call, by its contract -/
theorem go_use {fn : FuncId} {ls : List L} {as : List A} {hs ss : List Nat} {keep : Bool} {res : R} {outs : List (List O)} (h : Ret Pg fn as res outs)
    (hk : den Pg post (.eff (callEff m (d.getD 0) keep ls as hs ss res outs) d :: k) .norm (st n E m)) : den Pg post (.ca2 fn (some (as, hs, ss)) ls d keep :: k) .norm (st n E m) := by
  cases k with
  | nil => simp only [den] at hk ⊢; obtain ⟨f, h1, h2⟩ := hk; exact ⟨as, hs, ss, res, outs, f, rfl, h, h1, h2⟩
  | cons x k => cases x <;> (simp only [den] at hk ⊢; obtain ⟨f, h1, h2⟩ := hk; exact ⟨as, hs, ss, res, outs, f, rfl, h, h1, h2⟩)

/-- a loop: states of one form at its head, and a number that falls -/
theorem go_loop {β : Type} {live sites : List Nat} {c : IC} (S : β → AS) (I : β → Prop) (μ : β → Nat) (b0 : β) (h0 : clean live sites s = some (S b0)) (hI : I b0)
    (round : ∀ b, I b → den Pg post (.code c :: .inv (fun s' => ∃ b', clean live sites s' = some (S b') ∧ I b' ∧ μ b' < μ b) :: k) .norm (S b)) :
    den Pg post (.code (.loop live sites c) :: k) .norm s := by
  show ∃ n, iter (awp Pg c) live sites (den Pg post k) n s
  have key : ∀ (n : Nat) (b : β) (s : AS), μ b < n → I b → clean live sites s = some (S b) → iter (awp Pg c) live sites (den Pg post k) n s := by
    intro n
    induction n with
    | zero => intro b s hb; omega
    | succ n ih =>
      intro b s hb hI hc
      refine ⟨S b, hc, ?_⟩
      have := round b hI
      simp only [den] at this
      have mono : ∀ (c : IC) (Q Q' : IE → AS → Prop), (∀ e s, Q e s → Q' e s) → ∀ s, awp Pg c Q s → awp Pg c Q' s := awp_mono
      refine mono c _ _ ?_ _ this
      intro e s' hq
      cases e with
      | norm => obtain ⟨b', h1, h2, h3⟩ := hq; exact ih b' s' (by omega) h2 h1
      | exit id => exact hq
      | ret => exact hq
  exact ⟨μ b0 + 1, key _ b0 s (Nat.lt_succ_self _) hI h0⟩

theorem go_head (live sites : List Nat) (c : IC) : den Pg post (.code (.loop live sites c) :: k) .norm (st n E m) = den Pg post (.lpc (clean live sites (st n E m)) live sites c :: k) .norm (st n E m) := by
  apply propext
  simp only [den, awp]
  constructor
  · rintro ⟨j, h⟩
    cases j with
    | zero => exact h.elim
    | succ j => obtain ⟨s', h1, h2⟩ := h; exact ⟨s', h1, j, h2⟩
  · rintro ⟨s', h1, j, h2⟩
    exact ⟨j + 1, s', h1, h2⟩
theorem go_lpc (live sites : List Nat) (c : IC) (s' : AS) : den Pg post (.lpc (some s') live sites c :: k) .norm s = den Pg post (.lp live sites c :: k) .norm s' := by
  apply propext
  simp only [den]
  constructor
  · rintro ⟨t, h1, h2⟩; cases h1; exact h2
  · intro h; exact ⟨_, rfl, h⟩

/-- a loop at its head: what turns in it, and a number that falls -/
theorem go_lp {β : Type} {live sites : List Nat} {c : IC} (V : β → List (Nat × L)) (W : β → List (Nat × Nat × Blk)) (I : β → Prop) (μ : β → Nat) (b0 : β) (h0 : st n E m = st n (V b0 ++ E) (putAll m (W b0))) (hI : I b0)
    (round : ∀ b, I b → den Pg post (.code c :: .inv (fun s' => ∃ b', clean live sites s' = some (st n (V b' ++ E) (putAll m (W b'))) ∧ I b' ∧ μ b' < μ b) :: k) .norm (st n (V b ++ E) (putAll m (W b)))) :
    den Pg post (.lp live sites c :: k) .norm (st n E m) := by
  have key : ∀ (j : Nat) (b : β), μ b < j → I b → ∃ n', awp Pg c (fun e t => match e with | .norm => iter (awp Pg c) live sites (den Pg post k) n' t | e => den Pg post k e t) (st n (V b ++ E) (putAll m (W b))) := by
    intro j
    induction j with
    | zero => intro b hb; omega
    | succ j ih =>
      intro b hb hI
      have := round b hI
      simp only [den] at this
      obtain ⟨e1, s1, h1, h2⟩ := awp_split0 c _ _ this
      cases e1 with
      | norm =>
        obtain ⟨b', h3, h4, h5⟩ := h1
        obtain ⟨n', h6⟩ := ih b' (by omega) h4
        refine ⟨n' + 1, awp_mono c _ _ ?_ _ h2⟩
        rintro e t ⟨rfl, rfl⟩
        exact ⟨_, h3, h6⟩
      | exit id =>
        refine ⟨0, awp_mono c _ _ ?_ _ h2⟩
        rintro e t ⟨rfl, rfl⟩
        exact h1
      | ret =>
        refine ⟨0, awp_mono c _ _ ?_ _ h2⟩
        rintro e t ⟨rfl, rfl⟩
        exact h1
  rw [h0]
  simp only [den]
  exact key _ b0 (Nat.lt_succ_self _) hI

end Go.AW
namespace Go.AW

variable {Pg : Program} {post : IE → AS → Prop} {k : List Fr} {s : AS} {n : Nat} {E : List (Nat × L)} {m : Mem}

def pickE (live : List Nat) (E : List (Nat × L)) : List (Nat × L) := live.map fun i => (i, lk E i)

theorem lk_pick (E : List (Nat × L)) (i : Nat) : ∀ (live : List Nat), lk (pickE live E) i = if live.contains i then lk E i else .undef
  | [] => rfl
  | j :: live => by
    have := lk_pick E i live
    simp only [pickE, List.map_cons, lk] at this ⊢
    by_cases h : j = i
    · subst h; simp
    · rw [if_neg h, this]
      have : (i == j) = false := by simp; exact fun e => h e.symm
      have h2 : ¬ i = j := fun e => h e.symm
      simp [h2]

theorem cleanEnv_range (live : List Nat) (f : Nat → L) : ∀ (c k : Nat), cleanEnv live k ((List.range' k c).map f) = (List.range' k c).map fun i => if live.contains i then f i else .undef
  | 0, k => rfl
  | c + 1, k => by simp only [List.range'_succ, List.map_cons, cleanEnv, cleanEnv_range live f c (k + 1)]

theorem cleanEnv_envOf (live : List Nat) : cleanEnv live 0 (envOf n E) = envOf n (pickE live E) := by
  unfold envOf
  rw [List.range_eq_range', cleanEnv_range]
  apply List.map_congr_left
  intro i _
  rw [lk_pick]

theorem mem_refss : ∀ (ls : List L) (s : Nat), s ∈ refss ls ↔ ∃ l ∈ ls, s ∈ refs l
  | [], s => by simp [refss]
  | l :: ls, s => by simp [refss, mem_refss ls s]

theorem mem_reach (m : Mem) : ∀ (k : Nat) (a b : List Nat), (∀ s, s ∈ a ↔ s ∈ b) → ∀ s, s ∈ reach m k a ↔ s ∈ reach m k b
  | 0, a, b, h, s => h s
  | k + 1, a, b, h, s => by
    simp only [reach]
    refine mem_reach m k _ _ ?_ s
    have hc : ∀ x, a.contains x = b.contains x := by
      intro x
      rw [Bool.eq_iff_iff]; simpa using h x
    intro s
    simp only [List.mem_append, hc]
    rw [h s]

def cleanE (live sites : List Nat) (n : Nat) (E : List (Nat × L)) (m : Mem) : Option AS :=
  if ((refss (live.map (lk E)) ++ (m.filter fun x => keptSite (reach m 3 (sites ++ refss (live.map (lk E)))) x.1).flatMap fun x => blkRefs x.2.2).all (keptSite (reach m 3 (sites ++ refss (live.map (lk E)))) ·)) = true
  then some (st n (pickE live E) (m.filter fun x => keptSite (reach m 3 (sites ++ refss (live.map (lk E)))) x.1)) else none

theorem clean_st {live sites : List Nat} (h : live.all (fun i => decide (i < n)) = true) : clean live sites (st n E m) = cleanE live sites n E m := by
  have hlt : ∀ i ∈ live, i < n := by simpa using h
  have h1 : ∀ x, x ∈ refss (envOf n (pickE live E)) ↔ x ∈ refss (live.map (lk E)) := by
    intro x
    simp only [mem_refss, envOf, List.mem_map, List.mem_range]
    constructor
    · rintro ⟨l, ⟨i, hi, rfl⟩, hx⟩
      rw [lk_pick] at hx
      split at hx
      · rename_i hc; exact ⟨_, ⟨i, by simpa using hc, rfl⟩, hx⟩
      · simp [refs] at hx
    · rintro ⟨l, ⟨i, hi, rfl⟩, hx⟩
      refine ⟨_, ⟨i, hlt i hi, rfl⟩, ?_⟩
      rw [lk_pick, if_pos (by simpa using hi)]; exact hx
  have h2 : ∀ x, x ∈ reach m 3 (sites ++ refss (envOf n (pickE live E))) ↔ x ∈ reach m 3 (sites ++ refss (live.map (lk E))) :=
    mem_reach m 3 _ _ fun x => by simp only [List.mem_append, h1]
  have h3 : (fun x => keptSite (reach m 3 (sites ++ refss (envOf n (pickE live E)))) x) = fun x => keptSite (reach m 3 (sites ++ refss (live.map (lk E)))) x := by
    funext x
    unfold keptSite
    congr 1
    rw [Bool.eq_iff_iff]; simpa using h2 x
  have h4 : (fun x : Nat × Nat × Blk => keptSite (reach m 3 (sites ++ refss (envOf n (pickE live E)))) x.1) = fun x => keptSite (reach m 3 (sites ++ refss (live.map (lk E)))) x.1 := by
    funext x; exact congrFun h3 x.1
  unfold clean cleanE
  simp only [st_env, st_mem, cleanEnv_envOf]
  have h5 : ∀ (p : Nat → Bool) (r : List Nat), (refss (envOf n (pickE live E)) ++ r).all p = (refss (live.map (lk E)) ++ r).all p := by
    intro p r
    rw [Bool.eq_iff_iff]
    simp only [List.all_eq_true, List.mem_append, h1]
  rw [h5, h4, h3]
  rfl

def finE (res : R) (outs : List (List O)) : Option (List R × List Nat × List Nat) → Option (List (List O) × List Nat × List Nat) → Prop
  | some (rs, hs, ss), some (os, hs', ss') => (nodup (hs' ++ hs) && !(hs' ++ hs).any ((ss' ++ ss).contains ·)) = true ∧ (match rs with | [r] => res = r | _ => res = .tup rs) ∧ outs = os
  | _, _ => False
def fin (rv : List RV) (args : List A) (res : R) (outs : List (List O)) : IE → AS → Prop := fun e s => match e with | .exit _ => False | _ => finE res outs (resRs s rv) (outsOf s.mem 0 args)
theorem finish_eq {fn : IFn} {args : List A} {res : R} {outs : List (List O)} : finish fn args s res outs = finE res outs (resRs s fn.res) (outsOf s.mem 0 args) := by
  apply propext
  unfold finish finE
  constructor
  · rintro ⟨rs, hs, ss, os, hs', ss', h1, h2, h3, h4, h5⟩
    rw [h1, h2]; exact ⟨h3, h4, h5⟩
  · intro h
    split at h
    · rename_i rs hs ss os hs' ss' h1 h2
      exact ⟨rs, hs, ss, os, hs', ss', h1, h2, h.1, h.2.1, h.2.2⟩
    · exact h.elim

/-- a function's contract, by walking -/
theorem comes_of {fn : IFn} {args : List A} {res : R} {outs : List (List O)} (hl : (decide (args.length ≤ fn.ntmps)) = true)
    (h : den Pg (fin fn.res args res outs) [.code fn.body] .norm (st fn.ntmps (pairs 0 (entry 0 args).1) (entry 0 args).2)) : Comes Pg fn args res outs := by
  have e : Go.AW.start fn args = st fn.ntmps (pairs 0 (entry 0 args).1) (entry 0 args).2 := by
    unfold Go.AW.start st
    congr 1
    rw [← pad_envOf _ _ (by rw [entry_len]; simpa using hl), entry_len]
  unfold Comes
  rw [e]
  refine awp_mono _ _ _ ?_ _ h
  intro e s h
  cases e with
  | norm => simp only [den, fin] at h; simp only [finish_eq]; exact h
  | ret => simp only [den, fin] at h; simp only [finish_eq]; exact h
  | exit id => exact h

theorem fin_norm {rv : List RV} {args : List A} {res : R} {outs : List (List O)} : fin rv args res outs .norm s = finE res outs (resRs s rv) (outsOf s.mem 0 args) := by rfl
theorem fin_ret {rv : List RV} {args : List A} {res : R} {outs : List (List O)} : fin rv args res outs .ret s = finE res outs (resRs s rv) (outsOf s.mem 0 args) := by rfl
theorem finE_one (res r : R) (outs os : List (List O)) (hs ss hs' ss' : List Nat) : finE res outs (some ([r], hs, ss)) (some (os, hs', ss')) = ((nodup (hs' ++ hs) && !(hs' ++ hs).any ((ss' ++ ss).contains ·)) = true ∧ res = r ∧ outs = os) := by rfl
theorem finE_nil (res : R) (outs os : List (List O)) (hs ss hs' ss' : List Nat) : finE res outs (some ([], hs, ss)) (some (os, hs', ss')) = ((nodup (hs' ++ hs) && !(hs' ++ hs).any ((ss' ++ ss).contains ·)) = true ∧ res = .tup [] ∧ outs = os) := by rfl
theorem finE_more (res r r' : R) (rs : List R) (outs os : List (List O)) (hs ss hs' ss' : List Nat) : finE res outs (some (r :: r' :: rs, hs, ss)) (some (os, hs', ss')) = ((nodup (hs' ++ hs) && !(hs' ++ hs).any ((ss' ++ ss).contains ·)) = true ∧ res = .tup (r :: r' :: rs) ∧ outs = os) := by rfl
theorem resOf_t (i : Nat) : resOf (st n E m) (.t i) = some (evE n E (.t i)) := by
  simp only [resOf, st_env, ← ev_envOf]; rfl
def cellRes (m : Mem) (ag : Bool) (c : Nat) : L → Option L
  | .ptr s ver off => match boxAt m s ver with
    | some (cs, _) => mkv ag c ((cs.drop off).take c)
    | none => none
  | _ => none
theorem resOf_cell (ag : Bool) (c i : Nat) : resOf (st n E m) (.cell ag c i) = cellRes m ag c (evE n E (.t i)) := by
  simp only [resOf, st_env, st_mem, cellRes, ← ev_envOf]; rfl

end Go.AW
namespace Go.AW
variable {Pg : Program} {post : IE → AS → Prop} {k : List Fr} {n : Nat} {E : List (Nat × L)} {m : Mem} {os : List IOp} {un : List (Nat × Nat)} {es : List Eff} {d : Option Nat}
theorem o_mov (x : X) : den Pg post (.ops (⟨d, none, .mov x⟩ :: os) :: k) .norm (st n E m) = den Pg post (.eff (aop (st n E m) (d.getD 0) (.mov x)) d :: .ops os :: k) .norm (st n E m) := go_op rfl
theorem d_mov (x : X) : den Pg post (.drw (⟨d, none, .mov x⟩ :: os) un es :: k) .norm (st n E m) = den Pg post (.eff (aop (st n E m) (d.getD 0) (.mov x)) d :: .drw os un es :: k) .norm (st n E m) := go_dop rfl
theorem o_pick (a b c : X) : den Pg post (.ops (⟨d, none, .pick a b c⟩ :: os) :: k) .norm (st n E m) = den Pg post (.eff (aop (st n E m) (d.getD 0) (.pick a b c)) d :: .ops os :: k) .norm (st n E m) := go_op rfl
theorem d_pick (a b c : X) : den Pg post (.drw (⟨d, none, .pick a b c⟩ :: os) un es :: k) .norm (st n E m) = den Pg post (.eff (aop (st n E m) (d.getD 0) (.pick a b c)) d :: .drw os un es :: k) .norm (st n E m) := go_dop rfl
theorem o_alloc (z : List P) : den Pg post (.ops (⟨d, none, .alloc z⟩ :: os) :: k) .norm (st n E m) = den Pg post (.eff (aop (st n E m) (d.getD 0) (.alloc z)) d :: .ops os :: k) .norm (st n E m) := go_op rfl
theorem d_alloc (z : List P) : den Pg post (.drw (⟨d, none, .alloc z⟩ :: os) un es :: k) .norm (st n E m) = den Pg post (.eff (aop (st n E m) (d.getD 0) (.alloc z)) d :: .drw os un es :: k) .norm (st n E m) := go_dop rfl
theorem o_box (i : Nat) (x : X) : den Pg post (.ops (⟨d, none, .box i x⟩ :: os) :: k) .norm (st n E m) = den Pg post (.eff (aop (st n E m) (d.getD 0) (.box i x)) d :: .ops os :: k) .norm (st n E m) := go_op rfl
theorem d_box (i : Nat) (x : X) : den Pg post (.drw (⟨d, none, .box i x⟩ :: os) un es :: k) .norm (st n E m) = den Pg post (.eff (aop (st n E m) (d.getD 0) (.box i x)) d :: .drw os un es :: k) .norm (st n E m) := go_dop rfl
theorem o_build (z : List P) (ps : List (Nat × Nat × X)) : den Pg post (.ops (⟨d, none, .build z ps⟩ :: os) :: k) .norm (st n E m) = den Pg post (.eff (aop (st n E m) (d.getD 0) (.build z ps)) d :: .ops os :: k) .norm (st n E m) := go_op rfl
theorem d_build (z : List P) (ps : List (Nat × Nat × X)) : den Pg post (.drw (⟨d, none, .build z ps⟩ :: os) un es :: k) .norm (st n E m) = den Pg post (.eff (aop (st n E m) (d.getD 0) (.build z ps)) d :: .drw os un es :: k) .norm (st n E m) := go_dop rfl
theorem o_bslice (i len : Nat) (z : P) (ps : List (Nat × X)) : den Pg post (.ops (⟨d, none, .bslice i len z ps⟩ :: os) :: k) .norm (st n E m) = den Pg post (.eff (aop (st n E m) (d.getD 0) (.bslice i len z ps)) d :: .ops os :: k) .norm (st n E m) := go_op rfl
theorem d_bslice (i len : Nat) (z : P) (ps : List (Nat × X)) : den Pg post (.drw (⟨d, none, .bslice i len z ps⟩ :: os) un es :: k) .norm (st n E m) = den Pg post (.eff (aop (st n E m) (d.getD 0) (.bslice i len z ps)) d :: .drw os un es :: k) .norm (st n E m) := go_dop rfl
theorem o_load (ag : Bool) (i : Nat) (a : X) : den Pg post (.ops (⟨d, none, .load ag i a⟩ :: os) :: k) .norm (st n E m) = den Pg post (.eff (aop (st n E m) (d.getD 0) (.load ag i a)) d :: .ops os :: k) .norm (st n E m) := go_op rfl
theorem d_load (ag : Bool) (i : Nat) (a : X) : den Pg post (.drw (⟨d, none, .load ag i a⟩ :: os) un es :: k) .norm (st n E m) = den Pg post (.eff (aop (st n E m) (d.getD 0) (.load ag i a)) d :: .drw os un es :: k) .norm (st n E m) := go_dop rfl
theorem o_store (i : Nat) (a v : X) : den Pg post (.ops (⟨d, none, .store i a v⟩ :: os) :: k) .norm (st n E m) = den Pg post (.eff (aop (st n E m) (d.getD 0) (.store i a v)) d :: .ops os :: k) .norm (st n E m) := go_op rfl
theorem d_store (i : Nat) (a v : X) : den Pg post (.drw (⟨d, none, .store i a v⟩ :: os) un es :: k) .norm (st n E m) = den Pg post (.eff (aop (st n E m) (d.getD 0) (.store i a v)) d :: .drw os un es :: k) .norm (st n E m) := go_dop rfl
theorem o_nilc (x : X) : den Pg post (.ops (⟨d, none, .nilc x⟩ :: os) :: k) .norm (st n E m) = den Pg post (.eff (aop (st n E m) (d.getD 0) (.nilc x)) d :: .ops os :: k) .norm (st n E m) := go_op rfl
theorem d_nilc (x : X) : den Pg post (.drw (⟨d, none, .nilc x⟩ :: os) un es :: k) .norm (st n E m) = den Pg post (.eff (aop (st n E m) (d.getD 0) (.nilc x)) d :: .drw os un es :: k) .norm (st n E m) := go_dop rfl
theorem o_bin (b : BinOp) (x y : X) : den Pg post (.ops (⟨d, none, .bin b x y⟩ :: os) :: k) .norm (st n E m) = den Pg post (.eff (aop (st n E m) (d.getD 0) (.bin b x y)) d :: .ops os :: k) .norm (st n E m) := go_op rfl
theorem d_bin (b : BinOp) (x y : X) : den Pg post (.drw (⟨d, none, .bin b x y⟩ :: os) un es :: k) .norm (st n E m) = den Pg post (.eff (aop (st n E m) (d.getD 0) (.bin b x y)) d :: .drw os un es :: k) .norm (st n E m) := go_dop rfl
theorem o_beq (ng : Bool) (x y : X) : den Pg post (.ops (⟨d, none, .beq ng x y⟩ :: os) :: k) .norm (st n E m) = den Pg post (.eff (aop (st n E m) (d.getD 0) (.beq ng x y)) d :: .ops os :: k) .norm (st n E m) := go_op rfl
theorem d_beq (ng : Bool) (x y : X) : den Pg post (.drw (⟨d, none, .beq ng x y⟩ :: os) un es :: k) .norm (st n E m) = den Pg post (.eff (aop (st n E m) (d.getD 0) (.beq ng x y)) d :: .drw os un es :: k) .norm (st n E m) := go_dop rfl
theorem o_isnil (i : Nat) (ng : Bool) (x : X) : den Pg post (.ops (⟨d, none, .isnil i ng x⟩ :: os) :: k) .norm (st n E m) = den Pg post (.eff (aop (st n E m) (d.getD 0) (.isnil i ng x)) d :: .ops os :: k) .norm (st n E m) := go_op rfl
theorem d_isnil (i : Nat) (ng : Bool) (x : X) : den Pg post (.drw (⟨d, none, .isnil i ng x⟩ :: os) un es :: k) .norm (st n E m) = den Pg post (.eff (aop (st n E m) (d.getD 0) (.isnil i ng x)) d :: .drw os un es :: k) .norm (st n E m) := go_dop rfl
theorem o_aeq (ng : Bool) (ks : List Nat) (x y : X) : den Pg post (.ops (⟨d, none, .aeq ng ks x y⟩ :: os) :: k) .norm (st n E m) = den Pg post (.eff (aop (st n E m) (d.getD 0) (.aeq ng ks x y)) d :: .ops os :: k) .norm (st n E m) := go_op rfl
theorem d_aeq (ng : Bool) (ks : List Nat) (x y : X) : den Pg post (.drw (⟨d, none, .aeq ng ks x y⟩ :: os) un es :: k) .norm (st n E m) = den Pg post (.eff (aop (st n E m) (d.getD 0) (.aeq ng ks x y)) d :: .drw os un es :: k) .norm (st n E m) := go_dop rfl
theorem o_un (u : UnOp) (x : X) : den Pg post (.ops (⟨d, none, .un u x⟩ :: os) :: k) .norm (st n E m) = den Pg post (.eff (aop (st n E m) (d.getD 0) (.un u x)) d :: .ops os :: k) .norm (st n E m) := go_op rfl
theorem d_un (u : UnOp) (x : X) : den Pg post (.drw (⟨d, none, .un u x⟩ :: os) un es :: k) .norm (st n E m) = den Pg post (.eff (aop (st n E m) (d.getD 0) (.un u x)) d :: .drw os un es :: k) .norm (st n E m) := go_dop rfl
theorem o_conv (c : CK) (x : X) : den Pg post (.ops (⟨d, none, .conv c x⟩ :: os) :: k) .norm (st n E m) = den Pg post (.eff (aop (st n E m) (d.getD 0) (.conv c x)) d :: .ops os :: k) .norm (st n E m) := go_op rfl
theorem d_conv (c : CK) (x : X) : den Pg post (.drw (⟨d, none, .conv c x⟩ :: os) un es :: k) .norm (st n E m) = den Pg post (.eff (aop (st n E m) (d.getD 0) (.conv c x)) d :: .drw os un es :: k) .norm (st n E m) := go_dop rfl
theorem o_fn (f : FuncId) (cs : List X) : den Pg post (.ops (⟨d, none, .fn f cs⟩ :: os) :: k) .norm (st n E m) = den Pg post (.eff (aop (st n E m) (d.getD 0) (.fn f cs)) d :: .ops os :: k) .norm (st n E m) := go_op rfl
theorem d_fn (f : FuncId) (cs : List X) : den Pg post (.drw (⟨d, none, .fn f cs⟩ :: os) un es :: k) .norm (st n E m) = den Pg post (.eff (aop (st n E m) (d.getD 0) (.fn f cs)) d :: .drw os un es :: k) .norm (st n E m) := go_dop rfl
theorem o_sstr (x : X) (lo hi : Option X) : den Pg post (.ops (⟨d, none, .sstr x lo hi⟩ :: os) :: k) .norm (st n E m) = den Pg post (.eff (aop (st n E m) (d.getD 0) (.sstr x lo hi)) d :: .ops os :: k) .norm (st n E m) := go_op rfl
theorem d_sstr (x : X) (lo hi : Option X) : den Pg post (.drw (⟨d, none, .sstr x lo hi⟩ :: os) un es :: k) .norm (st n E m) = den Pg post (.eff (aop (st n E m) (d.getD 0) (.sstr x lo hi)) d :: .drw os un es :: k) .norm (st n E m) := go_dop rfl
theorem o_slice (i : Nat) (x : X) (lo hi : Option X) : den Pg post (.ops (⟨d, none, .slice i x lo hi⟩ :: os) :: k) .norm (st n E m) = den Pg post (.eff (aop (st n E m) (d.getD 0) (.slice i x lo hi)) d :: .ops os :: k) .norm (st n E m) := go_op rfl
theorem d_slice (i : Nat) (x : X) (lo hi : Option X) : den Pg post (.drw (⟨d, none, .slice i x lo hi⟩ :: os) un es :: k) .norm (st n E m) = den Pg post (.eff (aop (st n E m) (d.getD 0) (.slice i x lo hi)) d :: .drw os un es :: k) .norm (st n E m) := go_dop rfl
theorem o_slice0 (i : Nat) (x : X) : den Pg post (.ops (⟨d, none, .slice0 i x⟩ :: os) :: k) .norm (st n E m) = den Pg post (.eff (aop (st n E m) (d.getD 0) (.slice0 i x)) d :: .ops os :: k) .norm (st n E m) := go_op rfl
theorem d_slice0 (i : Nat) (x : X) : den Pg post (.drw (⟨d, none, .slice0 i x⟩ :: os) un es :: k) .norm (st n E m) = den Pg post (.eff (aop (st n E m) (d.getD 0) (.slice0 i x)) d :: .drw os un es :: k) .norm (st n E m) := go_dop rfl
theorem o_cap (x : X) : den Pg post (.ops (⟨d, none, .cap x⟩ :: os) :: k) .norm (st n E m) = den Pg post (.eff (aop (st n E m) (d.getD 0) (.cap x)) d :: .ops os :: k) .norm (st n E m) := go_op rfl
theorem d_cap (x : X) : den Pg post (.drw (⟨d, none, .cap x⟩ :: os) un es :: k) .norm (st n E m) = den Pg post (.eff (aop (st n E m) (d.getD 0) (.cap x)) d :: .drw os un es :: k) .norm (st n E m) := go_dop rfl
theorem o_faddr (off : Nat) (x : X) : den Pg post (.ops (⟨d, none, .faddr off x⟩ :: os) :: k) .norm (st n E m) = den Pg post (.eff (aop (st n E m) (d.getD 0) (.faddr off x)) d :: .ops os :: k) .norm (st n E m) := go_op rfl
theorem d_faddr (off : Nat) (x : X) : den Pg post (.drw (⟨d, none, .faddr off x⟩ :: os) un es :: k) .norm (st n E m) = den Pg post (.eff (aop (st n E m) (d.getD 0) (.faddr off x)) d :: .drw os un es :: k) .norm (st n E m) := go_dop rfl
theorem o_field (ag : Bool) (off i : Nat) (x : X) : den Pg post (.ops (⟨d, none, .field ag off i x⟩ :: os) :: k) .norm (st n E m) = den Pg post (.eff (aop (st n E m) (d.getD 0) (.field ag off i x)) d :: .ops os :: k) .norm (st n E m) := go_op rfl
theorem d_field (ag : Bool) (off i : Nat) (x : X) : den Pg post (.drw (⟨d, none, .field ag off i x⟩ :: os) un es :: k) .norm (st n E m) = den Pg post (.eff (aop (st n E m) (d.getD 0) (.field ag off i x)) d :: .drw os un es :: k) .norm (st n E m) := go_dop rfl
theorem o_iaddr (i : Nat) (x y : X) : den Pg post (.ops (⟨d, none, .iaddr i x y⟩ :: os) :: k) .norm (st n E m) = den Pg post (.eff (aop (st n E m) (d.getD 0) (.iaddr i x y)) d :: .ops os :: k) .norm (st n E m) := go_op rfl
theorem d_iaddr (i : Nat) (x y : X) : den Pg post (.drw (⟨d, none, .iaddr i x y⟩ :: os) un es :: k) .norm (st n E m) = den Pg post (.eff (aop (st n E m) (d.getD 0) (.iaddr i x y)) d :: .drw os un es :: k) .norm (st n E m) := go_dop rfl
theorem o_index (x y : X) : den Pg post (.ops (⟨d, none, .index x y⟩ :: os) :: k) .norm (st n E m) = den Pg post (.eff (aop (st n E m) (d.getD 0) (.index x y)) d :: .ops os :: k) .norm (st n E m) := go_op rfl
theorem d_index (x y : X) : den Pg post (.drw (⟨d, none, .index x y⟩ :: os) un es :: k) .norm (st n E m) = den Pg post (.eff (aop (st n E m) (d.getD 0) (.index x y)) d :: .drw os un es :: k) .norm (st n E m) := go_dop rfl
theorem o_extr (x : X) (i : Nat) : den Pg post (.ops (⟨d, none, .extr x i⟩ :: os) :: k) .norm (st n E m) = den Pg post (.eff (aop (st n E m) (d.getD 0) (.extr x i)) d :: .ops os :: k) .norm (st n E m) := go_op rfl
theorem d_extr (x : X) (i : Nat) : den Pg post (.drw (⟨d, none, .extr x i⟩ :: os) un es :: k) .norm (st n E m) = den Pg post (.eff (aop (st n E m) (d.getD 0) (.extr x i)) d :: .drw os un es :: k) .norm (st n E m) := go_dop rfl
theorem o_mks (i b : Nat) (z : P) (l c : X) : den Pg post (.ops (⟨d, none, .mks i b z l c⟩ :: os) :: k) .norm (st n E m) = den Pg post (.eff (aop (st n E m) (d.getD 0) (.mks i b z l c)) d :: .ops os :: k) .norm (st n E m) := go_op rfl
theorem d_mks (i b : Nat) (z : P) (l c : X) : den Pg post (.drw (⟨d, none, .mks i b z l c⟩ :: os) un es :: k) .norm (st n E m) = den Pg post (.eff (aop (st n E m) (d.getD 0) (.mks i b z l c)) d :: .drw os un es :: k) .norm (st n E m) := go_dop rfl
theorem o_len (str : Bool) (x : X) : den Pg post (.ops (⟨d, none, .len str x⟩ :: os) :: k) .norm (st n E m) = den Pg post (.eff (aop (st n E m) (d.getD 0) (.len str x)) d :: .ops os :: k) .norm (st n E m) := go_op rfl
theorem d_len (str : Bool) (x : X) : den Pg post (.drw (⟨d, none, .len str x⟩ :: os) un es :: k) .norm (st n E m) = den Pg post (.eff (aop (st n E m) (d.getD 0) (.len str x)) d :: .drw os un es :: k) .norm (st n E m) := go_dop rfl
theorem o_app (i b : Nat) (x y : X) : den Pg post (.ops (⟨d, none, .app i b x y⟩ :: os) :: k) .norm (st n E m) = den Pg post (.eff (aop (st n E m) (d.getD 0) (.app i b x y)) d :: .ops os :: k) .norm (st n E m) := go_op rfl
theorem d_app (i b : Nat) (x y : X) : den Pg post (.drw (⟨d, none, .app i b x y⟩ :: os) un es :: k) .norm (st n E m) = den Pg post (.eff (aop (st n E m) (d.getD 0) (.app i b x y)) d :: .drw os un es :: k) .norm (st n E m) := go_dop rfl
theorem o_copy (i : Nat) (x y : X) : den Pg post (.ops (⟨d, none, .copy i x y⟩ :: os) :: k) .norm (st n E m) = den Pg post (.eff (aop (st n E m) (d.getD 0) (.copy i x y)) d :: .ops os :: k) .norm (st n E m) := go_op rfl
theorem d_copy (i : Nat) (x y : X) : den Pg post (.drw (⟨d, none, .copy i x y⟩ :: os) un es :: k) .norm (st n E m) = den Pg post (.eff (aop (st n E m) (d.getD 0) (.copy i x y)) d :: .drw os un es :: k) .norm (st n E m) := go_dop rfl
theorem o_clear (i : Nat) (z : P) (x : X) : den Pg post (.ops (⟨d, none, .clear i z x⟩ :: os) :: k) .norm (st n E m) = den Pg post (.eff (aop (st n E m) (d.getD 0) (.clear i z x)) d :: .ops os :: k) .norm (st n E m) := go_op rfl
theorem d_clear (i : Nat) (z : P) (x : X) : den Pg post (.drw (⟨d, none, .clear i z x⟩ :: os) un es :: k) .norm (st n E m) = den Pg post (.eff (aop (st n E m) (d.getD 0) (.clear i z x)) d :: .drw os un es :: k) .norm (st n E m) := go_dop rfl
theorem o_max (x y : X) : den Pg post (.ops (⟨d, none, .max x y⟩ :: os) :: k) .norm (st n E m) = den Pg post (.eff (aop (st n E m) (d.getD 0) (.max x y)) d :: .ops os :: k) .norm (st n E m) := go_op rfl
theorem d_max (x y : X) : den Pg post (.drw (⟨d, none, .max x y⟩ :: os) un es :: k) .norm (st n E m) = den Pg post (.eff (aop (st n E m) (d.getD 0) (.max x y)) d :: .drw os un es :: k) .norm (st n E m) := go_dop rfl
theorem o_min (x y : X) : den Pg post (.ops (⟨d, none, .min x y⟩ :: os) :: k) .norm (st n E m) = den Pg post (.eff (aop (st n E m) (d.getD 0) (.min x y)) d :: .ops os :: k) .norm (st n E m) := go_op rfl
theorem d_min (x y : X) : den Pg post (.drw (⟨d, none, .min x y⟩ :: os) un es :: k) .norm (st n E m) = den Pg post (.eff (aop (st n E m) (d.getD 0) (.min x y)) d :: .drw os un es :: k) .norm (st n E m) := go_dop rfl
theorem map_if1 {α β : Type} {c : Prop} [Decidable c] (f : α → β) (x : α) : Option.map f (if c then some x else none) = if c then some (f x) else none := by split <;> rfl
theorem map_if2 {α β : Type} {c : Prop} [Decidable c] (f : α → β) (x : α) : Option.map f (if c then none else some x) = if c then none else some (f x) := by split <;> rfl
theorem b_tt : (true == true) = true := rfl
theorem b_tf : (true == false) = false := rfl
theorem b_ft : (false == true) = false := rfl
theorem b_ff : (false == false) = true := rfl
theorem n_tt : (true != true) = false := rfl
theorem n_tf : (true != false) = true := rfl
theorem n_ft : (false != true) = true := rfl
theorem n_ff : (false != false) = false := rfl
theorem b_xt (x : Bool) : (x == true) = x := by cases x <;> rfl
theorem b_xf (x : Bool) : (x == false) = !x := by cases x <;> rfl
theorem b_tx (x : Bool) : (true == x) = x := by cases x <;> rfl
theorem b_fx (x : Bool) : (false == x) = !x := by cases x <;> rfl
theorem n_xt (x : Bool) : (x != true) = !x := by cases x <;> rfl
theorem n_xf (x : Bool) : (x != false) = x := by cases x <;> rfl
theorem n_tx (x : Bool) : (true != x) = !x := by cases x <;> rfl
theorem n_fx (x : Bool) : (false != x) = x := by cases x <;> rfl
attribute [go_sem] go_head go_lpc go_skip go_reg go_draw go_ops_nil go_drw_nil go_seq go_ite go_br_true go_br_false go_blk go_blk_norm go_blk_ret go_blk_exit go_exit go_ret go_code_exit go_code_ret go_inv_norm go_inv_exit go_inv_ret go_nil
  st_env st_mem go_call go_dcall go_op_g go_dop_g go_grd_true go_dgrd_true go_grd_false go_eff go_eff0 go_deff go_deff0 go_eff_if go_eff_if' go_cal clean_st
  fin_norm fin_ret finE_one finE_nil finE_more resOf_t resOf_cell cellRes resRs outsOf toR toO toOs toA toAs o_mov d_mov o_pick d_pick o_alloc d_alloc o_box d_box o_build d_build o_bslice d_bslice o_load d_load o_store d_store o_nilc d_nilc o_bin d_bin o_beq d_beq o_isnil d_isnil o_aeq d_aeq o_un d_un o_conv d_conv o_fn d_fn o_sstr d_sstr o_slice d_slice o_slice0 d_slice0 o_cap d_cap o_faddr d_faddr o_field d_field o_iaddr d_iaddr o_index d_index o_extr d_extr o_mks d_mks o_len d_len o_app d_app o_copy d_copy o_clear d_clear o_max d_max o_min d_min aop evE lk ev_envOf ev_fun putAll put look nextVer pureE callee snap capt capts flat flats wk wks elems
  boxAt arrAt cellsOf isCell mkv splice setIn bound partsIn partsOf binP guardOf skipped fromR fromR1 fromRs fromO fromOs ofP backs litP litPs litO litR litRs isBoxSite gone nodup uniq callWr callOk callEff freeze fzBlk
  entry pairs refs refss blkRefs reach keptSite cleanE pickE aggP aggP.go eqCells indep Eff.apart P.cells
  List.map List.length List.append List.cons_append List.nil_append List.append_nil List.getD_cons_zero List.getD_cons_succ Int.toNat_natCast Int.natCast_nonneg map_if1 map_if2 Option.some.injEq List.all List.any List.contains List.filter List.flatMap_nil List.flatMap_cons List.flatten_nil List.flatten_cons List.filterMap List.elem List.head?
  List.take List.drop List.replicate List.getElem?_cons_zero List.getElem?_cons_succ List.getElem?_nil
  if_true if_false ite_true ite_false true_and and_true false_and and_false Bool.not_true Bool.not_false Bool.true_and Bool.and_true Bool.false_and Bool.and_false Bool.or_true Bool.true_or Bool.or_false Bool.false_or
  beq_self_eq_true reduceIte Bool.false_eq_true eq_self ne_eq not_true_eq_false not_false_eq_true decide_true decide_false reduceCtorEq Nat.zero_add Nat.add_zero Nat.le_refl Int.le_refl List.take_length List.drop_zero Nat.sub_zero Nat.sub_self List.take_zero List.length_cons List.length_nil Nat.mul_one List.length_map List.nil_eq List.cons_ne_nil Option.map_some Option.map_none Option.getD_some Option.getD_none b_tt b_tf b_ft b_ff n_tt n_tf n_ft n_ff b_xt b_xf b_tx b_fx n_xt n_xf n_tx n_fx
end Go.AW
namespace Go.AW

variable {Pg : Program}

theorem awp_split (c : IC) (Q : IE → AS → Prop) (s : AS) (h : awp Pg c Q s) : ∃ e s', Q e s' ∧ awp Pg c (fun e' t => e' = e ∧ t = s') s := awp_split0 c Q s h

def oneOf : List R → R
  | [r] => r
  | rs => .tup rs
theorem oneOf_eq (rs : List R) : (match rs with | [r] => oneOf rs = r | _ => oneOf rs = .tup rs) := by
  match rs with
  | [] => rfl
  | [r] => rfl
  | r :: r' :: rs => rfl
def finP (Φ : R → List (List O) → Prop) : Option (List R × List Nat × List Nat) → Option (List (List O) × List Nat × List Nat) → Prop
  | some (rs, hs, ss), some (os, hs', ss') => (nodup (hs' ++ hs) && !(hs' ++ hs).any ((ss' ++ ss).contains ·)) = true ∧ Φ (oneOf rs) os
  | _, _ => False
def finQ (rv : List RV) (args : List A) (Φ : R → List (List O) → Prop) : IE → AS → Prop := fun e s => match e with | .exit _ => False | _ => finP Φ (resRs s rv) (outsOf s.mem 0 args)

theorem finP_one (Φ : R → List (List O) → Prop) (r : R) (os : List (List O)) (hs ss hs' ss' : List Nat) : finP Φ (some ([r], hs, ss)) (some (os, hs', ss')) = ((nodup (hs' ++ hs) && !(hs' ++ hs).any ((ss' ++ ss).contains ·)) = true ∧ Φ r os) := by rfl
theorem finP_nil (Φ : R → List (List O) → Prop) (os : List (List O)) (hs ss hs' ss' : List Nat) : finP Φ (some ([], hs, ss)) (some (os, hs', ss')) = ((nodup (hs' ++ hs) && !(hs' ++ hs).any ((ss' ++ ss).contains ·)) = true ∧ Φ (.tup []) os) := by rfl
theorem finP_more (Φ : R → List (List O) → Prop) (r r' : R) (rs : List R) (os : List (List O)) (hs ss hs' ss' : List Nat) : finP Φ (some (r :: r' :: rs, hs, ss)) (some (os, hs', ss')) = ((nodup (hs' ++ hs) && !(hs' ++ hs).any ((ss' ++ ss).contains ·)) = true ∧ Φ (.tup (r :: r' :: rs)) os) := by rfl
theorem finQ_norm {rv : List RV} {args : List A} {Φ : R → List (List O) → Prop} {s : AS} : finQ rv args Φ .norm s = finP Φ (resRs s rv) (outsOf s.mem 0 args) := by rfl
theorem finQ_ret {rv : List RV} {args : List A} {Φ : R → List (List O) → Prop} {s : AS} : finQ rv args Φ .ret s = finP Φ (resRs s rv) (outsOf s.mem 0 args) := by rfl
attribute [go_sem] finP_one finP_nil finP_more finQ_norm finQ_ret

/-- the results are what the walk comes to -/
theorem comesP_of {fn : IFn} {args : List A} {Φ : R → List (List O) → Prop} (hl : (decide (args.length ≤ fn.ntmps)) = true)
    (h : den Pg (finQ fn.res args Φ) [.code fn.body] .norm (st fn.ntmps (pairs 0 (entry 0 args).1) (entry 0 args).2)) : ∃ res outs, Comes Pg fn args res outs ∧ Φ res outs := by
  have e : Go.AW.start fn args = st fn.ntmps (pairs 0 (entry 0 args).1) (entry 0 args).2 := by
    unfold Go.AW.start st
    congr 1
    rw [← pad_envOf _ _ (by rw [entry_len]; simpa using hl), entry_len]
  have h' : awp Pg fn.body (finQ fn.res args Φ) (st fn.ntmps (pairs 0 (entry 0 args).1) (entry 0 args).2) := awp_mono _ _ _ (fun e s h => by cases e <;> exact h) _ h
  obtain ⟨e1, s', h1, h2⟩ := awp_split _ _ _ h'
  have key : finP Φ (resRs s' fn.res) (outsOf s'.mem 0 args) → ∃ res outs, finish fn args s' res outs ∧ Φ res outs := by
    intro h
    unfold finP at h
    split at h
    · rename_i rs hs ss os hs' ss' g1 g2
      exact ⟨oneOf rs, os, ⟨rs, hs, ss, os, hs', ss', g1, g2, h.1, oneOf_eq rs, rfl⟩, h.2⟩
    · exact h.elim
  unfold Comes
  rw [e]
  cases e1 with
  | exit id => exact h1.elim
  | norm =>
    obtain ⟨res, outs, k1, k2⟩ := key h1
    exact ⟨res, outs, awp_mono _ _ _ (fun e t ht => by obtain ⟨rfl, rfl⟩ := ht; exact k1) _ h2, k2⟩
  | ret =>
    obtain ⟨res, outs, k1, k2⟩ := key h1
    exact ⟨res, outs, awp_mono _ _ _ (fun e t ht => by obtain ⟨rfl, rfl⟩ := ht; exact k1) _ h2, k2⟩

end Go.AW
namespace Go.AW

section
variable {Pg : Program} {post : IE → AS → Prop} {k : List Fr} {s : AS} {n : Nat} {E : List (Nat × L)} {m : Mem} {os : List IOp} {un : List (Nat × Nat)} {es : List Eff} {d : Option Nat} {op : AOp}

theorem go_br {c : Bool} {a b : IC} (h1 : c = true → den Pg post (.code a :: k) .norm s) (h2 : c = false → den Pg post (.code b :: k) .norm s) : den Pg post (.br (.p (.bool c)) a b :: k) .norm s := by
  cases c with
  | true => rw [go_br_true]; exact h1 rfl
  | false => rw [go_br_false]; exact h2 rfl
theorem go_grd {c : Bool} (h1 : c = true → den Pg post (.ops (⟨d, none, op⟩ :: os) :: k) .norm s) (h2 : c = false → den Pg post (.eff (some skipped) d :: .ops os :: k) .norm s) :
    den Pg post (.grd (some c) ⟨d, none, op⟩ :: .ops os :: k) .norm s := by
  cases c with
  | true => rw [go_grd_true]; exact h1 rfl
  | false => rw [go_grd_false]; exact h2 rfl
theorem go_dgrd {c : Bool} (h1 : c = true → den Pg post (.drw (⟨d, none, op⟩ :: os) un es :: k) .norm s) (h2 : c = false → den Pg post (.eff (some skipped) d :: .drw os un es :: k) .norm s) :
    den Pg post (.grd (some c) ⟨d, none, op⟩ :: .drw os un es :: k) .norm s := by
  cases c with
  | true => rw [go_dgrd_true]; exact h1 rfl
  | false => rw [go_grd_false]; exact h2 rfl
end

def O.wk : O → O
  | .own n es => .p (.sl n es)
  | .p (.z n) => .p (.sl n [])
  | .p q => .p q
mutual
def R.wk : R → R
  | .o x => .o x.wk
  | .agg cs => .agg (cs.map O.wk)
  | .box cs => .box cs
  | .tup rs => .tup (R.wks rs)
def R.wks : List R → List R
  | [] => []
  | r :: rs => r.wk :: R.wks rs
end

section
variable {w : World} {M M' : Nat → Prop}
theorem ORel_wk {o : O} {v : Value} {bs : List Nat} (h : ORel w M o v bs) (hm : ∀ b, M' b → M b) (hb : ∀ b ∈ bs, ¬ M' b ∧ b < w.heap.size) : ORel w M' o.wk v [] := by
  cases o with
  | own n es =>
    simp only [ORel] at h
    obtain ⟨b, cap, c, t, vs, rest, rfl, rfl, h1, h2, h3, h4, h5⟩ := h
    simp only [O.wk, ORel, PRel, true_and]
    obtain ⟨g1, g2⟩ := hb b (by simp)
    refine ⟨_, cap, vs, rfl, h1, h4.sub hm, fun _ => ⟨_, rfl, rfl, g1, g2, ?_⟩⟩
    intro i v hv
    have h6 : c.toList[i]? = some v := by
      rw [h5, List.getElem?_append_left (by rw [List.getElem?_eq_some_iff] at hv; exact hv.1)]; exact hv
    have : c[i]? = some v := by simpa using h6
    have := (reads_row h2 0 c.size) i v (by rw [List.drop_zero, List.take_of_length_le (by simp)]; exact h6)
    exact this
  | p p =>
    simp only [ORel] at h
    obtain ⟨_, h⟩ := h
    have h' := h.sub hm
    cases p
    case z n =>
      simp only [O.wk, ORel, true_and]
      simp only [PRel] at h' ⊢
      obtain ⟨a, rfl⟩ := h'
      exact ⟨a, 0, [], rfl, Nat.le_refl _, by simp [PElems], by simp⟩
    all_goals (simp only [O.wk, ORel, true_and]; exact h')

theorem ORels_wk : ∀ {os : List O} {vs : List Value} {bs : List Nat}, ORels w M os vs bs → (∀ b, M' b → M b) → (∀ b ∈ bs, ¬ M' b ∧ b < w.heap.size) → ORels w M' (os.map O.wk) vs []
  | [], vs, bs, h, hm, hb => by simp only [ORels] at h; simp [ORels, h.1]
  | o :: os, vs, bs, h, hm, hb => by
    simp only [ORels] at h
    obtain ⟨v, rest, b1, b2, rfl, rfl, h1, h2⟩ := h
    simp only [List.map_cons, ORels]
    exact ⟨v, rest, [], [], rfl, rfl, ORel_wk h1 hm fun b hb' => hb b (by simp [hb']), ORels_wk h2 hm fun b hb' => hb b (by simp [hb'])⟩

mutual
def boxless : R → Bool
  | .box _ => false
  | .tup rs => boxlesss rs
  | _ => true
def boxlesss : List R → Bool
  | [] => true
  | r :: rs => boxless r && boxlesss rs
end
mutual
theorem RRel_wk' : ∀ {r : R} {v : Value} {bs : List Nat}, boxless r = true → RRel w M r v bs → (∀ b, M' b → M b) → (∀ b ∈ bs, ¬ M' b ∧ b < w.heap.size) → RRel w M' r.wk v []
  | .o x, v, bs, _, h, hm, hb => by simp only [RRel, R.wk] at h ⊢; exact ORel_wk h hm hb
  | .agg cs, v, bs, _, h, hm, hb => by
    simp only [RRel, R.wk] at h ⊢
    obtain ⟨vs, rfl, h⟩ := h
    exact ⟨vs, rfl, ORels_wk h hm hb⟩
  | .box _, _, _, hx, _, _, _ => by simp [boxless] at hx
  | .tup rs, v, bs, hx, h, hm, hb => by
    simp only [boxless] at hx
    simp only [RRel, R.wk] at h ⊢
    obtain ⟨vs, rfl, h⟩ := h
    exact ⟨vs, rfl, RRels_wk hx h hm hb⟩
theorem RRels_wk : ∀ {rs : List R} {vs : List Value} {bs : List Nat}, boxlesss rs = true → RRels w M rs vs bs → (∀ b, M' b → M b) → (∀ b ∈ bs, ¬ M' b ∧ b < w.heap.size) → RRels w M' (R.wks rs) vs []
  | [], vs, bs, _, h, hm, hb => by simp only [RRels] at h; simp [R.wks, RRels, h.1]
  | r :: rs, vs, bs, hx, h, hm, hb => by
    simp only [boxlesss, Bool.and_eq_true] at hx
    simp only [RRels] at h
    obtain ⟨v, rest, b1, b2, rfl, rfl, h1, h2⟩ := h
    simp only [R.wks, RRels]
    exact ⟨v, rest, [], [], rfl, rfl, RRel_wk' hx.1 h1 hm fun b hb' => hb b (by simp [hb']), RRels_wk hx.2 h2 hm fun b hb' => hb b (by simp [hb'])⟩
end
end

theorem ORel_sub {w : World} {M M' : Nat → Prop} {o : O} {v : Value} {bs : List Nat} (h : ORel w M o v bs) (hm : ∀ b, M' b → M b) : ORel w M' o v bs := by
  cases o with
  | own n es =>
    simp only [ORel] at h ⊢
    obtain ⟨b, cap, c, t, vs, rest, h0, h00, h1, h2, h3, h4, h5⟩ := h
    exact ⟨b, cap, c, t, vs, rest, h0, h00, h1, h2, h3, h4.sub hm, h5⟩
  | p p => simp only [ORel] at h ⊢; exact ⟨h.1, h.2.sub hm⟩
theorem ORels_sub {w : World} {M M' : Nat → Prop} (hm : ∀ b, M' b → M b) : ∀ {os : List O} {vs : List Value} {bs : List Nat}, ORels w M os vs bs → ORels w M' os vs bs
  | [], vs, bs, h => by simpa [ORels] using h
  | o :: os, vs, bs, h => by
    simp only [ORels] at h ⊢
    obtain ⟨v, rest, b1, b2, h0, h00, h1, h2⟩ := h
    exact ⟨v, rest, b1, b2, h0, h00, ORel_sub h1 hm, ORels_sub hm h2⟩
theorem BoxRel_sub {w : World} {M M' : Nat → Prop} (hm : ∀ b, M' b → M b) {os : List O} {v : Value} {bs : List Nat} (h : BoxRel w M os v bs) : BoxRel w M' os v bs := by
  obtain ⟨b, c, t, b2, h1, h2, h3, h4⟩ := h
  exact ⟨b, c, t, b2, h1, h2, ORels_sub hm h3, h4⟩
theorem OutRel_sub {w : World} {M M' : Nat → Prop} (hm : ∀ b, M' b → M b) : ∀ {as : List A} {vs : List Value} {outs : List (List O)} {bs : List Nat}, OutRel w M as vs outs bs → OutRel w M' as vs outs bs
  | [], vs, outs, bs, h => by simpa [OutRel] using h
  | .v _ :: as, vs, outs, bs, h => by simp only [OutRel] at h ⊢; exact OutRel_sub hm h
  | .own _ _ :: as, vs, outs, bs, h => by simp only [OutRel] at h ⊢; exact OutRel_sub hm h
  | .box _ :: as, vs, outs, bs, h => by
    simp only [OutRel] at h ⊢
    obtain ⟨v, rest, o, os, b1, b2, h0, h00, h01, h1, h2⟩ := h
    exact ⟨v, rest, o, os, b1, b2, h0, h00, h01, BoxRel_sub hm h1, OutRel_sub hm h2⟩

/-- a contract's results, no longer one's own -/
theorem Ret.wk {Pg : Program} {f : FuncId} {args : List A} {res : R} {outs : List (List O)} (h : Ret Pg f args res outs) (hb : boxless res = true) : Ret Pg f args res.wk outs := by
  refine ⟨h.1, fun w M vals D ha hn hD hM => ?_⟩
  refine (h.2 w M vals D ha hn hD hM).mono ?_
  rintro e w' ⟨v, D1, D2, rfl, hk, ho, hr, hnd, hin⟩
  refine ⟨v, D1, [], rfl, hk, OutRel_sub (by simp; exact fun b h => h.elim .inl fun h => .inr (.inl h)) ho, ?_, by simpa using (List.nodup_append.1 hnd).1, fun b hb => hin b (by simp at hb; simp [hb])⟩
  refine RRel_wk' hb hr (by simp; exact fun b h => h.elim .inl fun h => .inr (.inl h)) ?_
  intro b hb2
  obtain ⟨g1, g2⟩ := hin b (by simp [hb2])
  refine ⟨?_, g1⟩
  rintro (hMb | hD1)
  · rcases g2 with g2 | g2
    · have := hM b hMb; omega
    · exact (hD b g2).2 hMb
  · simp only [List.append_nil] at hD1
    exact (List.nodup_append.1 hnd).2.2 b hD1 b hb2 rfl

/-- truth as a bool -/
noncomputable def tf (p : Prop) : Bool := @decide p (Classical.propDecidable p)
theorem tf_true {p : Prop} (h : p) : tf p = true := by simp [tf, h]
theorem tf_false {p : Prop} (h : ¬ p) : tf p = false := by simp [tf, h]
theorem tf_iff {p : Prop} : tf p = true ↔ p := by simp [tf]
theorem tf_not {p : Prop} : tf p = false ↔ ¬ p := by simp [tf]
theorem tf_dec {p : Prop} [Decidable p] : decide p = tf p := by
  by_cases h : p
  · rw [tf_true h]; simp [h]
  · rw [tf_false h]; simp [h]

theorem take_len_map {α : Type} (f : α → P) (l : List α) : (l.map f).take l.length = l.map f := by rw [List.take_of_length_le (by simp)]
theorem take_app_len {α : Type} (x y : List α) : (x ++ y).take (x.length + y.length) = x ++ y := by rw [List.take_of_length_le (by simp)]
theorem take_app_map {α β : Type} (f : α → P) (g : β → P) (x : List α) (y : List β) : (x.map f ++ y.map g).take (x.length + y.length) = x.map f ++ y.map g := by rw [List.take_of_length_le (by simp)]
attribute [go_sem] List.length_append take_app_len take_app_map take_len_map List.set_cons_zero List.set_cons_succ
end Go.AW
