/- What MemberMost comes to in the evaluator: true, for every list of numbers and every turn; no condition. -/
import Derived.Test.YtgnjkigknenkgaaGreatDoorEvThree
import Derived.Test.YtgnjkigknenkgaaGreatDoorTable
import Derived.KernelRfl
import Derived.Test.YtgnjkigknenkgaaGreatDoorLive
section
/- furlongref12.In, Quorum. -/
namespace Go.Ev.P
set_option maxRecDepth 100000

theorem T32 : T 32 = some (.code c32) := by kernel_rfl
theorem T34 : T 34 = some (.code c34) := by kernel_rfl

theorem quorum_ev (n : Int) (H : Heap) (clk : Nat) (h : 0 ≤ n ∧ n ≤ 2147483648) : EvC T 34 [.int .i64 n] H clk (.int .i64 (n.tdiv 2 + 1), H, clk) := by
  have ht : n.tdiv 2 = n / 2 := Int.tdiv_eq_ediv_of_nonneg h.1
  have w : wrapK .i64 (n.tdiv 2) = n.tdiv 2 := wrap64 (by rw [ht]; omega)
  have w' : wrapK .i64 (n.tdiv 2 + 1) = n.tdiv 2 + 1 := wrap64 (by rw [ht]; omega)
  refine evC_p (vs := [.int .i64 n]) T34 rfl rfl ?_ rfl
  unfold c34
  refine wp_seq (wp_run ?_)
  simp only [runO, goes, putSt, COp.map, evR, evOp, List.replicate_succ, List.replicate_zero, List.length_cons, List.length_nil, List.cons_append, List.nil_append, List.set_cons_succ, List.set_cons_zero, Nat.reduceAdd, Nat.reduceSub, Option.some.injEq, exists_eq_left']
  refine wp_seq (wp_run ?_)
  simp only [runO, goes, putSt, COp.map, evR, evOp, bin, List.getD_cons_succ, List.getD_cons_zero, List.set_cons_succ, List.set_cons_zero, Option.bind_some, Option.some.injEq, exists_eq_left', ↓reduceIte, w, w', (by decide : ((2:Int) = 0) = False)]
  exact wp_ret (endP_ret rfl)

theorem getD_set_self {env : Env} {i : Nat} {v d : AV} (h : i < env.length) : (env.set i v).getD i d = v := by
  simp [h]

/-- the state at the head of In's loop -/
def inHd (l : List Int) (n : Int) (i : Nat) : St := ⟨.sl (ints l) .unk :: .int .i64 n :: .junk :: .junk :: .junk :: .int .i64 i :: List.replicate 12 .junk, [], 1⟩

def inBody : CC := match c32.body with
  | .seq _ (.seq (.seq _ (.block _ (.loop _ b))) _) => b
  | _ => .bad

theorem in_loop (l : List Int) (n : Int) (hl : l.length ≤ 2147483648) : ∀ (k i : Nat) (s : St), i + k = l.length → headSt 0 0 [0, 1, 5] s = inHd l n i →
    WpL T 0 0 [0, 1, 5] inBody s (fun e s' => s'.H = [] ∧ ((e = .exit 0 ∧ n ∉ l.drop i ∧ s'.env.length = 18) ∨ (e = .ret ∧ n ∈ l.drop i ∧ s'.env.getD 4 .junk = .bool true)))
  | k, i, s, hk, hs => by
    refine wpL_step ?_
    rw [hs]
    unfold inHd inBody c32
    refine wp_seq (wp_seq (wp_run ?_))
    simp only [runO, goes, putSt, COp.map, evR, evOp, bin, List.replicate_succ, List.replicate_zero, List.getD_cons_succ, List.getD_cons_zero, List.set_cons_succ, List.set_cons_zero, Option.bind_some, Option.some.injEq, exists_eq_left', ↓reduceIte, ints, List.length_map]
    cases k with
    | zero =>
      have hd : decide ((i : Int) < (l.length : Int)) = false := by simp; omega
      refine wp_false (by simp only [evR, List.getD_cons_succ, List.getD_cons_zero, hd]) ?_
      refine wp_exit ⟨rfl, .inl ⟨rfl, ?_, rfl⟩⟩
      rw [List.drop_eq_nil_of_le (by omega)]; simp
    | succ k =>
      have hd : decide ((i : Int) < (l.length : Int)) = true := by simp; omega
      refine wp_true (by simp only [evR, List.getD_cons_succ, List.getD_cons_zero, hd]) ?_
      refine wp_skip (wp_seq (wp_block (wp_seq (wp_run ?_))))
      have hi : i < l.length := by omega
      have he : (ints l)[i]? = some (.int .i64 l[i]) := by simp [ints, hi]
      have hw : wrapK .i64 ((i : Int) + 1) = (i : Int) + 1 := wrap64 (by omega)
      have h0 : (0 : Int) ≤ (i : Int) := by omega
      have he' : (l.map (AV.int .i64))[(i : Int).toNat]? = some (.int .i64 l[i]) := by simp [hi]
      simp only [runO, goes, putSt, COp.map, evR, evOp, bin, asNat, getCells, flat, List.length_cons, List.length_nil, List.getD_cons_succ, List.getD_cons_zero, List.set_cons_succ, List.set_cons_zero, Option.bind_some, Nat.reduceAdd, Option.some.injEq, exists_eq_left', ↓reduceIte, he', h0]
      have hmem : n ∈ l.drop i ↔ n = l[i] ∨ n ∈ l.drop (i + 1) := by rw [List.drop_eq_getElem_cons hi]; exact List.mem_cons
      by_cases hn : l[i] = n
      · refine wp_true (by simp only [evR, List.getD_cons_succ, List.getD_cons_zero, hn, decide_true]) ?_
        refine wp_seq (wp_run ?_)
        simp only [runO, goes, putSt, COp.map, evR, evOp, List.set_cons_succ, List.set_cons_zero, Option.some.injEq, exists_eq_left']
        refine wp_ret ?_
        exact ⟨rfl, .inr ⟨rfl, hmem.2 (.inl hn.symm), rfl⟩⟩
      · refine wp_false (by simp only [evR, List.getD_cons_succ, List.getD_cons_zero, hn, decide_false]) ?_
        refine wp_skip ?_
        simp only [reduceCtorEq, if_false]
        refine wp_run ?_
        simp only [runO, goes, putSt, COp.map, evR, evOp, bin, List.getD_cons_succ, List.getD_cons_zero, List.set_cons_succ, List.set_cons_zero, Option.bind_some, Option.some.injEq, exists_eq_left', ↓reduceIte, hw]
        refine WpL.mono (in_loop l n hl k (i + 1) _ (by omega) ?_) ?_
        · rfl
        rintro e s' ⟨h1, h2⟩
        refine ⟨h1, ?_⟩
        rw [hmem]
        rcases h2 with ⟨h2, h3, h4⟩ | ⟨h2, h3, h4⟩
        · exact .inl ⟨h2, by simp [h3]; exact fun h => hn h.symm, h4⟩
        · exact .inr ⟨h2, .inr h3, h4⟩

theorem in_ev (l : List Int) (n : Int) (hl : l.length ≤ 2147483648) (x : AV) (H : Heap) (clk : Nat) (hx : view false H x = some (.sl (ints l) .unk)) : EvC T 32 [x, .int .i64 n] H clk (.bool (decide (n ∈ l)), H, clk) := by
  refine evC_p (vs := [.sl (ints l) .unk, .int .i64 n]) T32 rfl ?_ ?_ rfl
  · simp only [List.mapM_cons, hx, List.mapM_nil]; rfl
  unfold c32
  refine wp_seq (wp_run ?_)
  simp only [runO, goes, putSt, COp.map, evR, evOp, List.replicate_succ, List.replicate_zero, List.length_cons, List.length_nil, List.cons_append, List.nil_append, List.set_cons_succ, List.set_cons_zero, Nat.reduceAdd, Nat.reduceSub, Option.some.injEq, exists_eq_left', ints]
  refine wp_seq (wp_seq (wp_run ?_))
  simp only [runO, goes, putSt, COp.map, evR, evOp, List.set_cons_succ, List.set_cons_zero, Option.some.injEq, exists_eq_left']
  refine wp_block (wp_loop (WpL.mono (in_loop l n hl l.length 0 _ (by omega) ?_) ?_))
  · rfl
  rintro e ⟨env, H', clk'⟩ ⟨h1, h2⟩
  simp only [List.drop_zero] at h1 h2
  subst h1
  rcases h2 with ⟨rfl, h2, h3⟩ | ⟨rfl, h2, h3⟩
  · simp only [if_true]
    refine wp_seq (wp_run ?_)
    simp only [runO, goes, putSt, COp.map, evR, evOp, Option.some.injEq, exists_eq_left']
    refine wp_ret (endP_ret ?_)
    simp only [resOf, oneRes, getD_set_self (show 4 < env.length by omega), h2, decide_false]
    rfl
  · simp only [reduceCtorEq, if_false]
    refine endP_ret ?_
    simp only [resOf, oneRes, h3, h2, decide_true]
    rfl

end Go.Ev.P
end

section
/- slices.Values, slices.Sorted of numbers; Agreed. -/
namespace Go.Ev.P
set_option maxRecDepth 100000

theorem T28 : T 28 = some (.code c28) := by kernel_rfl
theorem T69 : T 69 = some (.code c69) := by kernel_rfl
theorem T70 : T 70 = some (.code c70) := by kernel_rfl
theorem T127 : T 127 = some (.code c127) := by kernel_rfl
theorem T128 : T 128 = some (.prim .sortI) := by kernel_rfl
theorem T129 : T 129 = some (.iter .ints) := by kernel_rfl
theorem T178 : T 178 = some (.code c178) := by kernel_rfl

def vBox (own : Bool) (l : List Int) : AO := .var ⟨own, 29, 1, [.sl (ints l) .unk], false, 0, 0⟩

theorem values_ev (l : List Int) : EvC T 70 [.sl (ints l) .unk] [] 0 (.fn 129 [.ptr 0 0 0 0], [vBox true l], 2) := by
  refine evC_i T70 (.inl rfl) ?_
  unfold c70
  refine wp_seq (wp_run ?_)
  simp only [runO, goes, putSt, COp.map, evR, evOp, flat, List.replicate_succ, List.replicate_zero, List.length_cons, List.length_nil, List.cons_append, List.nil_append, List.getD_cons_zero, List.set_cons_succ, List.set_cons_zero, Nat.reduceSub, BEq.rfl, Option.some.injEq, exists_eq_left', ↓reduceIte, ints, okEl, isCell, List.all_cons, List.all_nil, Bool.and_self, Nat.zero_add]
  refine wp_seq (wp_run ?_)
  simp only [runO, goes, putSt, COp.map, evR, evOp, List.getD_cons_succ, List.getD_cons_zero, List.set_cons_succ, List.set_cons_zero, List.map_cons, List.map_nil, Option.some.injEq, exists_eq_left']
  exact wp_ret (endI_ret _ rfl rfl)

/-- the state between two rounds -/
def sqH (l : List Int) : List Int → Heap
  | [] => [vBox false l, .var ⟨true, 29, 1, [.sl [] .nil], false, 2, 0⟩]
  | a => [vBox false l, .var ⟨true, 29, 1, [.msl 2 3 0 a.length none], false, 2, 0⟩, .var ⟨true, 2, 1, ints a, true, 3, 0⟩]

def sqC : List Int → Nat
  | [] => 3
  | _ => 5

def sqEnv (_ : List Int) : Env := [.junk, .junk, .ptr 1 2 0 0, .junk, .junk, .junk, .fn 129 [.ptr 0 0 0 0], .junk, .junk, .junk, .junk, .junk, .junk]

def sqAssign : CC := match c178.body with
  | .seq _ (.seq (.seq _ (.block _ (.rfun _ _ _ a _))) _) => a
  | _ => .bad
def sqBody : CC := match c178.body with
  | .seq _ (.seq (.seq _ (.block _ (.rfun _ _ _ _ b))) _) => b
  | _ => .bad

theorem zero_lt : (0 < 1) = True := by simp
theorem le_two : (1 ≤ mostLen) = True := by simp [mostLen]

theorem sq_rounds (l : List Int) (Q : Ex → St → Prop) : ∀ (b a : List Int), a.length + b.length ≤ 2147483648 → Q .normal ⟨sqEnv l, sqH l (a ++ b), sqC (a ++ b)⟩ →
    WpR T 1 2 [7] sqAssign sqBody (sqEnv l) (b.map fun v => [AV.int .i64 v]) (sqH l a) (sqC a) Q
  | [], a, _, hq => by rw [List.append_nil] at hq; exact wpR_nil hq
  | v :: b, a, hlen, hq => by
    rw [List.map_cons]
    refine wpR_cons ?_
    have ih := sq_rounds l Q b (a ++ [v]) (by simp at hlen ⊢; omega) (by simpa using hq)
    generalize hX : WpR T 1 2 [7] sqAssign sqBody (sqEnv l) (b.map fun v => [AV.int .i64 v]) (sqH l (a ++ [v])) (sqC (a ++ [v])) Q = X at ih
    simp only [sqEnv, setAll]
    unfold sqAssign sqBody c178
    cases a with
    | nil =>
      simp only [sqH, sqC]
      refine wp_run ?_
      simp only [runO, goes, putSt, COp.map, evR, evOp, List.length_cons, List.length_nil, List.getD_cons_succ, List.getD_cons_zero, List.set_cons_succ, List.set_cons_zero, Nat.reduceAdd, Option.some.injEq, exists_eq_left', true_and, Nat.zero_add]
      refine wp_block (wp_run ?_)
      simp only [runO, goes, putSt, COp.map, evR, evOp, getCells, flat, List.replicate_succ, List.replicate_zero, List.length_cons, List.length_nil, List.cons_append, List.nil_append, List.getD_cons_succ, List.getD_cons_zero, List.set_cons_succ, List.set_cons_zero, List.map_cons, List.map_nil, Option.bind_some, Bool.false_eq_true, Nat.reduceAdd, BEq.rfl, Bool.not_true, reduceCtorEq, Option.some.injEq, exists_eq_left', ↓reduceIte, true_and, getO, okEl, isCell, List.all_cons, List.all_nil, Bool.and_self, Nat.zero_add, Bool.and_true, List.getElem?_cons_zero, List.getElem?_cons_succ, fillE, closedL, closed, elems, append, okEls, Cp.exact, List.isEmpty_cons, putCells, le_two, gt_iff_lt, and_self, List.nil_append, Nat.lt_add_one]
      refine ⟨sqEnv l, sqH l ([] ++ [v]), sqC ([] ++ [v]), rfl, ?_⟩
      subst hX
      exact ih
    | cons x a =>
      simp only [sqH, sqC]
      refine wp_run ?_
      simp only [runO, goes, putSt, COp.map, evR, evOp, List.length_cons, List.length_nil, List.getD_cons_succ, List.getD_cons_zero, List.set_cons_succ, List.set_cons_zero, List.map_cons, Nat.reduceAdd, Option.some.injEq, exists_eq_left', ints, true_and, Nat.zero_add]
      have hm : a.length + 1 + 1 ≤ mostLen := by simp [mostLen] at hlen ⊢; omega
      have ht : List.take a.length (a.map (AV.int .i64)) = a.map (AV.int .i64) := List.take_of_length_le (by simp)
      have hn : (a.length + 1 ≤ a.length) = False := by simp
      refine wp_block (wp_run ?_)
      simp only [runO, goes, putSt, COp.map, evR, evOp, getCells, flat, List.replicate_succ, List.replicate_zero, List.length_cons, List.length_nil, List.cons_append, List.nil_append, List.getD_cons_succ, List.getD_cons_zero, List.set_cons_succ, List.set_cons_zero, List.take_succ_cons, List.map_cons, List.map_nil, Option.bind_some, Bool.false_eq_true, Nat.reduceAdd, BEq.rfl, Bool.not_true, reduceCtorEq, Option.some.injEq, exists_eq_left', ↓reduceIte, List.length_map, true_and, getO, okEl, isCell, List.all_cons, List.all_nil, Bool.and_self, Nat.zero_add, Bool.and_true, List.getElem?_cons_zero, List.getElem?_cons_succ, fillE, closedL, closed, elems, append, okEls, List.isEmpty_cons, putCells, Nat.le_refl, and_self, List.nil_append, Nat.reduceLeDiff, Nat.lt_add_one, hm, ht, hn, false_and]
      have e : sqH l (x :: a ++ [v]) = [vBox false l, .var ⟨true, 29, 1, [.msl 2 3 0 (a.length + 1 + 1) none], false, 2, 0⟩, .var ⟨true, 2, 1, AV.int .i64 x :: (a.map (AV.int .i64) ++ [AV.int .i64 v]), true, 3, 0⟩] := by
        simp [sqH, ints]
      refine ⟨sqEnv l, sqH l (x :: a ++ [v]), sqC (x :: a ++ [v]), ?_, ?_⟩
      · rw [e]; rfl
      subst hX
      exact ih

theorem freeze_box (l : List Int) (o : AO) : freeze [vBox true l, o] [0] = [vBox false l, o] := by
  cases o <;> rfl

theorem all_i64 (l : List Int) : (ints l).all isI64 = true := by
  simp [ints, isI64]

theorem appendSeq_ev (l : List Int) (hl : l.length ≤ 2147483648) (hne : l ≠ []) : EvC T 178 [.sl [] .nil, .fn 129 [.ptr 0 0 0 0]] [vBox true l] 2
    (.msl 2 2 0 l.length none, [vBox false l, .dead, .var ⟨true, 2, 1, ints l, true, 2, 0⟩], 4) := by
  refine evC_i T178 (.inl rfl) ?_
  unfold c178
  refine wp_seq (wp_run ?_)
  simp only [runO, goes, putSt, COp.map, evR, evOp, flat, List.replicate_succ, List.replicate_zero, List.length_cons, List.length_nil, List.cons_append, List.nil_append, List.getD_cons_zero, List.set_cons_succ, List.set_cons_zero, Nat.reduceAdd, Nat.reduceSub, BEq.rfl, Option.some.injEq, exists_eq_left', ↓reduceIte, ints, okEl, isCell, List.all_cons, List.all_nil, Bool.and_self, Nat.zero_add, List.nil_append]
  refine wp_seq (wp_seq (wp_run ?_))
  simp only [runO, goes, putSt, COp.map, evR, evOp, List.getD_cons_succ, List.getD_cons_zero, List.set_cons_succ, List.set_cons_zero, Option.some.injEq, exists_eq_left']
  refine wp_block (wp_rfun (fi := 129) (caps := [.ptr 0 0 0 0]) (k := .ints) (its := l.map fun v => [AV.int .i64 v]) rfl T129 ?_ ?_)
  · show items .ints [.ptr 0 0 0 0] (freeze [vBox true l, _] [0]) = _
    rw [freeze_box]
    have hb : boxed [vBox false l, AO.var ⟨true, 29, 1, [.sl [] .nil], false, 2, 0⟩] (.ptr 0 0 0 0) = some (.sl (ints l) .unk) := rfl
    have hd : decide ((ints l).length ≤ mostLen) = true := by simp [ints, mostLen]; omega
    simp only [items, hb, all_i64, hd, Bool.and_self, if_true]
    simp [ints]
  · have := sq_rounds l (Q := fun e s' => e = .normal ∧ s' = ⟨sqEnv l, sqH l l, sqC l⟩) l [] (by simp; omega) ⟨rfl, by simp⟩
    refine WpR.mono this ?_
    rintro e s' ⟨rfl, rfl⟩
    simp only [reduceCtorEq, if_false]
    refine wp_seq (wp_run ?_)
    obtain ⟨x, a, rfl⟩ : ∃ x a, l = x :: a := by cases l with | nil => exact absurd rfl hne | cons x a => exact ⟨x, a, rfl⟩
    simp only [sqH, sqEnv, sqC]
    simp only [runO, goes, putSt, COp.map, evR, evOp, getCells, List.length_cons, List.getD_cons_succ, List.getD_cons_zero, List.set_cons_succ, List.set_cons_zero, List.map_cons, Option.bind_some, Option.some.injEq, exists_eq_left', ↓reduceIte, ints, getO, List.getElem?_cons_zero, List.getElem?_cons_succ]
    exact wp_ret (endI_ret _ rfl rfl)

theorem collect_ev (l : List Int) (hl : l.length ≤ 2147483648) (hne : l ≠ []) : EvC T 127 [.fn 129 [.ptr 0 0 0 0]] [vBox true l] 2
    (.msl 2 2 0 l.length none, [vBox false l, .dead, .var ⟨true, 2, 1, ints l, true, 2, 0⟩], 4) := by
  refine evC_i T127 (.inl rfl) ?_
  unfold c127
  refine wp_seq (wp_run ?_)
  simp only [runO, goes, putSt, COp.map, evR, evOp, List.replicate_succ, List.replicate_zero, List.length_cons, List.length_nil, List.cons_append, List.nil_append, List.set_cons_succ, List.set_cons_zero, Nat.reduceSub, Option.some.injEq, exists_eq_left', ints, Nat.zero_add, List.nil_append]
  refine wp_seq (wp_reg (wo_run 1 ?_))
  simp only [runO, goes, putSt, COp.map, evR, evOp, List.getD_cons_zero, List.set_cons_succ, List.set_cons_zero, List.take_succ_cons, List.take_zero, List.drop_succ_cons, List.drop_zero, Option.some.injEq, exists_eq_left', List.drop_zero, List.take_zero]
  refine wo_call (by simp only [evR, List.getD_cons_succ, List.getD_cons_zero, List.map_cons, List.map_nil]; exact appendSeq_ev l hl hne) ?_
  refine wo_run 1 ?_
  simp only [runO, goes, putSt, COp.map, evR, evOp, List.getD_cons_succ, List.getD_cons_zero, List.set_cons_succ, List.set_cons_zero, List.take_succ_cons, List.take_zero, List.drop_succ_cons, List.drop_zero, Option.some.injEq, exists_eq_left', ints, List.drop_zero, List.take_zero]
  refine wpO_nil ?_
  exact wp_ret (endI_ret _ rfl rfl)

theorem sort_ev (l : List Int) (hl : l.length ≤ 2147483648) (hne : l ≠ []) : EvC T 128 [.msl 2 2 0 l.length none] [vBox false l, .dead, .var ⟨true, 2, 1, ints l, true, 2, 0⟩] 4
    (.tup [], [vBox false l, .dead, .var ⟨true, 2, 1, ints (sortInts l), true, 2, 1⟩], 4) := by
  refine evC_prim T128 ?_
  obtain ⟨x, a, rfl⟩ : ∃ x a, l = x :: a := by cases l with | nil => exact absurd rfl hne | cons x a => exact ⟨x, a, rfl⟩
  have hm : a.length + 1 ≤ mostLen := by simp [mostLen] at hl ⊢; omega
  have ht : List.take a.length (a.map (AV.int .i64)) = a.map (AV.int .i64) := List.take_of_length_le (by simp)
  have hd : List.drop a.length (a.map (AV.int .i64)) = [] := List.drop_eq_nil_of_le (by simp)
  have hz : ∀ a : List Int, (a.map (AV.int .i64)).mapM i64Of = some a := by
    intro a
    induction a with
    | nil => rfl
    | cons y a ih => rw [List.map_cons, List.mapM_cons, ih]; rfl
  have hz' : (AV.int .i64 x :: a.map (AV.int .i64)).mapM i64Of = some (x :: a) := hz (x :: a)
  simp only [evPrim, List.length_cons, List.nil_append, List.set_cons_succ, List.set_cons_zero, List.take_succ_cons, List.take_zero, List.drop_succ_cons, List.drop_zero, List.map_cons, ↓reduceIte, ints, List.length_map, getO, Bool.and_self, Nat.zero_add, List.getElem?_cons_zero, List.getElem?_cons_succ, Nat.le_refl, and_self, List.drop_zero, List.take_zero, List.nil_append, List.append_nil, hm, ht, hd, hz']

theorem sorted_ev (l : List Int) (hl : l.length ≤ 2147483648) (hne : l ≠ []) : EvC T 69 [.fn 129 [.ptr 0 0 0 0]] [vBox true l] 2
    (.msl 2 2 0 l.length none, [vBox false l, .dead, .var ⟨true, 2, 1, ints (sortInts l), true, 2, 0⟩], 4) := by
  refine evC_i T69 (.inl rfl) ?_
  unfold c69
  refine wp_seq (wp_run ?_)
  simp only [runO, goes, putSt, COp.map, evR, evOp, List.replicate_succ, List.replicate_zero, List.length_cons, List.length_nil, List.cons_append, List.nil_append, List.set_cons_succ, List.set_cons_zero, Nat.reduceSub, Option.some.injEq, exists_eq_left', ints, Nat.zero_add, List.nil_append]
  refine wp_seq (wp_reg (wo_run 1 ?_))
  simp only [runO, goes, putSt, COp.map, evR, evOp, List.getD_cons_zero, List.set_cons_succ, List.set_cons_zero, List.take_succ_cons, List.take_zero, List.drop_succ_cons, List.drop_zero, Option.some.injEq, exists_eq_left', List.drop_zero, List.take_zero]
  refine wo_call (by simp only [evR, List.getD_cons_succ, List.getD_cons_zero, List.map_cons, List.map_nil]; exact collect_ev l hl hne) ?_
  refine wo_run 1 ?_
  simp only [runO, goes, putSt, COp.map, evR, evOp, List.getD_cons_succ, List.getD_cons_zero, List.set_cons_succ, List.set_cons_zero, List.take_succ_cons, List.take_zero, List.drop_succ_cons, List.drop_zero, Option.some.injEq, exists_eq_left', ints, List.drop_zero, List.take_zero]
  refine wpO_nil ?_
  refine wp_seq (wp_reg (wo_run 1 ?_))
  simp only [runO, goes, putSt, COp.map, evR, evOp, List.getD_cons_succ, List.getD_cons_zero, List.set_cons_succ, List.set_cons_zero, List.take_succ_cons, List.take_zero, List.drop_succ_cons, List.drop_zero, Option.some.injEq, exists_eq_left', List.drop_zero, List.take_zero]
  refine wo_call (by simp only [evR, List.getD_cons_succ, List.getD_cons_zero, List.map_cons, List.map_nil]; exact sort_ev l hl hne) ?_
  refine wpO_nil ?_
  refine wp_seq (wp_run ?_)
  simp only [runO, goes, putSt, COp.map, evR, evOp, List.getD_cons_succ, List.getD_cons_zero, List.set_cons_succ, List.set_cons_zero, Option.some.injEq, exists_eq_left', ints]
  exact wp_ret (endI_ret _ rfl rfl)

/-- upon what they agree -/
def agreed (l : List Int) : Int := (sortInts l).getD (l.length - (l.length / 2 + 1)) 0

theorem agreed_ev (l : List Int) (hl : l.length ≤ 2147483648) (hne : l ≠ []) (x : AV) (H : Heap) (clk : Nat) (hx : view false H x = some (.sl (ints l) .unk)) : EvC T 28 [x] H clk (.int .i64 (agreed l), H, clk) := by
  have hpos : 0 < l.length := List.length_pos_iff.2 hne
  refine evC_p (vs := [.sl (ints l) .unk]) T28 rfl ?_ ?_ rfl
  · simp only [List.mapM_cons, hx, List.mapM_nil]; rfl
  unfold c28
  refine wp_seq (wp_run ?_)
  simp only [runO, goes, putSt, COp.map, evR, evOp, List.replicate_succ, List.replicate_zero, List.length_cons, List.length_nil, List.cons_append, List.nil_append, List.set_cons_succ, List.set_cons_zero, Nat.reduceSub, Option.some.injEq, exists_eq_left', ints, Nat.zero_add, List.nil_append]
  refine wp_seq (wp_seq (wp_run ?_))
  simp only [runO, goes, putSt, COp.map, evR, evOp, bin, List.getD_cons_succ, List.getD_cons_zero, List.set_cons_succ, List.set_cons_zero, Option.bind_some, Option.some.injEq, exists_eq_left', ↓reduceIte, List.length_map]
  refine wp_false ?_ (wp_skip ?_)
  · simp only [evR, List.getD_cons_succ, List.getD_cons_zero]
    rw [decide_eq_false]
    omega
  refine wp_seq (wp_reg (wo_run 1 ?_))
  simp only [runO, goes, putSt, COp.map, evR, evOp, List.getD_cons_zero, List.set_cons_succ, List.set_cons_zero, List.take_succ_cons, List.take_zero, List.drop_succ_cons, List.drop_zero, Option.some.injEq, exists_eq_left', List.drop_zero, List.take_zero]
  refine wo_call (by simp only [evR, List.getD_cons_succ, List.getD_cons_zero, List.map_cons, List.map_nil]; exact values_ev l) ?_
  simp only [putSt, List.set_cons_succ, List.set_cons_zero]
  refine wo_call (by simp only [evR, List.getD_cons_succ, List.getD_cons_zero, List.map_cons, List.map_nil]; exact sorted_ev l hl hne) ?_
  refine wo_run 4 ?_
  simp only [runO, goes, putSt, COp.map, evR, evOp, List.getD_cons_succ, List.getD_cons_zero, List.set_cons_succ, List.set_cons_zero, List.take_succ_cons, List.take_zero, List.drop_succ_cons, List.drop_zero, Option.some.injEq, exists_eq_left', ints, List.length_map, List.drop_zero, List.take_zero]
  refine wo_call (by simp only [evR, List.getD_cons_succ, List.getD_cons_zero, List.map_cons, List.map_nil]; exact quorum_ev l.length _ _ (by omega)) ?_
  refine wo_run 4 ?_
  have ht : (l.length : Int).tdiv 2 = ((l.length / 2 : Nat) : Int) := by rw [Int.tdiv_eq_ediv_of_nonneg (by omega)]; simp
  have hs : (l.length : Int) - (((l.length / 2 : Nat) : Int) + 1) = ((l.length - (l.length / 2 + 1) : Nat) : Int) := by omega
  have hw : wrapK .i64 ((l.length - (l.length / 2 + 1) : Nat) : Int) = ((l.length - (l.length / 2 + 1) : Nat) : Int) := wrap64 (by omega)
  have hi : l.length - (l.length / 2 + 1) < l.length := by omega
  have h0 : (0 : Int) ≤ ((l.length - (l.length / 2 + 1) : Nat) : Int) := by omega
  have he : (List.map (AV.int .i64) (sortInts l))[l.length - (l.length / 2 + 1)]? = some (.int .i64 (agreed l)) := by
    have : l.length - (l.length / 2 + 1) < (sortInts l).length := by rw [sortInts_length]; exact hi
    simp [agreed, this]
  simp only [runO, goes, putSt, COp.map, evR, evOp, bin, asNat, getCells, List.getD_cons_succ, List.getD_cons_zero, List.set_cons_succ, List.set_cons_zero, List.take_succ_cons, List.take_zero, List.drop_succ_cons, List.drop_zero, Option.bind_some, Option.some.injEq, exists_eq_left', ↓reduceIte, Int.toNat_natCast, getO, Nat.zero_add, List.getElem?_cons_zero, List.getElem?_cons_succ, List.drop_zero, List.take_zero, ht, hs, hw, h0, hi, Int.toNat_natCast, he]
  refine wpO_nil ?_
  refine wp_ret (endP_ret ?_)
  rfl

end Go.Ev.P
end

section
/- MemberMost: what the code comes to. -/
namespace Go.Ev.P
set_option maxRecDepth 100000

theorem T7 : T 7 = some (.code c7) := by kernel_rfl
theorem T20 : T 20 = some (.code c20) := by kernel_rfl

theorem call_any {T : Tbl} {f n : Nat} {cf : CF} (hT : T f = some (.code cf)) (hi : cf.inl = false) {b : Bool} {H0 : Heap} {c : Nat} (h : evCall T (n + 1) f [] [] 0 = some (.bool b, H0, c)) (H : Heap) (clk : Nat) : EvC T f [] H clk (.bool b, H, clk) := by
  refine ⟨n + 1, ?_⟩
  have ha : ∀ H : Heap, after (.bool b) [] H = some H := fun H => by simp only [after, scalar, if_true]
  have h2 : ∀ H : Heap, ([] : List AV).mapM (view false H) = some [] := fun H => rfl
  rw [evCall] at h ⊢
  simp only [hT, hi, Bool.false_eq_true, if_false, h2] at h ⊢
  split at h
  all_goals first
    | (split at h
       · rename_i v hv
         cases hv' : after v [] [] with
         | none => rw [hv'] at h; cases h
         | some H1 =>
           rw [hv'] at h
           simp only [Option.map_some, Option.some.injEq, Prod.mk.injEq] at h
           obtain ⟨rfl, rfl, rfl⟩ := h
           simp only [ha, Option.map_some]
       · cases h)
    | cases h

theorem isTrue_some {v : AV} {H : Heap} {c : Nat} (h : isTrue (some (v, H, c)) = true) : v = .bool true := by
  cases v <;> simp_all [isTrue]

theorem live_ev (H : Heap) (clk : Nat) : EvC T 20 [] H clk (.bool true, H, clk) := by
  have h := live20
  cases he : evCall T 10000 20 [] [] 0 with
  | none => rw [he] at h; cases h
  | some r =>
    obtain ⟨v, H0, c⟩ := r
    rw [he] at h
    obtain rfl := isTrue_some h
    exact call_any T20 rfl he H clk

/-- the list turned -/
def turned (l : List Int) (k i : Nat) : List Int := (List.range i).map fun j => l.getD ((j + k % l.length) % l.length) 0

def tuSl (_ : List Int) (_ : Nat) : Nat → AV
  | 0 => .sl [] .nil
  | i + 1 => .msl 0 0 0 (i + 1) none
def tuH (l : List Int) (k : Nat) : Nat → Heap
  | 0 => []
  | i + 1 => [.var ⟨true, 2, 1, ints (turned l k (i + 1)), true, 0, 0⟩]
def tuC : Nat → Nat
  | 0 => 1
  | _ + 1 => 2

def least (l : List Int) (n : Int) (i : Nat) : Nat := (l.take i).countP fun x => decide (n ≤ x)
def more (l : List Int) (n : Int) (i : Nat) : Nat := (l.take i).countP fun x => decide (n < x)

theorem take_next {l : List Int} {i : Nat} (h : i < l.length) (p : Int → Bool) : (l.take (i + 1)).countP p = (l.take i).countP p + if p l[i] then 1 else 0 := by
  rw [List.take_add_one, List.countP_append]
  simp [h, List.countP_cons]

theorem get_ints {l : List Int} {r : Nat} (hr : r < l.length) : (l.map (AV.int .i64))[r]? = some (.int .i64 (l.getD r 0)) := by simp [hr]

def moHd (l : List Int) (k : Nat) (n : Int) (i : Nat) : St :=
  ⟨.sl (ints l) .unk :: .int .i64 k :: .junk :: .junk :: .junk :: .int .i64 n :: tuSl l k i :: .int .i64 (least l n i : Nat) :: .int .i64 (more l n i : Nat) :: .int .i64 i :: List.replicate 78 .junk, tuH l k i, tuC i⟩

def moBody : CC := match c7.body with
  | .seq _ (.seq _ (.seq _ (.seq _ (.seq _ (.seq (.seq _ (.block _ (.loop _ b))) _))))) => b
  | _ => .bad

set_option maxHeartbeats 2000000 in
theorem most_loop (l : List Int) (k : Nat) (n : Int) (hl : 0 < l.length ∧ l.length ≤ 40) : ∀ (d i : Nat) (s : St), i + d = l.length → headSt 0 0 [0, 1, 5, 6, 7, 8, 9] s = moHd l k n i →
    WpL T 0 0 [0, 1, 5, 6, 7, 8, 9] moBody s (fun e s' => e = .exit 0 ∧ ∃ a b c d, s' = ⟨(moHd l k n l.length).env.set 25 a |>.set 26 b |>.set 27 c |>.set 28 d, tuH l k l.length, tuC l.length⟩)
  | d, i, s, hd, hs => by
    refine wpL_step ?_
    rw [hs]
    unfold moHd moBody c7
    refine wp_seq (wp_seq (wp_run ?_))
    simp only [runO, goes, putSt, COp.map, evR, evOp, bin, List.replicate_succ, List.replicate_zero, List.getD_cons_succ, List.getD_cons_zero, List.set_cons_succ, List.set_cons_zero, Option.bind_some, Option.some.injEq, exists_eq_left', ↓reduceIte, ints, List.length_map]
    cases d with
    | zero =>
      have hd' : decide ((i : Int) < (l.length : Int)) = false := by simp; omega
      refine wp_false (by simp only [evR, List.getD_cons_succ, List.getD_cons_zero, hd']) ?_
      obtain rfl : i = l.length := by omega
      refine wp_exit ⟨rfl, _, _, _, _, rfl⟩
    | succ d =>
      have hd' : decide ((i : Int) < (l.length : Int)) = true := by simp; omega
      refine wp_true (by simp only [evR, List.getD_cons_succ, List.getD_cons_zero, hd']) ?_
      refine wp_skip (wp_seq (wp_block (wp_seq (wp_run ?_))))
      have hi : i < l.length := by omega
      have hlz : ((l.length : Int) = 0) = False := eq_false (by omega)
      have hk1 : (k : Int).tmod (l.length : Int) = ((k % l.length : Nat) : Int) := by rw [Int.tmod_eq_emod_of_nonneg (by omega)]; simp
      have hkl : k % l.length < l.length := Nat.mod_lt _ hl.1
      have hw1 : wrapK .i64 ((i : Int) + ((k % l.length : Nat) : Int)) = ((i + k % l.length : Nat) : Int) := by rw [wrap64 (by omega)]; simp
      have hk2 : ((i + k % l.length : Nat) : Int).tmod (l.length : Int) = (((i + k % l.length) % l.length : Nat) : Int) := by rw [Int.tmod_eq_emod_of_nonneg (by omega)]; simp
      have hr : (i + k % l.length) % l.length < l.length := Nat.mod_lt _ hl.1
      have hr0 : (0 : Int) ≤ (((i + k % l.length) % l.length : Nat) : Int) := by omega
      have h0 : (0 : Int) ≤ (i : Int) := by omega
      have he1 : (l.map (AV.int .i64))[(i + k % l.length) % l.length]? = some (.int .i64 (l.getD ((i + k % l.length) % l.length) 0)) := get_ints hr
      have he2 : (l.map (AV.int .i64))[i]? = some (.int .i64 l[i]) := by simp [hi]
      have hlb : least l n i ≤ 40 := Nat.le_trans List.countP_le_length (by simp; omega)
      have hmb : more l n i ≤ 40 := Nat.le_trans List.countP_le_length (by simp; omega)
      have hwl : wrapK .i64 ((least l n i : Int) + 1) = (((least l n i + 1 : Nat)) : Int) := by rw [wrap64 (by omega)]; simp
      have hwm : wrapK .i64 ((more l n i : Int) + 1) = (((more l n i + 1 : Nat)) : Int) := by rw [wrap64 (by omega)]; simp
      have hwi : wrapK .i64 ((i : Int) + 1) = ((i + 1 : Nat) : Int) := by rw [wrap64 (by omega)]; simp
      have hturn : ints (turned l k (i + 1)) = ints (turned l k i) ++ [.int .i64 (l.getD ((i + k % l.length) % l.length) 0)] := by
        simp [turned, List.range_succ, ints]
      rcases Nat.eq_zero_or_pos i with h | h
      · have t1 : tuSl l k i = .sl [] .nil := by subst h; rfl
        have t2 : tuH l k i = [] := by subst h; rfl
        have t3 : tuC i = 1 := by subst h; rfl
        have t4 : turned l k i = [] := by subst h; rfl
        rw [t4] at hturn
        simp only [t1, t2, t3]
        simp only [runO, goes, putSt, COp.map, evR, evOp, bin, asNat, getCells, flat, List.replicate_succ, List.replicate_zero, List.length_cons, List.length_nil, List.nil_append, List.getD_cons_succ, List.getD_cons_zero, List.set_cons_succ, List.set_cons_zero, List.map_cons, List.map_nil, Option.bind_some, Bool.false_eq_true, Nat.reduceAdd, BEq.rfl, Bool.not_true, Option.some.injEq, exists_eq_left', ↓reduceIte, List.length_map, Int.toNat_natCast, okEl, isCell, List.all_cons, List.all_nil, Bool.and_self, Nat.zero_add, fillE, closedL, closed, elems, append, okEls, Cp.exact, List.isEmpty_cons, le_two, gt_iff_lt, and_self, List.nil_append, Nat.lt_add_one, le_two, hlz, hk1, hw1, hk2, Int.toNat_natCast, hr0, he1]
        by_cases h1 : n ≤ l[i]
        · have e1 : least l n (i + 1) = least l n i + 1 := by rw [least, least, take_next hi]; simp [h1]
          refine wp_seq (wp_seq (wp_run ?_))
          simp only [runO, goes, putSt, COp.map, evR, evOp, bin, asNat, getCells, flat, List.length_cons, List.length_nil, List.getD_cons_succ, List.getD_cons_zero, List.set_cons_succ, List.set_cons_zero, Option.bind_some, Option.some.injEq, exists_eq_left', ↓reduceIte, Int.toNat_natCast, Nat.zero_add, he2, h0]
          refine wp_true (by simp only [evR, List.getD_cons_succ, List.getD_cons_zero, decide_true, h1]) (wp_run ?_)
          simp only [runO, goes, putSt, COp.map, evR, evOp, bin, List.getD_cons_succ, List.getD_cons_zero, List.set_cons_succ, List.set_cons_zero, Option.bind_some, Option.some.injEq, exists_eq_left', ↓reduceIte, hwl]
          by_cases h2 : n < l[i]
          · have e2 : more l n (i + 1) = more l n i + 1 := by rw [more, more, take_next hi]; simp [h2]
            refine wp_seq (wp_run ?_)
            simp only [runO, goes, putSt, COp.map, evR, evOp, bin, asNat, getCells, flat, List.length_cons, List.length_nil, List.getD_cons_succ, List.getD_cons_zero, List.set_cons_succ, List.set_cons_zero, Option.bind_some, Option.some.injEq, exists_eq_left', ↓reduceIte, Int.toNat_natCast, Nat.zero_add, he2, h0]
            refine wp_true (by simp only [evR, List.getD_cons_succ, List.getD_cons_zero, decide_true, h2]) (wp_run ?_)
            simp only [runO, goes, putSt, COp.map, evR, evOp, bin, List.getD_cons_succ, List.getD_cons_zero, List.set_cons_succ, List.set_cons_zero, Option.bind_some, reduceCtorEq, Option.some.injEq, exists_eq_left', ↓reduceIte, hwm]
            refine wp_run ?_
            simp only [runO, goes, putSt, COp.map, evR, evOp, bin, List.getD_cons_succ, List.getD_cons_zero, List.set_cons_succ, List.set_cons_zero, Option.bind_some, Option.some.injEq, exists_eq_left', ↓reduceIte, hwi]
            refine most_loop l k n hl d (i + 1) _ (by omega) ?_
            unfold moHd
            simp only [e1, e2, tuSl, tuH, tuC, hturn]
            subst h; rfl
          · have e2 : more l n (i + 1) = more l n i := by rw [more, more, take_next hi]; simp [h2]
            refine wp_seq (wp_run ?_)
            simp only [runO, goes, putSt, COp.map, evR, evOp, bin, asNat, getCells, flat, List.length_cons, List.length_nil, List.getD_cons_succ, List.getD_cons_zero, List.set_cons_succ, List.set_cons_zero, Option.bind_some, Option.some.injEq, exists_eq_left', ↓reduceIte, Int.toNat_natCast, Nat.zero_add, he2, h0]
            refine wp_false (by simp only [evR, List.getD_cons_succ, List.getD_cons_zero, decide_false, h2]) (wp_skip ?_)
            refine wp_run ?_
            simp only [runO, goes, putSt, COp.map, evR, evOp, bin, List.getD_cons_succ, List.getD_cons_zero, List.set_cons_succ, List.set_cons_zero, Option.bind_some, Option.some.injEq, exists_eq_left', ↓reduceIte, hwi]
            refine most_loop l k n hl d (i + 1) _ (by omega) ?_
            unfold moHd
            simp only [e1, e2, tuSl, tuH, tuC, hturn]
            subst h; rfl
        · have e1 : least l n (i + 1) = least l n i := by rw [least, least, take_next hi]; simp [h1]
          have e2 : more l n (i + 1) = more l n i := by rw [more, more, take_next hi]; simp; omega
          have h2 : ¬ n < l[i] := by omega
          refine wp_seq (wp_seq (wp_run ?_))
          simp only [runO, goes, putSt, COp.map, evR, evOp, bin, asNat, getCells, flat, List.length_cons, List.length_nil, List.getD_cons_succ, List.getD_cons_zero, List.set_cons_succ, List.set_cons_zero, Option.bind_some, Option.some.injEq, exists_eq_left', ↓reduceIte, Int.toNat_natCast, Nat.zero_add, he2, h0]
          refine wp_false (by simp only [evR, List.getD_cons_succ, List.getD_cons_zero, decide_false, h1]) (wp_skip ?_)
          refine wp_seq (wp_run ?_)
          simp only [runO, goes, putSt, COp.map, evR, evOp, bin, asNat, getCells, flat, List.length_cons, List.length_nil, List.getD_cons_succ, List.getD_cons_zero, List.set_cons_succ, List.set_cons_zero, Option.bind_some, Option.some.injEq, exists_eq_left', ↓reduceIte, Int.toNat_natCast, Nat.zero_add, he2, h0]
          refine wp_false (by simp only [evR, List.getD_cons_succ, List.getD_cons_zero, decide_false, h2]) (wp_skip ?_)
          refine wp_run ?_
          simp only [runO, goes, putSt, COp.map, evR, evOp, bin, List.getD_cons_succ, List.getD_cons_zero, List.set_cons_succ, List.set_cons_zero, Option.bind_some, Option.some.injEq, exists_eq_left', ↓reduceIte, hwi]
          refine most_loop l k n hl d (i + 1) _ (by omega) ?_
          unfold moHd
          simp only [e1, e2, tuSl, tuH, tuC, hturn]
          subst h; rfl
      · have t1 : tuSl l k i = .msl 0 0 0 i none := by cases i with | zero => omega | succ i => rfl
        have t2 : tuH l k i = [.var ⟨true, 2, 1, ints (turned l k i), true, 0, 0⟩] := by cases i with | zero => omega | succ i => rfl
        have t3 : tuC i = 2 := by cases i with | zero => omega | succ i => rfl
        have t4 : (turned l k i).length = i := by simp [turned]
        have t5 : (i + 1 ≤ i) = False := by simp
        have t6 : i + 1 ≤ mostLen := by simp [mostLen]; omega
        have t7 : List.take i ((turned l k i).map (AV.int .i64)) = (turned l k i).map (AV.int .i64) := List.take_of_length_le (by simp [t4])
        simp only [t1, t2, t3]
        simp only [runO, goes, putSt, COp.map, evR, evOp, bin, asNat, getCells, flat, List.replicate_succ, List.replicate_zero, List.length_cons, List.length_nil, List.cons_append, List.nil_append, List.getD_cons_succ, List.getD_cons_zero, List.set_cons_succ, List.set_cons_zero, List.map_cons, List.map_nil, Option.bind_some, Bool.false_eq_true, Nat.reduceAdd, BEq.rfl, Bool.not_true, Option.some.injEq, exists_eq_left', ↓reduceIte, ints, List.length_map, Int.toNat_natCast, getO, okEl, isCell, List.all_cons, List.all_nil, Bool.and_self, Nat.zero_add, List.getElem?_cons_zero, fillE, closedL, closed, elems, append, okEls, List.isEmpty_cons, Nat.le_refl, and_self, List.nil_append, Nat.lt_add_one, hlz, hk1, hw1, hk2, Int.toNat_natCast, hr0, he1, t4, t5, t6, t7, false_and]
        by_cases h1 : n ≤ l[i]
        · have e1 : least l n (i + 1) = least l n i + 1 := by rw [least, least, take_next hi]; simp [h1]
          refine wp_seq (wp_seq (wp_run ?_))
          simp only [runO, goes, putSt, COp.map, evR, evOp, bin, asNat, getCells, flat, List.length_cons, List.length_nil, List.getD_cons_succ, List.getD_cons_zero, List.set_cons_succ, List.set_cons_zero, Option.bind_some, Option.some.injEq, exists_eq_left', ↓reduceIte, Int.toNat_natCast, Nat.zero_add, he2, h0]
          refine wp_true (by simp only [evR, List.getD_cons_succ, List.getD_cons_zero, decide_true, h1]) (wp_run ?_)
          simp only [runO, goes, putSt, COp.map, evR, evOp, bin, List.getD_cons_succ, List.getD_cons_zero, List.set_cons_succ, List.set_cons_zero, Option.bind_some, Option.some.injEq, exists_eq_left', ↓reduceIte, hwl]
          by_cases h2 : n < l[i]
          · have e2 : more l n (i + 1) = more l n i + 1 := by rw [more, more, take_next hi]; simp [h2]
            refine wp_seq (wp_run ?_)
            simp only [runO, goes, putSt, COp.map, evR, evOp, bin, asNat, getCells, flat, List.length_cons, List.length_nil, List.getD_cons_succ, List.getD_cons_zero, List.set_cons_succ, List.set_cons_zero, Option.bind_some, Option.some.injEq, exists_eq_left', ↓reduceIte, Int.toNat_natCast, Nat.zero_add, he2, h0]
            refine wp_true (by simp only [evR, List.getD_cons_succ, List.getD_cons_zero, decide_true, h2]) (wp_run ?_)
            simp only [runO, goes, putSt, COp.map, evR, evOp, bin, List.getD_cons_succ, List.getD_cons_zero, List.set_cons_succ, List.set_cons_zero, Option.bind_some, reduceCtorEq, Option.some.injEq, exists_eq_left', ↓reduceIte, hwm]
            refine wp_run ?_
            simp only [runO, goes, putSt, COp.map, evR, evOp, bin, List.getD_cons_succ, List.getD_cons_zero, List.set_cons_succ, List.set_cons_zero, Option.bind_some, Option.some.injEq, exists_eq_left', ↓reduceIte, hwi]
            refine most_loop l k n hl d (i + 1) _ (by omega) ?_
            unfold moHd
            simp only [e1, e2, tuSl, tuH, tuC, hturn]
            rfl
          · have e2 : more l n (i + 1) = more l n i := by rw [more, more, take_next hi]; simp [h2]
            refine wp_seq (wp_run ?_)
            simp only [runO, goes, putSt, COp.map, evR, evOp, bin, asNat, getCells, flat, List.length_cons, List.length_nil, List.getD_cons_succ, List.getD_cons_zero, List.set_cons_succ, List.set_cons_zero, Option.bind_some, Option.some.injEq, exists_eq_left', ↓reduceIte, Int.toNat_natCast, Nat.zero_add, he2, h0]
            refine wp_false (by simp only [evR, List.getD_cons_succ, List.getD_cons_zero, decide_false, h2]) (wp_skip ?_)
            refine wp_run ?_
            simp only [runO, goes, putSt, COp.map, evR, evOp, bin, List.getD_cons_succ, List.getD_cons_zero, List.set_cons_succ, List.set_cons_zero, Option.bind_some, Option.some.injEq, exists_eq_left', ↓reduceIte, hwi]
            refine most_loop l k n hl d (i + 1) _ (by omega) ?_
            unfold moHd
            simp only [e1, e2, tuSl, tuH, tuC, hturn]
            rfl
        · have e1 : least l n (i + 1) = least l n i := by rw [least, least, take_next hi]; simp [h1]
          have e2 : more l n (i + 1) = more l n i := by rw [more, more, take_next hi]; simp; omega
          have h2 : ¬ n < l[i] := by omega
          refine wp_seq (wp_seq (wp_run ?_))
          simp only [runO, goes, putSt, COp.map, evR, evOp, bin, asNat, getCells, flat, List.length_cons, List.length_nil, List.getD_cons_succ, List.getD_cons_zero, List.set_cons_succ, List.set_cons_zero, Option.bind_some, Option.some.injEq, exists_eq_left', ↓reduceIte, Int.toNat_natCast, Nat.zero_add, he2, h0]
          refine wp_false (by simp only [evR, List.getD_cons_succ, List.getD_cons_zero, decide_false, h1]) (wp_skip ?_)
          refine wp_seq (wp_run ?_)
          simp only [runO, goes, putSt, COp.map, evR, evOp, bin, asNat, getCells, flat, List.length_cons, List.length_nil, List.getD_cons_succ, List.getD_cons_zero, List.set_cons_succ, List.set_cons_zero, Option.bind_some, Option.some.injEq, exists_eq_left', ↓reduceIte, Int.toNat_natCast, Nat.zero_add, he2, h0]
          refine wp_false (by simp only [evR, List.getD_cons_succ, List.getD_cons_zero, decide_false, h2]) (wp_skip ?_)
          refine wp_run ?_
          simp only [runO, goes, putSt, COp.map, evR, evOp, bin, List.getD_cons_succ, List.getD_cons_zero, List.set_cons_succ, List.set_cons_zero, Option.bind_some, Option.some.injEq, exists_eq_left', ↓reduceIte, hwi]
          refine most_loop l k n hl d (i + 1) _ (by omega) ?_
          unfold moHd
          simp only [e1, e2, tuSl, tuH, tuC, hturn]
          rfl

end Go.Ev.P
end

section
/- MemberMost: the code's answer. -/
namespace Go.Ev.P
set_option maxRecDepth 100000

set_option maxHeartbeats 2000000 in
theorem most_ev (l : List Int) (k : Nat) (hl : 0 < l.length ∧ l.length ≤ 40) (hA : l.length < 2 * least l (agreed l) l.length) (hB : 2 * more l (agreed l) l.length ≤ l.length) (hC : agreed l ∈ l)
    (hD : agreed (turned l k l.length) = agreed l) (H : Heap) (clk : Nat) (x : AV) (hx : view false H x = some (.sl (ints l) .unk)) : EvC T 7 [x, .int .i64 k] H clk (.bool true, H, clk) := by
  have hne : l ≠ [] := List.length_pos_iff.1 hl.1
  refine evC_p (vs := [.sl (ints l) .unk, .int .i64 k]) T7 rfl ?_ ?_ rfl
  · simp only [List.mapM_cons, hx, List.mapM_nil]; rfl
  unfold c7
  refine wp_seq (wp_run ?_)
  simp only [runO, goes, putSt, COp.map, evR, evOp, List.replicate_succ, List.replicate_zero, List.length_cons, List.length_nil, List.cons_append, List.nil_append, List.set_cons_succ, List.set_cons_zero, Nat.reduceAdd, Nat.reduceSub, Option.some.injEq, exists_eq_left', ints, Nat.zero_add, List.nil_append]
  have d1 : decide ((40 : Int) < (l.length : Int)) = false := by rw [decide_eq_false]; omega
  have d2 : decide ((l.length : Int) = 0) = false := by rw [decide_eq_false]; omega
  have d3 : decide ((k : Int) < 0) = false := by rw [decide_eq_false]; omega
  refine wp_seq (wp_seq (wp_run ?_))
  simp only [runO, goes, putSt, COp.map, evR, evOp, bin, List.getD_cons_succ, List.getD_cons_zero, List.set_cons_succ, List.set_cons_zero, Option.bind_some, BEq.rfl, Option.some.injEq, exists_eq_left', ↓reduceIte, List.length_map, d1, d2, d3]
  refine wp_false (by simp only [evR, List.getD_cons_succ, List.getD_cons_zero]) (wp_skip ?_)
  refine wp_seq (wp_reg (wo_run 1 ?_))
  simp only [runO, goes, putSt, COp.map, evR, evOp, List.getD_cons_zero, List.set_cons_succ, List.set_cons_zero, List.take_succ_cons, List.take_zero, List.drop_succ_cons, List.drop_zero, Option.some.injEq, exists_eq_left', List.drop_zero, List.take_zero]
  refine wo_call (by simp only [evR, List.getD_cons_succ, List.getD_cons_zero, List.map_cons, List.map_nil]; exact agreed_ev l (by omega) hne _ _ _ rfl) ?_
  refine wo_run 1 ?_
  simp only [runO, goes, putSt, COp.map, evR, evOp, List.getD_cons_succ, List.getD_cons_zero, List.set_cons_succ, List.set_cons_zero, List.take_succ_cons, List.take_zero, List.drop_succ_cons, List.drop_zero, Option.some.injEq, exists_eq_left', List.drop_zero, List.take_zero]
  refine wpO_nil ?_
  refine wp_seq (wp_run ?_)
  simp only [runO, goes, putSt, COp.map, evR, evOp, List.set_cons_succ, List.set_cons_zero, Option.some.injEq, exists_eq_left']
  refine wp_seq (wp_run ?_)
  simp only [runO, goes, putSt, COp.map, evR, evOp, List.set_cons_succ, List.set_cons_zero, Option.some.injEq, exists_eq_left']
  refine wp_seq (wp_seq (wp_run ?_))
  simp only [runO, goes, putSt, COp.map, evR, evOp, List.set_cons_succ, List.set_cons_zero, Option.some.injEq, exists_eq_left']
  refine wp_block (wp_loop (WpL.mono (most_loop l k (agreed l) hl l.length 0 _ (by omega) ?_) ?_))
  · rfl
  rintro e s' ⟨rfl, a, b, c, d, rfl⟩
  simp only [if_true]
  have hlb : least l (agreed l) l.length ≤ 40 := Nat.le_trans List.countP_le_length (by simp; omega)
  have hmb : more l (agreed l) l.length ≤ 40 := Nat.le_trans List.countP_le_length (by simp; omega)
  have hw1 : wrapK .i64 (2 * (least l (agreed l) l.length : Int)) = 2 * (least l (agreed l) l.length : Int) := wrap64 (by omega)
  have hw2 : wrapK .i64 (2 * (more l (agreed l) l.length : Int)) = 2 * (more l (agreed l) l.length : Int) := wrap64 (by omega)
  have c1 : decide ((l.length : Int) < 2 * (least l (agreed l) l.length : Int)) = true := by rw [decide_eq_true]; omega
  have c2 : decide (2 * (more l (agreed l) l.length : Int) ≤ (l.length : Int)) = true := by rw [decide_eq_true]; omega
  have c3 : decide (agreed l ∈ l) = true := decide_eq_true hC
  obtain ⟨L, hL⟩ : ∃ L, l.length = L + 1 := ⟨l.length - 1, by omega⟩
  have t1 : tuSl l k l.length = .msl 0 0 0 l.length none := by rw [hL]; rfl
  have t2 : tuH l k l.length = [.var ⟨true, 2, 1, ints (turned l k l.length), true, 0, 0⟩] := by rw [hL]; rfl
  have t4 : (turned l k l.length).length = l.length := by simp [turned]
  have hv : ∀ n : Nat, view false [.var ⟨true, 2, 1, ints (turned l k l.length), true, 0, 0⟩] (.msl 0 0 0 l.length none) = some (.sl (ints (turned l k l.length)) .unk) := by
    intro _
    have : List.take l.length (ints (turned l k l.length)) = ints (turned l k l.length) := List.take_of_length_le (by simp [t4])
    simp only [view, viewF, getO, List.getElem?_cons_zero, if_true, ints, List.length_map, t4, Nat.zero_add, Nat.le_refl, Bool.false_and, and_self, List.drop_zero]
    rw [this]
  unfold moHd
  refine wp_seq (wp_reg (wo_run 15 ?_))
  simp only [runO, goes, putSt, COp.map, evR, evOp, bin, List.replicate_succ, List.replicate_zero, List.getD_cons_succ, List.getD_cons_zero, List.set_cons_succ, List.set_cons_zero, List.take_succ_cons, List.take_zero, List.drop_succ_cons, List.drop_zero, Option.bind_some, BEq.rfl, Option.some.injEq, exists_eq_left', ↓reduceIte, ints, List.length_map, List.drop_zero, List.take_zero, hw1, hw2, c1, c2]
  refine wo_guard (b := true) rfl ?_
  simp only [BEq.rfl, if_true]
  refine wo_call (by simp only [evR, List.getD_cons_succ, List.getD_cons_zero, List.map_cons, List.map_nil]; exact in_ev l (agreed l) (by omega) _ _ _ rfl) ?_
  simp only [c3]
  refine wo_run 3 ?_
  simp only [runO, goes, putSt, COp.map, evR, evOp, List.getD_cons_succ, List.getD_cons_zero, List.set_cons_succ, List.set_cons_zero, List.take_succ_cons, List.take_zero, List.drop_succ_cons, List.drop_zero, BEq.rfl, Option.some.injEq, exists_eq_left', List.drop_zero, List.take_zero]
  refine wo_guard (b := true) rfl ?_
  simp only [BEq.rfl, if_true]
  refine wo_call (by simp only [evR, List.getD_cons_succ, List.getD_cons_zero, List.map_cons, List.map_nil, ints, t1, t2]; exact agreed_ev (turned l k l.length) (by omega) (by intro h; rw [h] at t4; simp at t4; omega) _ _ _ (hv 0)) ?_
  rw [hD]
  refine wo_run 4 ?_
  simp only [runO, goes, putSt, COp.map, evR, evOp, bin, List.getD_cons_succ, List.getD_cons_zero, List.set_cons_succ, List.set_cons_zero, List.take_succ_cons, List.take_zero, List.drop_succ_cons, List.drop_zero, Option.bind_some, BEq.rfl, Option.some.injEq, exists_eq_left', ↓reduceIte, decide_true, List.drop_zero, List.take_zero]
  refine wo_guard (b := true) rfl ?_
  simp only [BEq.rfl, if_true]
  refine wo_call (by simp only [List.map_nil]; exact live_ev _ _) ?_
  refine wo_run 2 ?_
  simp only [runO, goes, putSt, COp.map, evR, evOp, List.getD_cons_succ, List.getD_cons_zero, List.set_cons_succ, List.set_cons_zero, List.take_succ_cons, List.take_zero, List.drop_succ_cons, List.drop_zero, Option.some.injEq, exists_eq_left', List.drop_zero, List.take_zero]
  refine wpO_nil ?_
  exact wp_ret (endP_ret rfl)

/-- where it asks the program itself -/
theorem most_live (l : List Int) (k : Int) (hl : 40 < l.length ∨ l.length = 0 ∨ k < 0) (H : Heap) (clk : Nat) (x : AV) (hx : view false H x = some (.sl (ints l) .unk)) : EvC T 7 [x, .int .i64 k] H clk (.bool true, H, clk) := by
  refine evC_p (vs := [.sl (ints l) .unk, .int .i64 k]) T7 rfl ?_ ?_ rfl
  · simp only [List.mapM_cons, hx, List.mapM_nil]; rfl
  unfold c7
  refine wp_seq (wp_run ?_)
  simp only [runO, goes, putSt, COp.map, evR, evOp, List.replicate_succ, List.replicate_zero, List.length_cons, List.length_nil, List.cons_append, List.nil_append, List.set_cons_succ, List.set_cons_zero, Nat.reduceAdd, Nat.reduceSub, Option.some.injEq, exists_eq_left', ints, Nat.zero_add, List.nil_append]
  refine wp_seq (wp_seq (wp_run ?_))
  have fin : ∀ (env : Env), env.length = 88 → WpC T 0 0 (.seq (.reg [⟨some 22, .call (.c (.fn 20 [])) [], none⟩, ⟨some 4, .mv (.t 22), none⟩]) .ret) ⟨env, [], 0⟩ (fun e s => e = .ret ∧ EndP [.tmp 4] (.bool true) e s) := by
    intro env he
    refine wp_seq (wp_reg ?_)
    refine wo_call (by simp only [List.map_nil]; exact live_ev _ _) ?_
    refine wo_run 1 ?_
    simp only [runO, goes, List.take_succ_cons, List.take_nil, COp.map, evR, evOp, putSt, Option.some.injEq, exists_eq_left', List.drop_succ_cons, List.drop_zero]
    rw [getD_set_self (by omega)]
    refine wpO_nil (wp_ret ⟨rfl, endP_ret ?_⟩)
    simp only [resOf, oneRes, Option.bind_some]
    rw [getD_set_self (by simp; omega)]
    rfl
  by_cases h1 : (40 : Int) < (l.length : Int)
  · simp only [runO, goes, putSt, COp.map, evR, evOp, bin, List.getD_cons_succ, List.getD_cons_zero, List.set_cons_succ, List.set_cons_zero, Option.bind_some, Bool.true_beq, Option.some.injEq, exists_eq_left', ↓reduceIte, List.length_map, decide_eq_true h1]
    refine wp_true (by simp only [evR, List.getD_cons_succ, List.getD_cons_zero]) ?_
    refine WpC.mono (fin _ rfl) ?_
    rintro _ _ ⟨rfl, h⟩
    exact h
  · by_cases h2 : (l.length : Int) = 0
    · simp only [runO, goes, putSt, COp.map, evR, evOp, bin, List.getD_cons_succ, List.getD_cons_zero, List.set_cons_succ, List.set_cons_zero, Option.bind_some, BEq.rfl, Bool.true_beq, Option.some.injEq, exists_eq_left', ↓reduceIte, List.length_map, decide_eq_false h1, decide_eq_true h2]
      refine wp_true (by simp only [evR, List.getD_cons_succ, List.getD_cons_zero]) ?_
      refine WpC.mono (fin _ rfl) ?_
      rintro _ _ ⟨rfl, h⟩
      exact h
    · have h3 : k < 0 := by omega
      simp only [runO, goes, putSt, COp.map, evR, evOp, bin, List.getD_cons_succ, List.getD_cons_zero, List.set_cons_succ, List.set_cons_zero, Option.bind_some, BEq.rfl, Option.some.injEq, exists_eq_left', ↓reduceIte, List.length_map, decide_eq_false h1, decide_eq_false h2, decide_eq_true h3]
      refine wp_true (by simp only [evR, List.getD_cons_succ, List.getD_cons_zero]) ?_
      refine WpC.mono (fin _ rfl) ?_
      rintro _ _ ⟨rfl, h⟩
      exact h

/-! the plain law -/

theorem sorted_le {s : List Int} (h : s.Pairwise (· ≤ ·)) {i j : Nat} (hij : i ≤ j) (hj : j < s.length) : s[i]'(by omega) ≤ s[j] := by
  rcases Nat.lt_or_eq_of_le hij with h' | rfl
  · exact List.pairwise_iff_getElem.1 h i j (by omega) hj h'
  · exact Int.le_refl _

theorem count_ge {s : List Int} (h : s.Pairwise (· ≤ ·)) {i : Nat} (hi : i < s.length) : s.length - i ≤ s.countP fun x => decide (s[i] ≤ x) := by
  have e : s.countP (fun x => decide (s[i] ≤ x)) = (s.take i).countP (fun x => decide (s[i] ≤ x)) + (s.drop i).countP (fun x => decide (s[i] ≤ x)) := by
    rw [← List.countP_append, List.take_append_drop]
  have : (s.drop i).countP (fun x => decide (s[i] ≤ x)) = (s.drop i).length := by
    rw [List.countP_eq_length]
    intro a ha
    obtain ⟨j, hj, rfl⟩ := List.getElem_of_mem ha
    simp only [List.getElem_drop, decide_eq_true_eq]
    simp at hj
    exact sorted_le h (by omega) (by omega)
  simp at this
  omega

theorem count_gt {s : List Int} (h : s.Pairwise (· ≤ ·)) {i : Nat} (hi : i < s.length) : (s.countP fun x => decide (s[i] < x)) ≤ s.length - (i + 1) := by
  have e : s.countP (fun x => decide (s[i] < x)) = (s.take (i + 1)).countP (fun x => decide (s[i] < x)) + (s.drop (i + 1)).countP (fun x => decide (s[i] < x)) := by
    rw [← List.countP_append, List.take_append_drop]
  have z : (s.take (i + 1)).countP (fun x => decide (s[i] < x)) = 0 := by
    rw [List.countP_eq_zero]
    intro a ha
    obtain ⟨j, hj, rfl⟩ := List.getElem_of_mem ha
    simp only [List.getElem_take, decide_eq_true_eq]
    simp at hj
    have := sorted_le h (show j ≤ i by omega) hi
    omega
  have := List.countP_le_length (p := fun x => decide (s[i] < x)) (l := s.drop (i + 1))
  simp at this
  omega

theorem sorted_unique {a b : List Int} (ha : a.Pairwise (· ≤ ·)) (hb : b.Pairwise (· ≤ ·)) (h : a.Perm b) : a = b :=
  h.eq_of_pairwise (fun _ _ _ _ h1 h2 => Int.le_antisymm h1 h2) ha hb

theorem sortInts_of_perm {a b : List Int} (h : a.Perm b) : sortInts a = sortInts b :=
  sorted_unique (sortInts_sorted a) (sortInts_sorted b) ((sortInts_perm a).trans (h.trans (sortInts_perm b).symm))

theorem agreed_of_perm {a b : List Int} (h : a.Perm b) : agreed a = agreed b := by
  rw [agreed, agreed, sortInts_of_perm h, h.length_eq]

/-- a turned list has what the list has -/
theorem turned_perm (l : List Int) (k : Nat) (hl : 0 < l.length) : (turned l k l.length).Perm l := by
  have e : turned l k l.length = l.drop (k % l.length) ++ l.take (k % l.length) := by
    have hk : k % l.length < l.length := Nat.mod_lt _ hl
    apply List.ext_getElem
    · simp [turned]; omega
    · intro i h1 h2
      have hi : i < l.length := by simpa [turned] using h1
      simp only [turned, List.getElem_map, List.getElem_range]
      by_cases h : i + k % l.length < l.length
      · rw [Nat.mod_eq_of_lt h, List.getElem_append_left (by simp; omega)]
        simp [h, Nat.add_comm]
      · have hm : (i + k % l.length) % l.length = i + k % l.length - l.length := by
          rw [Nat.mod_eq_sub_mod (by omega), Nat.mod_eq_of_lt (by omega)]
        rw [hm, List.getElem_append_right (by simp; omega)]
        simp only [List.length_drop, List.getElem_take]
        have : i - (l.length - k % l.length) = i + k % l.length - l.length := by omega
        simp only [this]
        simp [show i + k % l.length - l.length < l.length by omega]
  rw [e]
  exact (List.perm_append_comm).trans (by rw [List.take_append_drop])

theorem agreed_facts (l : List Int) (hl : 0 < l.length) : l.length < 2 * least l (agreed l) l.length ∧ 2 * more l (agreed l) l.length ≤ l.length ∧ agreed l ∈ l := by
  have hs := sortInts_sorted l
  have hp := sortInts_perm l
  have hn := sortInts_length l
  have hi : l.length - (l.length / 2 + 1) < (sortInts l).length := by omega
  have ea : agreed l = (sortInts l)[l.length - (l.length / 2 + 1)] := by simp [agreed, hi]
  have h1 := count_ge hs hi
  have h2 := count_gt hs hi
  rw [← ea, hp.countP_eq] at h1 h2
  simp only [least, more, List.take_length]
  refine ⟨by omega, by omega, ?_⟩
  rw [ea]
  exact hp.mem_iff.1 (List.getElem_mem hi)

theorem most_all (l : List Int) (k : Int) (H : Heap) (clk : Nat) (x : AV) (hx : view false H x = some (.sl (ints l) .unk)) : EvC T 7 [x, .int .i64 k] H clk (.bool true, H, clk) := by
  by_cases h : 40 < l.length ∨ l.length = 0 ∨ k < 0
  · exact most_live l k h H clk x hx
  · obtain ⟨k', rfl⟩ : ∃ k' : Nat, k = k' := ⟨k.toNat, by omega⟩
    have hl : 0 < l.length := by omega
    obtain ⟨h1, h2, h3⟩ := agreed_facts l hl
    exact most_ev l k' (by omega) h1 h2 h3 (agreed_of_perm (turned_perm l k' hl)) H clk x hx

end Go.Ev.P
end
