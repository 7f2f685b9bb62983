/- Contracts of functions of Go's library for the evaluator, its rules, and the step from its answer to a call of the model; under the conditions that each theorem names. -/
import Derived.Test.YtgnjkigknenkgaaGreatDoorEvOne
import Derived.Test.YtgnjkigknenkgaaGreatDoorEvTwo
import Derived.Shelf.Strconv.Itoa4
import Derived.Shelf.Strconv.ParseIntPublic10
import Derived.Shelf.SortM.Plain
section
/- More fuel, the same answer. -/
namespace Go.Ev

structure More (T : Tbl) (n : Nat) : Prop where
  call : ∀ f args H clk r, evCall T n f args H clk = some r → evCall T (n + 1) f args H clk = some r
  ops : ∀ os s r, evOps T n os s = some r → evOps T (n + 1) os s = some r
  dreg : ∀ ds s H clk r, evDreg T n ds s H clk = some r → evDreg T (n + 1) ds s H clk = some r
  code : ∀ h0 c0 c s r, evCode T n h0 c0 c s = some r → evCode T (n + 1) h0 c0 c s = some r
  rounds : ∀ h0 c0 ps a b env its H clk r, evRounds T n h0 c0 ps a b env its H clk = some r → evRounds T (n + 1) h0 c0 ps a b env its H clk = some r
  loop : ∀ h0 c0 live b s r, evLoop T n h0 c0 live b s = some r → evLoop T (n + 1) h0 c0 live b s = some r

theorem more (T : Tbl) : ∀ n, More T n
  | 0 => ⟨fun _ _ _ _ _ h => (by rw [evCall] at h; cases h), fun _ _ _ h => (by rw [evOps] at h; cases h), fun _ _ _ _ _ h => (by rw [evDreg] at h; cases h), fun _ _ _ _ _ h => (by rw [evCode] at h; cases h),
      fun _ _ _ _ _ _ _ _ _ _ h => (by rw [evRounds] at h; cases h), fun _ _ _ _ _ _ h => (by rw [evLoop] at h; cases h)⟩
  | n + 1 => by
    have ih := more T n
    refine ⟨?_, ?_, ?_, ?_, ?_, ?_⟩
    · intro f args H clk r h
      rw [evCall] at h
      rw [evCall]
      cases hf : T f with
      | none => simp [hf] at h
      | some fd =>
        cases fd with
        | prim p => simp only [hf] at h ⊢; exact h
        | iter k => simp [hf] at h
        | code cf =>
          simp only [hf] at h ⊢
          cases hvs : (if cf.inl then none else args.mapM (view false H)) with
          | some vs =>
            simp only [hvs] at h ⊢
            cases hc : evCode T n 0 0 cf.body { env := vs ++ List.replicate (cf.ntmps - vs.length) .junk, H := [], clk := 0 } with
            | none => simp [hc] at h
            | some p => rw [ih.code _ _ _ _ _ hc]; simp only [hc] at h; exact h
          | none =>
            simp only [hvs] at h ⊢
            cases hc : evCode T n H.length clk cf.body { env := args ++ List.replicate (cf.ntmps - args.length) .junk, H := H, clk := clk } with
            | none => simp [hc] at h
            | some p => rw [ih.code _ _ _ _ _ hc]; simp only [hc] at h; exact h
    · intro os s r h
      cases os with
      | nil => rw [evOps] at h ⊢; exact h
      | cons o os =>
        rw [evOps] at h
        rw [evOps]
        cases hg : goes s o.guard with
        | none => simp [hg] at h
        | some b =>
          simp only [hg] at h ⊢
          cases b with
          | false => exact ih.ops _ _ _ h
          | true =>
            simp only [] at h ⊢
            split at h
            · rename_i f args hop
              split at h
              · rename_i f' caps hfi
                split at h
                · rename_i v H clk hc
                  rw [ih.call _ _ _ _ _ hc]
                  exact ih.ops _ _ _ h
                · cases h
              · cases h
            · split at h
              · exact ih.ops _ _ _ h
              · cases h
    · intro ds s H clk r h
      cases ds with
      | nil => rw [evDreg] at h ⊢; exact h
      | cons d ds =>
        rw [evDreg] at h
        rw [evDreg]
        cases hg : goes s d.oc.guard with
        | none => simp [hg] at h
        | some b =>
          simp only [hg] at h ⊢
          cases b with
          | false =>
            simp only [Option.map_eq_some_iff] at h ⊢
            obtain ⟨x, hx, rfl⟩ := h
            refine ⟨x, ?_, rfl⟩
            cases hk : d.kd <;> simp only [hk] at hx ⊢ <;> exact ih.dreg _ _ _ _ _ hx
          | true =>
            cases hk : d.kd with
            | v =>
              simp only [hk] at h ⊢
              split at h
              · rename_i v _ _ hv
                split at h
                · rename_i hkeep
                  rw [if_pos hkeep]
                  simp only [Option.map_eq_some_iff] at h ⊢
                  obtain ⟨x, hx, rfl⟩ := h
                  exact ⟨x, ih.dreg _ _ _ _ _ hx, rfl⟩
                · cases h
              · cases h
            | a =>
              simp only [hk] at h ⊢
              split at h
              · rename_i v H' clk' hv
                simp only [Option.map_eq_some_iff] at h ⊢
                obtain ⟨x, hx, rfl⟩ := h
                exact ⟨x, ih.dreg _ _ _ _ _ hx, rfl⟩
              · cases h
            | e =>
              simp only [hk] at h ⊢
              split at h
              · rename_i f args hop
                split at h
                · rename_i f' caps hfi
                  split at h
                  · rename_i v H' clk' hc
                    rw [ih.call _ _ _ _ _ hc]
                    simp only [Option.map_eq_some_iff] at h ⊢
                    obtain ⟨x, hx, rfl⟩ := h
                    exact ⟨x, ih.dreg _ _ _ _ _ hx, rfl⟩
                  · cases h
                · cases h
              · split at h
                · simp only [Option.map_eq_some_iff] at h ⊢
                  obtain ⟨x, hx, rfl⟩ := h
                  exact ⟨x, ih.dreg _ _ _ _ _ hx, rfl⟩
                · cases h
    · intro h0 c0 c s r h
      cases c with
      | skip => rw [evCode] at h ⊢; exact h
      | reg ops =>
        rw [evCode, Option.map_eq_some_iff] at h ⊢
        obtain ⟨x, hx, rfl⟩ := h
        exact ⟨x, ih.ops _ _ _ hx, rfl⟩
      | dreg ds =>
        rw [evCode] at h
        rw [evCode]
        split at h
        · rename_i sts hs
          rw [ih.dreg _ _ _ _ _ hs]; exact h
        · cases h
      | seq a b =>
        rw [evCode] at h
        rw [evCode]
        cases ha : evCode T n h0 c0 a s with
        | none => simp [ha] at h
        | some p =>
          obtain ⟨e, s1⟩ := p
          rw [ih.code _ _ _ _ _ ha]
          rw [ha] at h
          cases e with
          | normal => exact ih.code _ _ _ _ _ h
          | exit id => exact h
          | ret => exact h
      | cond c a b =>
        rw [evCode] at h
        rw [evCode]
        split at h
        · exact ih.code _ _ _ _ _ h
        · exact ih.code _ _ _ _ _ h
        · cases h
      | block id b =>
        rw [evCode] at h
        rw [evCode]
        cases hb : evCode T n h0 c0 b s with
        | none => simp [hb] at h
        | some p => rw [ih.code _ _ _ _ _ hb]; rw [hb] at h; exact h
      | loop live b => rw [evCode] at h ⊢; exact ih.loop _ _ _ _ _ _ h
      | exit id => rw [evCode] at h ⊢; exact h
      | ret => rw [evCode] at h ⊢; exact h
      | rfun live f ps a b =>
        rw [evCode] at h
        rw [evCode]
        split at h
        · rename_i fi caps hfi
          split at h
          · rename_i k hk
            simp only [] at h ⊢
            split at h
            · rename_i its hits
              exact ih.rounds _ _ _ _ _ _ _ _ _ _ h
            · cases h
          · cases h
        · cases h
      | bad => rw [evCode] at h; cases h
    · intro h0 c0 ps a b env its H clk r h
      cases its with
      | nil => rw [evRounds] at h ⊢; exact h
      | cons it its =>
        rw [evRounds] at h
        rw [evRounds]
        split at h
        · rename_i s1 hs1
          rw [ih.code _ _ _ _ _ hs1]
          simp only []
          split at h
          · rename_i s2 hs2
            rw [ih.code _ _ _ _ _ hs2]
            exact ih.rounds _ _ _ _ _ _ _ _ _ _ h
          · rename_i e s2 hne hs2
            rw [ih.code _ _ _ _ _ hs2]
            cases e with
            | normal => exact absurd rfl hne
            | exit id => exact h
            | ret => exact h
          · cases h
        · cases h
    · intro h0 c0 live b s r h
      rw [evLoop] at h
      rw [evLoop]
      generalize norm h0 c0 (s.env.zipIdx.map fun (v, i) => if live.contains i then v else .junk) s.H = t at h ⊢
      obtain ⟨env, H, clk⟩ := t
      simp only [] at h ⊢
      cases hb : evCode T n h0 c0 b { env, H, clk } with
      | none => simp [hb] at h
      | some p =>
        obtain ⟨e, s1⟩ := p
        rw [ih.code _ _ _ _ _ hb]
        rw [hb] at h
        cases e with
        | normal => exact ih.loop _ _ _ _ _ _ h
        | exit id => exact h
        | ret => exact h

theorem call_le {T : Tbl} {n : Nat} {f args H clk r} (h : evCall T n f args H clk = some r) : ∀ m, n ≤ m → evCall T m f args H clk = some r
  | m, hm => by
    obtain ⟨k, rfl⟩ : ∃ k, m = n + k := ⟨m - n, by omega⟩
    clear hm
    induction k with
    | zero => exact h
    | succ k ih => exact (more T (n + k)).call _ _ _ _ _ ih

theorem code_le {T : Tbl} {n : Nat} {h0 c0 c s r} (h : evCode T n h0 c0 c s = some r) : ∀ m, n ≤ m → evCode T m h0 c0 c s = some r
  | m, hm => by
    obtain ⟨k, rfl⟩ : ∃ k, m = n + k := ⟨m - n, by omega⟩
    clear hm
    induction k with
    | zero => exact h
    | succ k ih => exact (more T (n + k)).code _ _ _ _ _ ih

theorem loop_le {T : Tbl} {n : Nat} {h0 c0 live b s r} (h : evLoop T n h0 c0 live b s = some r) : ∀ m, n ≤ m → evLoop T m h0 c0 live b s = some r
  | m, hm => by
    obtain ⟨k, rfl⟩ : ∃ k, m = n + k := ⟨m - n, by omega⟩
    clear hm
    induction k with
    | zero => exact h
    | succ k ih => exact (more T (n + k)).loop _ _ _ _ _ _ ih

theorem ops_le {T : Tbl} {n : Nat} {os s r} (h : evOps T n os s = some r) : ∀ m, n ≤ m → evOps T m os s = some r
  | m, hm => by
    obtain ⟨k, rfl⟩ : ∃ k, m = n + k := ⟨m - n, by omega⟩
    clear hm
    induction k with
    | zero => exact h
    | succ k ih => exact (more T (n + k)).ops _ _ _ ih

theorem rounds_le {T : Tbl} {n : Nat} {h0 c0 ps a b env its H clk r} (h : evRounds T n h0 c0 ps a b env its H clk = some r) : ∀ m, n ≤ m → evRounds T m h0 c0 ps a b env its H clk = some r
  | m, hm => by
    obtain ⟨k, rfl⟩ : ∃ k, m = n + k := ⟨m - n, by omega⟩
    clear hm
    induction k with
    | zero => exact h
    | succ k ih => exact (more T (n + k)).rounds _ _ _ _ _ _ _ _ _ _ ih

end Go.Ev
end

section
/- The evaluator's runs, by rules: what a piece of code comes to. -/
namespace Go.Ev

/-- a call comes to this -/
def EvC (T : Tbl) (f : Nat) (args : List AV) (H : Heap) (clk : Nat) (r : AV × Heap × Nat) : Prop := ∃ n, evCall T n f args H clk = some r

def WpC (T : Tbl) (h0 c0 : Nat) (c : CC) (s : St) (Q : Ex → St → Prop) : Prop := ∃ n e s', evCode T n h0 c0 c s = some (e, s') ∧ Q e s'

def WpO (T : Tbl) (os : List Oc) (s : St) (Q : St → Prop) : Prop := ∃ n s', evOps T n os s = some s' ∧ Q s'

def WpL (T : Tbl) (h0 c0 : Nat) (live : List Nat) (b : CC) (s : St) (Q : Ex → St → Prop) : Prop := ∃ n e s', evLoop T n h0 c0 live b s = some (e, s') ∧ Q e s'

section
variable {T : Tbl} {h0 c0 : Nat} {s : St} {Q : Ex → St → Prop}

theorem WpC.mono {c : CC} {Q' : Ex → St → Prop} (h : WpC T h0 c0 c s Q) (hq : ∀ e s, Q e s → Q' e s) : WpC T h0 c0 c s Q' :=
  let ⟨n, e, s', h1, h2⟩ := h; ⟨n, e, s', h1, hq _ _ h2⟩

theorem WpL.mono {live : List Nat} {b : CC} {Q' : Ex → St → Prop} (h : WpL T h0 c0 live b s Q) (hq : ∀ e s, Q e s → Q' e s) : WpL T h0 c0 live b s Q' :=
  let ⟨n, e, s', h1, h2⟩ := h; ⟨n, e, s', h1, hq _ _ h2⟩

theorem wp_skip (h : Q .normal s) : WpC T h0 c0 .skip s Q := ⟨1, _, _, by rw [evCode], h⟩
theorem wp_ret (h : Q .ret s) : WpC T h0 c0 .ret s Q := ⟨1, _, _, by rw [evCode], h⟩
theorem wp_exit {id : Nat} (h : Q (.exit id) s) : WpC T h0 c0 (.exit id) s Q := ⟨1, _, _, by rw [evCode], h⟩

theorem wp_reg {os : List Oc} (h : WpO T os s (Q .normal)) : WpC T h0 c0 (.reg os) s Q := by
  obtain ⟨n, s', h1, h2⟩ := h
  exact ⟨n + 1, _, _, by rw [evCode, h1]; rfl, h2⟩

theorem wp_seq {a b : CC} (h : WpC T h0 c0 a s (fun e s' => match e with | .normal => WpC T h0 c0 b s' Q | e => Q e s')) : WpC T h0 c0 (.seq a b) s Q := by
  obtain ⟨n, e, s1, h1, h2⟩ := h
  cases e with
  | normal =>
    obtain ⟨m, e2, s2, h3, h4⟩ := h2
    refine ⟨max n m + 1, e2, s2, ?_, h4⟩
    rw [evCode, code_le h1 (max n m) (Nat.le_max_left _ _)]
    exact code_le h3 (max n m) (Nat.le_max_right _ _)
  | exit id => exact ⟨n + 1, _, _, by rw [evCode, h1], h2⟩
  | ret => exact ⟨n + 1, _, _, by rw [evCode, h1], h2⟩

theorem wp_cond {c : Ref} {a b : CC} {t : Bool} (hc : evR s.env c = .bool t) (h : if t then WpC T h0 c0 a s Q else WpC T h0 c0 b s Q) : WpC T h0 c0 (.cond c a b) s Q := by
  cases t with
  | true => obtain ⟨n, e, s1, h1, h2⟩ := h; exact ⟨n + 1, e, s1, by rw [evCode]; simp only [hc]; exact h1, h2⟩
  | false => obtain ⟨n, e, s1, h1, h2⟩ := h; exact ⟨n + 1, e, s1, by rw [evCode]; simp only [hc]; exact h1, h2⟩

theorem wp_true {c : Ref} {a b : CC} (hc : evR s.env c = .bool true) (h : WpC T h0 c0 a s Q) : WpC T h0 c0 (.cond c a b) s Q :=
  wp_cond (t := true) hc (by rw [if_pos rfl]; exact h)

theorem wp_false {c : Ref} {a b : CC} (hc : evR s.env c = .bool false) (h : WpC T h0 c0 b s Q) : WpC T h0 c0 (.cond c a b) s Q :=
  wp_cond (t := false) hc (by rw [if_neg (by decide)]; exact h)

theorem wp_block {id : Nat} {b : CC} (h : WpC T h0 c0 b s (fun e s' => Q (if e = .exit id then .normal else e) s')) : WpC T h0 c0 (.block id b) s Q := by
  obtain ⟨n, e, s1, h1, h2⟩ := h
  cases e with
  | normal => exact ⟨n + 1, .normal, s1, by rw [evCode, h1], by simpa using h2⟩
  | ret => exact ⟨n + 1, .ret, s1, by rw [evCode, h1], by simpa using h2⟩
  | exit id' =>
    by_cases hid : id' = id
    · subst hid
      exact ⟨n + 1, .normal, s1, by rw [evCode, h1]; simp, by simpa using h2⟩
    · refine ⟨n + 1, .exit id', s1, by rw [evCode, h1]; simp [hid], by simpa [hid] using h2⟩

theorem wp_loop {live : List Nat} {b : CC} (h : WpL T h0 c0 live b s Q) : WpC T h0 c0 (.loop live b) s Q := by
  obtain ⟨n, e, s1, h1, h2⟩ := h
  exact ⟨n + 1, e, s1, by rw [evCode]; exact h1, h2⟩

/-- a loop's head: what is alive, the heap anew -/
def headSt (h0 c0 : Nat) (live : List Nat) (s : St) : St :=
  let (env, H, clk) := norm h0 c0 (s.env.zipIdx.map fun (v, i) => if live.contains i then v else .junk) s.H
  { env, H, clk }

theorem wpL_step {live : List Nat} {b : CC} (h : WpC T h0 c0 b (headSt h0 c0 live s) (fun e s' => match e with | .normal => WpL T h0 c0 live b s' Q | e => Q e s')) : WpL T h0 c0 live b s Q := by
  obtain ⟨n, e, s1, h1, h2⟩ := h
  unfold headSt at h1
  generalize hn : norm h0 c0 (s.env.zipIdx.map fun (v, i) => if live.contains i then v else .junk) s.H = t at h1
  obtain ⟨env, H, clk⟩ := t
  simp only [] at h1
  cases e with
  | normal =>
    obtain ⟨m, e2, s2, h3, h4⟩ := h2
    refine ⟨max n m + 1, e2, s2, ?_, h4⟩
    rw [evLoop, hn]
    simp only []
    rw [code_le h1 (max n m) (Nat.le_max_left _ _)]
    exact loop_le h3 (max n m) (Nat.le_max_right _ _)
  | exit id => exact ⟨n + 1, _, _, by rw [evLoop, hn]; simp only []; rw [h1], h2⟩
  | ret => exact ⟨n + 1, _, _, by rw [evLoop, hn]; simp only []; rw [h1], h2⟩

end

section
variable {T : Tbl} {s : St} {Q : St → Prop}

theorem wpO_nil (h : Q s) : WpO T [] s Q := ⟨1, s, by rw [evOps], h⟩

/-- an operation that is no call -/
theorem wpO_op {o : Oc} {os : List Oc} (hg : goes s o.guard = some true) (hc : ∀ f args, o.op ≠ .call f args) {v : AV} {H : Heap} {clk : Nat} (hv : evOp (o.op.map (evR s.env)) s.H s.clk = some (v, H, clk)) (h : WpO T os (putSt s o.dst v H clk) Q) : WpO T (o :: os) s Q := by
  obtain ⟨n, s', h1, h2⟩ := h
  refine ⟨n + 1, s', ?_, h2⟩
  rw [evOps, hg]
  simp only []
  cases hop : o.op
  case call f args => exact absurd hop (hc f args)
  all_goals
    rw [hop] at hv
    simp only [hv]
    exact h1

theorem wpO_not {o : Oc} {os : List Oc} (hg : goes s o.guard = some false) (h : WpO T os (putSt s o.dst .junk s.H s.clk) Q) : WpO T (o :: os) s Q := by
  obtain ⟨n, s', h1, h2⟩ := h
  exact ⟨n + 1, s', by rw [evOps, hg]; exact h1, h2⟩

theorem wpO_call {o : Oc} {os : List Oc} {f : Ref} {args : List Ref} {fi : Nat} {caps : List AV} (hop : o.op = .call f args) (hg : goes s o.guard = some true) (hf : evR s.env f = .fn fi caps) {v : AV} {H : Heap} {clk : Nat}
    (hv : EvC T fi (args.map (evR s.env) ++ caps) s.H s.clk (v, H, clk)) (h : WpO T os (putSt s o.dst v H clk) Q) : WpO T (o :: os) s Q := by
  obtain ⟨n, s', h1, h2⟩ := h
  obtain ⟨m, h3⟩ := hv
  refine ⟨max n m + 1, s', ?_, h2⟩
  rw [evOps, hg]
  simp only [hop, hf]
  rw [call_le h3 (max n m) (Nat.le_max_right _ _)]
  exact ops_le h1 (max n m) (Nat.le_max_left _ _)

end

/-- a call of a pure function -/
theorem evC_pure {T : Tbl} {f : Nat} {cf : CF} (hT : T f = some (.code cf)) (hi : cf.inl = false) {args vs : List AV} {H : Heap} {clk : Nat} (hvs : args.mapM (view false H) = some vs) {v : AV} {H' : Heap}
    (h : WpC T 0 0 cf.body { env := vs ++ List.replicate (cf.ntmps - vs.length) .junk, H := [], clk := 0 } (fun e s => (e = .normal ∨ e = .ret) ∧ (result cf s).bind (view false s.H) = some v))
    (ha : after v args H = some H') : EvC T f args H clk (v, H', clk) := by
  obtain ⟨n, e, s, h1, he, h2⟩ := h
  refine ⟨n + 1, ?_⟩
  rw [evCall, hT]
  simp only [hi, Bool.false_eq_true, if_false, hvs, h1]
  rcases he with rfl | rfl <;> simp only [h2, ha, Option.map_some]

/-- a call in the caller's heap -/
theorem evC_inl {T : Tbl} {f : Nat} {cf : CF} (hT : T f = some (.code cf)) {args : List AV} {H : Heap} {clk : Nat} (hi : cf.inl = true ∨ args.mapM (view false H) = none) {v : AV} {H' : Heap} {clk' : Nat}
    (h : WpC T H.length clk cf.body { env := args ++ List.replicate (cf.ntmps - args.length) .junk, H, clk } (fun e s => (e = .normal ∨ e = .ret) ∧ ∃ u, result cf s = some u ∧ norm H.length clk [u] s.H = ([v], H', clk'))) : EvC T f args H clk (v, H', clk') := by
  obtain ⟨n, e, s, h1, he, u, h2, h3⟩ := h
  refine ⟨n + 1, ?_⟩
  rw [evCall, hT]
  have hn : (if cf.inl then none else args.mapM (view false H)) = none := by
    rcases hi with hi | hi
    · rw [hi]; rfl
    · rw [hi]; split <;> rfl
  simp only [hn, h1]
  rcases he with rfl | rfl <;> simp only [h2, h3]

/-- a prim -/
theorem evC_prim {T : Tbl} {f : Nat} {p : PK} (hT : T f = some (.prim p)) {args : List AV} {H : Heap} {clk : Nat} {r : AV × Heap × Nat} (h : evPrim p args H clk = some r) : EvC T f args H clk r :=
  ⟨1, by rw [evCall, hT]; exact h⟩

end Go.Ev
end

section
/- Rules for the simplifier: operations in text order. -/
namespace Go.Ev

section
variable {T : Tbl} {Q : St → Prop}

theorem wo_nil {s : St} : WpO T [] s Q ↔ Q s := by
  constructor
  · rintro ⟨n, s', h, hq⟩
    cases n with
    | zero => rw [evOps] at h; cases h
    | succ n => rw [evOps] at h; cases h; exact hq
  · exact wpO_nil

/-- what an operation without a call comes to -/
def OpTo (op : COp AV) (H : Heap) (clk : Nat) (K : AV → Heap → Nat → Prop) : Prop := ∃ v H' clk', evOp op H clk = some (v, H', clk') ∧ K v H' clk'

def noCall : COp Ref → Bool
  | .call _ _ => false
  | _ => true

theorem wo_op {d : Option Nat} {op : COp Ref} {os : List Oc} {env : Env} {H : Heap} {clk : Nat} (hc : noCall op = true)
    (h : OpTo (op.map (evR env)) H clk fun v H' clk' => WpO T os (putSt ⟨env, H, clk⟩ d v H' clk') Q) : WpO T (⟨d, op, none⟩ :: os) ⟨env, H, clk⟩ Q := by
  obtain ⟨v, H', clk', h1, h2⟩ := h
  exact wpO_op rfl (fun f args e => by simp only at e; rw [e] at hc; cases hc) h1 h2

/-- a guarded operation -/
theorem wo_guard {d : Option Nat} {op : COp Ref} {g : Nat} {want b : Bool} {os : List Oc} {env : Env} {H : Heap} {clk : Nat} (hg : env.getD g .junk = .bool b)
    (h : if b == want then WpO T (⟨d, op, none⟩ :: os) ⟨env, H, clk⟩ Q else WpO T os (putSt ⟨env, H, clk⟩ d .junk H clk) Q) : WpO T (⟨d, op, some (g, want)⟩ :: os) ⟨env, H, clk⟩ Q := by
  have hgo : goes (⟨env, H, clk⟩ : St) (some (g, want)) = some (b == want) := by simp only [goes, hg]
  cases hb : b == want with
  | false =>
    rw [hb] at h hgo
    exact wpO_not hgo h
  | true =>
    rw [hb] at h hgo
    simp only [if_true] at h
    obtain ⟨n, s', h1, h2⟩ := h
    refine ⟨n, s', ?_, h2⟩
    cases n with
    | zero => rw [evOps] at h1; cases h1
    | succ n =>
      rw [evOps] at h1 ⊢
      simp only [hgo]
      exact h1

theorem wo_call {d : Option Nat} {f : Nat} {args : List Ref} {os : List Oc} {env : Env} {H : Heap} {clk : Nat} {v : AV} {H' : Heap} {clk' : Nat} (hv : EvC T f (args.map (evR env)) H clk (v, H', clk'))
    (h : WpO T os (putSt ⟨env, H, clk⟩ d v H' clk') Q) : WpO T (⟨d, .call (.c (.fn f [])) args, none⟩ :: os) ⟨env, H, clk⟩ Q :=
  wpO_call rfl rfl rfl (by simpa using hv) h

end
end Go.Ev
end

section
/- Regions without calls, run at once. -/
namespace Go.Ev

def runO : List Oc → St → Option St
  | [], s => some s
  | ⟨d, op, g⟩ :: os, s =>
    match goes s g with
    | none => none
    | some false => runO os (putSt s d .junk s.H s.clk)
    | some true => match evOp (op.map (evR s.env)) s.H s.clk with
      | some (v, H, clk) => runO os (putSt s d v H clk)
      | none => none

theorem evOps_runO (T : Tbl) {Q : St → Prop} : ∀ {os : List Oc} {s s' : St} {post : List Oc}, runO os s = some s' → WpO T post s' Q → WpO T (os ++ post) s Q
  | [], s, s', post, h, hq => by simp only [runO, Option.some.injEq] at h; subst h; exact hq
  | ⟨d, op, g⟩ :: os, s, s', post, h, hq => by
    rw [runO] at h
    cases hg : goes s g with
    | none => rw [hg] at h; cases h
    | some b =>
      rw [hg] at h
      cases b with
      | false => exact wpO_not hg (evOps_runO T h hq)
      | true =>
        simp only at h
        cases hv : evOp (op.map (evR s.env)) s.H s.clk with
        | none => rw [hv] at h; cases h
        | some r =>
          obtain ⟨v, H, clk⟩ := r
          rw [hv] at h
          refine wpO_op hg ?_ hv (evOps_runO T h hq)
          intro f args e
          simp only at e
          rw [e] at hv
          simp [COp.map, evOp] at hv

section
variable {T : Tbl} {h0 c0 : Nat} {s : St}

/-- a region without calls -/
theorem wp_run {os : List Oc} {Q : Ex → St → Prop} (h : ∃ s', runO os s = some s' ∧ Q .normal s') : WpC T h0 c0 (.reg os) s Q := by
  obtain ⟨s', h1, h2⟩ := h
  have := evOps_runO T (post := []) h1 (wpO_nil (Q := Q .normal) h2)
  rw [List.append_nil] at this
  exact wp_reg this

/-- the first so many operations -/
theorem wo_run (k : Nat) {os : List Oc} {Q : St → Prop} (h : ∃ s', runO (os.take k) s = some s' ∧ WpO T (os.drop k) s' Q) : WpO T os s Q := by
  obtain ⟨s', h1, h2⟩ := h
  have := evOps_runO T h1 h2
  rwa [List.take_append_drop] at this

end

/-- a call's result -/
def resOf (rs : List RV) (s : St) : Option AV :=
  match rs with
  | [r] => oneRes s.env s.H r
  | rs => (rs.mapM (oneRes s.env s.H)).map .tup

theorem result_eq (cf : CF) (s : St) : result cf s = resOf cf.res s := rfl

/-- a pure call's end -/
def EndP (rs : List RV) (v : AV) (e : Ex) (s : St) : Prop := (e = .normal ∨ e = .ret) ∧ (resOf rs s).bind (view false s.H) = some v

theorem endP_ret {rs : List RV} {v : AV} {s : St} (h : (resOf rs s).bind (view false s.H) = some v) : EndP rs v .ret s := ⟨.inr rfl, h⟩
theorem endP_normal {rs : List RV} {v : AV} {s : St} (h : (resOf rs s).bind (view false s.H) = some v) : EndP rs v .normal s := ⟨.inl rfl, h⟩

theorem evC_p {T : Tbl} {f : Nat} {cf : CF} (hT : T f = some (.code cf)) (hi : cf.inl = false) {args vs : List AV} {H : Heap} {clk : Nat} (hvs : args.mapM (view false H) = some vs) {v : AV} {H' : Heap}
    (h : WpC T 0 0 cf.body { env := vs ++ List.replicate (cf.ntmps - vs.length) .junk, H := [], clk := 0 } (EndP cf.res v)) (ha : after v args H = some H') : EvC T f args H clk (v, H', clk) :=
  evC_pure hT hi hvs h ha

/-- the end of a call in the caller's heap -/
def EndI (rs : List RV) (h0 c0 : Nat) (r : AV × Heap × Nat) (e : Ex) (s : St) : Prop := (e = .normal ∨ e = .ret) ∧ ∃ u, resOf rs s = some u ∧ norm h0 c0 [u] s.H = ([r.1], r.2.1, r.2.2)

theorem endI_ret {rs : List RV} {h0 c0 : Nat} {r : AV × Heap × Nat} {s : St} (u : AV) (h : resOf rs s = some u) (h2 : norm h0 c0 [u] s.H = ([r.1], r.2.1, r.2.2)) : EndI rs h0 c0 r .ret s := ⟨.inr rfl, u, h, h2⟩

theorem evC_i {T : Tbl} {f : Nat} {cf : CF} (hT : T f = some (.code cf)) {args : List AV} {H : Heap} {clk : Nat} (hi : cf.inl = true ∨ args.mapM (view false H) = none) {r : AV × Heap × Nat}
    (h : WpC T H.length clk cf.body { env := args ++ List.replicate (cf.ntmps - args.length) .junk, H, clk } (EndI cf.res H.length clk r)) : EvC T f args H clk r :=
  evC_inl hT hi h

/-- a list of numbers -/
abbrev ints (l : List Int) : List AV := l.map (AV.int .i64)

end Go.Ev
end

section
/- Tables as search trees. -/
namespace Go.Ev

inductive Tr where
  | leaf
  | node (l : Tr) (k : Nat) (v : FD) (r : Tr)
  deriving Inhabited

def Tr.find : Tr → Nat → Option FD
  | .leaf, _ => none
  | .node l k v r, f => if f < k then l.find f else if k < f then r.find f else some v

def Tr.All (Q : Nat → FD → Prop) : Tr → Prop
  | .leaf => True
  | .node l k v r => l.All Q ∧ Q k v ∧ r.All Q

theorem Tr.find_all {Q : Nat → FD → Prop} : ∀ {t : Tr} {f : Nat} {v : FD}, t.All Q → t.find f = some v → Q f v
  | .leaf, _, _, _, h => by cases h
  | .node l k v r, f, v', ha, h => by
    rw [Tr.find] at h
    split at h
    · exact find_all ha.1 h
    · split at h
      · exact find_all ha.2.2 h
      · cases h
        have : f = k := by omega
        subst this; exact ha.2.1

end Go.Ev
end

section
/- Rounds of a range over a function, by rules. -/
namespace Go.Ev

def WpR (T : Tbl) (h0 c0 : Nat) (ps : List Nat) (assign b : CC) (env : Env) (its : List (List AV)) (H : Heap) (clk : Nat) (Q : Ex → St → Prop) : Prop :=
  ∃ n e s', evRounds T n h0 c0 ps assign b env its H clk = some (e, s') ∧ Q e s'

section
variable {T : Tbl} {h0 c0 : Nat} {ps : List Nat} {assign b : CC} {env : Env} {H : Heap} {clk : Nat} {Q : Ex → St → Prop}

theorem WpR.mono {its : List (List AV)} {Q' : Ex → St → Prop} (h : WpR T h0 c0 ps assign b env its H clk Q) (hq : ∀ e s, Q e s → Q' e s) : WpR T h0 c0 ps assign b env its H clk Q' :=
  let ⟨n, e, s', h1, h2⟩ := h; ⟨n, e, s', h1, hq _ _ h2⟩

theorem wpR_nil (h : Q .normal ⟨env, H, clk⟩) : WpR T h0 c0 ps assign b env [] H clk Q := ⟨1, _, _, by rw [evRounds], h⟩

/-- a round that ends as it should -/
theorem wpR_cons {it : List AV} {its : List (List AV)} (h : WpC T H.length clk assign ⟨setAll env ps it, H, clk⟩ fun e s => e = .normal ∧ WpC T H.length clk b s fun e s => e = .normal ∧
      ∃ env' H' clk', norm h0 c0 env s.H = (env', H', clk') ∧ WpR T h0 c0 ps assign b env' its H' clk' Q) : WpR T h0 c0 ps assign b env (it :: its) H clk Q := by
  obtain ⟨n1, e1, s1, h1, rfl, n2, e2, s2, h2, rfl, env', H', clk', hn, n3, e3, s3, h3, hq⟩ := h
  refine ⟨max n1 (max n2 n3) + 1, e3, s3, ?_, hq⟩
  rw [evRounds, code_le h1 _ (Nat.le_max_left _ _)]
  simp only []
  rw [code_le h2 _ (Nat.le_trans (Nat.le_max_left _ _) (Nat.le_max_right _ _))]
  simp only [hn]
  exact rounds_le h3 _ (Nat.le_trans (Nat.le_max_right _ _) (Nat.le_max_right _ _))

theorem wp_rfun {live : List Nat} {f : Ref} {s : St} {fi : Nat} {caps : List AV} {k : IK} {its : List (List AV)} (hf : evR s.env f = .fn fi caps) (hT : T fi = some (.iter k)) (hi : items k caps (freeze s.H (refsL caps)) = some its)
    (h : WpR T h0 c0 ps assign b (s.env.zipIdx.map fun (v, i) => if live.contains i then v else .junk) its (freeze s.H (refsL caps)) s.clk Q) : WpC T h0 c0 (.rfun live f ps assign b) s Q := by
  obtain ⟨n, e, s', h1, h2⟩ := h
  refine ⟨n + 1, e, s', ?_, h2⟩
  rw [evCode]
  simp only [hf, hT, hi]
  exact h1

end
end Go.Ev
end

section
/- Functions of the library without a body: what they hand back. -/
namespace Go.Ev

section
variable {P : Program} {w0 : World}

/-- an extern: its row, and what it hands back without a look at the world -/
theorem extern_ok {f : FuncId} {fn : Func} (hf : P.funcs[f]? = some fn) (hn : (fn.name == "runtime.NumGoroutine") = false) (hb : fn.body = none) (h1 : Extern.findNext fn = none) {e : Array Value → Sem Value} (h2 : Extern.find fn = some e)
    {c : Cx} {vals : Array Value} {v : AV} {val : Value} (hH : HR P c) (hr : (e vals).run P c.w = .ok val c.w) (hv : Rep P c v val) : CallOK P f vals c.w (Rets P c v c.H c.clk) :=
  ⟨fn, hf, hn, .inr ⟨hb, h1, e, val, c.w, h2, hr, c.m, Cx.le.refl c, hH, hv⟩⟩

theorem args_one {c : Cx} {x : AV} {vals : Array Value} (h : ArgsR P c [x] vals) : ∃ v, vals = #[v] ∧ Rep P c x v := by
  obtain ⟨h1, h2⟩ := h
  obtain ⟨l⟩ := vals
  match l, h1 with
  | [v], _ => exact ⟨v, rfl, h2 0 x v rfl rfl⟩

theorem args_two {c : Cx} {x y : AV} {vals : Array Value} (h : ArgsR P c [x, y] vals) : ∃ v w, vals = #[v, w] ∧ Rep P c x v ∧ Rep P c y w := by
  obtain ⟨h1, h2⟩ := h
  obtain ⟨l⟩ := vals
  match l, h1 with
  | [v, w], _ => exact ⟨v, w, rfl, h2 0 x v rfl rfl, h2 1 y w rfl rfl⟩

theorem args_three {c : Cx} {x y z : AV} {vals : Array Value} (h : ArgsR P c [x, y, z] vals) : ∃ u v w, vals = #[u, v, w] ∧ Rep P c x u ∧ Rep P c y v ∧ Rep P c z w := by
  obtain ⟨h1, h2⟩ := h
  obtain ⟨l⟩ := vals
  match l, h1 with
  | [u, v, w], _ => exact ⟨u, v, w, rfl, h2 0 x u rfl rfl, h2 1 y v rfl rfl, h2 2 z w rfl rfl⟩

theorem same_ok {f : FuncId} {fn : Func} (hf : P.funcs[f]? = some fn) (hn : (fn.name == "runtime.NumGoroutine") = false) (hb : fn.body = none) (h1 : Extern.findNext fn = none) (h2 : Extern.find fn = some Extern.AbiNoEscape.same) : PrimOK P w0 f .same := by
  intro c args vals v H' clk' _ hH ha h
  match args, h with
  | [x], h =>
    simp only [evPrim] at h
    cases h
    obtain ⟨val, rfl, hv⟩ := args_one ha
    exact extern_ok hf hn hb h1 h2 hH (show (pure val : Sem Value).run P c.w = _ from Sem.run_pure ..) hv

theorem find_congr {α : Type} {p q : α → Bool} : ∀ (l : List α), (∀ x ∈ l, p x = q x) → l.find? p = l.find? q
  | [], _ => rfl
  | a :: l, h => by
    rw [List.find?_cons, List.find?_cons, h a (by simp), find_congr l (fun x hx => h x (by simp [hx]))]

theorem idxB_find (s : List UInt8) (c : UInt8) : ∀ (l : List UInt8) (i : Nat), s.drop i = l →
    idxB c.toNat l i = (match (List.range' i l.length).find? (fun k => s.getD k 0 == c) with | some k => (k : Int) | none => -1)
  | [], i, _ => by simp [idxB]
  | a :: l, i, h => by
    have hi : s.getD i 0 = a := by
      have : (s.drop i)[0]? = some a := by rw [h]; rfl
      rw [List.getElem?_drop] at this
      simp only [Nat.add_zero] at this
      simp [List.getD, this]
    have hl : s.drop (i + 1) = l := by
      have := congrArg List.tail h
      rw [List.tail_drop] at this; exact this
    rw [idxB, List.length_cons, List.range'_succ, List.find?_cons, hi]
    by_cases hc : a = c
    · subst hc; simp
    · have h1 : ¬ a.toNat = c.toNat := fun e => hc (UInt8.toNat_inj.1 e)
      have h2 : (a == c) = false := by simpa using hc
      rw [if_neg h1, h2]
      exact idxB_find s c l (i + 1) hl

theorem idxByte_ok {f : FuncId} {fn : Func} (hf : P.funcs[f]? = some fn) (hn : (fn.name == "runtime.NumGoroutine") = false) (hb : fn.body = none) (h1 : Extern.findNext fn = none) (h2 : Extern.find fn = some Extern.BytealgIndexByte.indexByte) : PrimOK P w0 f .idxByte := by
  intro c args vals v H' clk' _ hH ha h
  match args, h with
  | [.str s, .int .u8 n], h =>
    simp only [evPrim] at h
    split at h
    case isFalse => cases h
    rename_i hlt
    cases h
    obtain ⟨v1, v2, rfl, hv1, hv2⟩ := args_two ha
    obtain rfl := hv1.str_inv
    obtain rfl := hv2.int_inv
    refine extern_ok hf hn hb h1 h2 hH (val := .int .i64 (idxB n.toNat s 0)) ?_ (.int _ _)
    have hc : n.toNat = (UInt8.ofNat n.toNat).toNat := by
      rw [UInt8.toNat_ofNat']
      have : n.toNat < 256 := by omega
      omega
    have hget : ∀ i, i < s.length → (⟨s.toArray⟩ : ByteArray)[i]! = s.getD i 0 := by
      intro i hi
      rw [getElem!_pos (⟨s.toArray⟩ : ByteArray) i (by simpa [ByteArray.size] using hi)]
      simp [List.getD, hi, ByteArray.getElem_eq_getElem_data]
    have hsz : (⟨s.toArray⟩ : ByteArray).size = s.length := by simp [ByteArray.size]
    have hf : (List.range (⟨s.toArray⟩ : ByteArray).size).find? (fun i => (⟨s.toArray⟩ : ByteArray)[i]! == UInt8.ofNat n.toNat) = (List.range' 0 s.length).find? (fun k => s.getD k 0 == UInt8.ofNat n.toNat) := by
      rw [hsz, List.range_eq_range']
      refine find_congr _ fun i hi => ?_
      rw [hget i (by simpa [List.mem_range'] using hi)]
    have he := idxB_find s (UInt8.ofNat n.toNat) s 0 rfl
    rw [← hc] at he
    have hdef : Extern.BytealgIndexByte.indexByte #[.string ⟨s.toArray⟩, .int .u8 n] = (do
        let b ← Extern.Bytes.bytesOf (.string ⟨s.toArray⟩)
        let c ← Extern.Bytes.asByte (.int .u8 n)
        match (List.range b.size).find? fun i => b[i]! == c with
        | some i => pure (goInt i)
        | none => pure (goInt (-1))) := rfl
    rw [hdef]
    simp only [Extern.Bytes.bytesOf, Extern.Bytes.asByte, Sem.run_bind, Sem.run_pure, Result.andThen_ok]
    have hu : n.toNat.toUInt8 = UInt8.ofNat n.toNat := rfl
    rw [hu, hf, he]
    cases List.find? (fun k => s.getD k 0 == UInt8.ofNat n.toNat) (List.range' 0 s.length) with
    | some k => exact Sem.run_pure ..
    | none => exact Sem.run_pure ..

end
end Go.Ev
end

section
/- strconv.FormatInt, strconv.ParseInt: out of the shelf's contracts. -/
namespace Go.Ev
open Go.RowKit

section
variable {P : Program} {w0 : World}

/-- a call that leaves what was there -/
theorem below_rets {c : Cx} (hH : HR P c) {w' : World} (hb : Below c.w.heap.size c.w w') {v : AV} {val : Value} (hv : ∀ c', Rep P c' v val) : Rets P c v c.H c.clk val w' := by
  obtain ⟨h1, h2⟩ := Cx.le.world hH (w' := w') ⟨hb.os, hb.tape, hb.output⟩ hb.size (fun b h => hb.block b h)
  exact ⟨c.m, h1, h2, hv _⟩

theorem below_grow (w : World) (k : Nat) (os : Array Obj) : Below w.heap.size w (Sort.grow (w.drewN k) os) := by
  refine ⟨rfl, rfl, rfl, ?_, fun b hb => ?_⟩
  · show w.heap.size ≤ (w.heap ++ os).size
    simp
  · show (w.heap ++ os)[b]? = w.heap[b]?
    rw [Array.getElem?_append, if_pos hb]

theorem digits_eq : ∀ (f n : Nat) (acc : List UInt8), n < 10 ^ (f + 1) → digits (f + 1) n acc = Lib.decDigits n ++ acc
  | 0, n, acc, h => by
    have hn : n < 10 := by simpa using h
    rw [digits, if_pos hn, Lib.decDigits, dif_pos hn]; rfl
  | f + 1, n, acc, h => by
    rw [digits]
    by_cases hn : n < 10
    · rw [if_pos hn, Lib.decDigits, dif_pos hn]; rfl
    · rw [if_neg hn, Lib.decDigits, dif_neg hn, digits_eq f (n / 10) _ (by rw [Nat.pow_succ] at h; omega)]
      simp

theorem fmtInt_eq {n : Int} (h0 : -9223372036854775808 ≤ n) (h1 : n ≤ 9223372036854775807) : fmtInt n = Lib.itoa n := by
  unfold fmtInt Lib.itoa
  split
  · rw [digits_eq 19 _ [] (by omega)]
    have : (-n).toNat = n.natAbs := by omega
    rw [this]; simp
  · rw [digits_eq 19 _ [] (by omega)]; simp

/-- what is laid in the base world is so still -/
theorem Bs.var {c : Cx} (hB : Bs w0 c) {name : String} {cs : Array Value} (h : w0.var? P name = some cs) : c.w.var? P name = some cs := by
  unfold World.var? at h ⊢
  rw [Option.bind_eq_some_iff] at h ⊢
  obtain ⟨g, hg, hc⟩ := h
  refine ⟨g, hg, ?_⟩
  have hlt : g < w0.heap.size := by
    rcases Nat.lt_or_ge g w0.heap.size with h' | h'
    · exact h'
    · rw [Array.getElem?_eq_none h'] at hc; cases hc
  rw [(hB.same g hlt).1]; exact hc

theorem fmtInt_ok {f : FuncId} {fn : Func} (hf : P.funcs[f]? = some fn) (hn : (fn.name == "runtime.NumGoroutine") = false) (hb : fn.body.isSome = true)
    (hC : ∀ (n : Int), -9223372036854775808 ≤ n → n ≤ 9223372036854775807 → ∀ (w : World), Lib.TabIs P w "internal/strconv.uint64pow10" .u64 Lib.pow10Tab →
      Calls P f #[.int .i64 n, .int .i64 10] w fun e w' => e = .returned (.string ⟨(Lib.itoa n).toArray⟩) ∧ ∃ k os, w' = Sort.grow (w.drewN k) os)
    (htab : Lib.TabIs P w0 "internal/strconv.uint64pow10" .u64 Lib.pow10Tab) : PrimOK P w0 f .fmtInt := by
  intro c args vals v H' clk' hB hH ha h
  match args, h with
  | [.int .i64 n, .int .i64 b], h =>
    simp only [evPrim] at h
    split at h
    case isFalse => cases h
    rename_i hc
    cases h
    obtain ⟨v1, v2, rfl, hv1, hv2⟩ := args_two ha
    obtain rfl := hv1.int_inv
    obtain rfl := hv2.int_inv
    obtain ⟨rfl, h0, h1⟩ := hc
    refine ⟨fn, hf, hn, .inl ⟨hb, (hC n h0 h1 c.w (hB.var htab)).mono fun e w' he => ?_⟩⟩
    obtain ⟨rfl, k, os, rfl⟩ := he
    refine ⟨_, rfl, below_rets hH (below_grow c.w k os) fun c' => ?_⟩
    rw [fmtInt_eq h0 h1]
    exact .str _

theorem parseInt_ok {f : FuncId} {fn : Func} (hf : P.funcs[f]? = some fn) (hn : (fn.name == "runtime.NumGoroutine") = false) (hb : fn.body.isSome = true) {t e5 tp : TypeId} {gs gr : Nat} {esy era : Value}
    (hok : ∀ (s : ByteArray), s.size ≤ 9223372036854775806 → ∀ v, Lib.parseIntB 64 s.data.toList = .ok v → ∀ (w : World),
      Calls P f #[.string s, .int .i64 10, .int .i64 64] w fun e w' => e = .returned (.tuple #[.int .i64 v, .nilIface]) ∧ (w' = w ∨ ∃ t, w' = Lib.bytesWorld w e5 t))
    (hsy : ∀ (s : ByteArray), s.size ≤ 281474976710656 → (∀ v, Lib.parseIntB 64 s.data.toList ≠ .ok v) → Lib.parseIntB 64 s.data.toList ≠ .range → ∀ (ev : Value) (w : World), w.cell? ⟨gs, 0, none⟩ = some ev → (ev = .nilIface ∨ ∃ te pe, ev = .iface te pe) →
      Calls P f #[.string s, .int .i64 10, .int .i64 64] w fun e w' => ∃ N, e = .returned (.tuple #[.int .i64 0, .iface t (.pointer (some ⟨N, 0, none⟩))]) ∧ w.heap.size ≤ N ∧
        w'.heap[N]? = some (.cells #[.string ⟨#[80, 97, 114, 115, 101, 73, 110, 116]⟩, .string s, ev] tp (0, 0)) ∧ Below w.heap.size w w')
    (hra : ∀ (s : ByteArray), s.size ≤ 281474976710656 → Lib.parseIntB 64 s.data.toList = .range → ∀ (ev : Value) (w : World), w.cell? ⟨gr, 0, none⟩ = some ev → (ev = .nilIface ∨ ∃ te pe, ev = .iface te pe) →
      Calls P f #[.string s, .int .i64 10, .int .i64 64] w fun e w' => ∃ N, e = .returned (.tuple #[.int .i64 (Lib.intSat 64 s.data.toList), .iface t (.pointer (some ⟨N, 0, none⟩))]) ∧ w.heap.size ≤ N ∧
        w'.heap[N]? = some (.cells #[.string ⟨#[80, 97, 114, 115, 101, 73, 110, 116]⟩, .string s, ev] tp (0, 0)) ∧ Below w.heap.size w w')
    (hs0 : w0.cell? ⟨gs, 0, none⟩ = some esy) (hs1 : esy = .nilIface ∨ ∃ te pe, esy = .iface te pe) (hr0 : w0.cell? ⟨gr, 0, none⟩ = some era) (hr1 : era = .nilIface ∨ ∃ te pe, era = .iface te pe) : PrimOK P w0 f (.parseInt t) := by
  intro c args vals v H' clk' hB hH ha h
  have cell : ∀ {g : Nat} {u : Value}, w0.cell? ⟨g, 0, none⟩ = some u → c.w.cell? ⟨g, 0, none⟩ = some u := by
    intro g u hu
    have hlt : g < w0.heap.size := by
      rcases Nat.lt_or_ge g w0.heap.size with h' | h'
      · exact h'
      · simp [World.cell?, Array.getElem?_eq_none h'] at hu
    rw [cell?_of_block (hB.same g hlt).1]; exact hu
  match args, h with
  | [.str s, .int .i64 b, .int .i64 z], h =>
    simp only [evPrim] at h
    split at h
    case isFalse => cases h
    rename_i hc
    obtain ⟨rfl, rfl, hlen⟩ := hc
    obtain ⟨v1, v2, v3, rfl, hv1, hv2, hv3⟩ := args_three ha
    obtain rfl := hv1.str_inv
    obtain rfl := hv2.int_inv
    obtain rfl := hv3.int_inv
    have hsz : (⟨s.toArray⟩ : ByteArray).size = s.length := by simp [ByteArray.size]
    have herr : ∀ (n : Int) (p : Value) (c' : Cx), Rep P c' (.tup [.junk, .ifc t .junk]) (.tuple #[.int .i64 n, .iface t p]) := by
      intro n p c'
      refine .tup rfl fun k a v hk hv => ?_
      match k with
      | 0 => simp at hk hv; subst hk; exact .junk _
      | 1 => simp at hk hv; subst hk; subst hv; exact .ifc (.junk _)
      | k + 2 => simp at hk
    cases hp : Lib.parseIntB 64 s with
    | ok n =>
      simp only [hp] at h
      cases h
      refine ⟨fn, hf, hn, .inl ⟨hb, (hok ⟨s.toArray⟩ (by rw [hsz]; omega) n hp c.w).mono fun e w' he => ?_⟩⟩
      obtain ⟨rfl, hw⟩ := he
      have hbel : Below c.w.heap.size c.w w' := by
        rcases hw with rfl | ⟨x, rfl⟩
        · exact Below.refl _ _
        · exact Lib.bytesWorld_below _ _ _
      refine ⟨_, rfl, below_rets hH hbel fun c' => .tup rfl fun k a v hk hv => ?_⟩
      match k with
      | 0 => simp at hk hv; subst hk; subst hv; exact .int _ _
      | 1 => simp at hk hv; subst hk; subst hv; exact .nilif
      | k + 2 => simp at hk
    | range =>
      simp only [hp] at h
      cases h
      refine ⟨fn, hf, hn, .inl ⟨hb, (hra ⟨s.toArray⟩ (by rw [hsz]; omega) hp era c.w (cell hr0) hr1).mono fun e w' he => ?_⟩⟩
      obtain ⟨N, rfl, _, _, hbel⟩ := he
      exact ⟨_, rfl, below_rets hH hbel fun c' => herr _ _ c'⟩
    | _ =>
      simp only [hp] at h
      cases h
      refine ⟨fn, hf, hn, .inl ⟨hb, (hsy ⟨s.toArray⟩ (by rw [hsz]; omega) (fun v hv => by have := hp.symm.trans hv; cases this) (fun hv => by have := hp.symm.trans hv; cases this) esy c.w (cell hs0) hs1).mono fun e w' he => ?_⟩⟩
      obtain ⟨N, rfl, _, _, hbel⟩ := he
      exact ⟨_, rfl, below_rets hH hbel fun c' => herr _ _ c'⟩

end
end Go.Ev
end

section
/- slices.Sort of numbers: out of the shelf's contract. -/
namespace Go.Ev
open Go.RowKit

theorem insInt_perm (x : Int) : ∀ l : List Int, (insInt x l).Perm (x :: l)
  | [] => List.Perm.refl _
  | y :: ys => by
    unfold insInt
    split
    · exact List.Perm.refl _
    · exact ((insInt_perm x ys).cons y).trans (List.Perm.swap x y ys)

theorem sortInts_perm : ∀ l : List Int, (sortInts l).Perm l
  | [] => List.Perm.refl _
  | x :: xs => (insInt_perm x (sortInts xs)).trans ((sortInts_perm xs).cons x)

theorem insInt_sorted (x : Int) : ∀ l : List Int, l.Pairwise (· ≤ ·) → (insInt x l).Pairwise (· ≤ ·)
  | [], _ => by simp [insInt]
  | y :: ys, h => by
    unfold insInt
    rw [List.pairwise_cons] at h
    split
    · rename_i hxy
      rw [List.pairwise_cons]
      refine ⟨fun z hz => ?_, List.pairwise_cons.2 h⟩
      rcases List.mem_cons.1 hz with rfl | hz
      · exact hxy
      · exact Int.le_trans hxy (h.1 z hz)
    · rename_i hxy
      rw [List.pairwise_cons]
      refine ⟨fun z hz => ?_, insInt_sorted x ys h.2⟩
      rcases List.mem_cons.1 ((insInt_perm x ys).mem_iff.1 hz) with rfl | hz
      · omega
      · exact h.1 z hz

theorem sortInts_sorted : ∀ l : List Int, (sortInts l).Pairwise (· ≤ ·)
  | [] => List.Pairwise.nil
  | x :: xs => insInt_sorted x _ (sortInts_sorted xs)

theorem sortInts_length (l : List Int) : (sortInts l).length = l.length := (sortInts_perm l).length_eq

theorem sortInts_merge (l : List Int) : l.mergeSort (fun x y => decide (x ≤ y)) = sortInts l := by
  refine List.Perm.eq_of_pairwise (le := (· ≤ ·)) (fun a b _ _ h1 h2 => Int.le_antisymm h1 h2) ?_ (sortInts_sorted l) ((List.mergeSort_perm l _).trans (sortInts_perm l).symm)
  have := List.pairwise_mergeSort (le := fun x y : Int => decide (x ≤ y)) (fun a b c h1 h2 => by simp at *; omega) (fun a b => by simp; omega) l
  exact this.imp (fun h => by simpa using h)

theorem mapM_i64 : ∀ {l : List AV} {zs : List Int}, l.mapM i64Of = some zs → l = zs.map (AV.int .i64)
  | [], zs, h => by simp at h; subst h; rfl
  | a :: l, zs, h => by
    simp only [List.mapM_cons, Option.bind_eq_bind, Option.bind_eq_some_iff, Option.pure_def, Option.some.injEq] at h
    obtain ⟨z, hz, zs', hzs, rfl⟩ := h
    rw [mapM_i64 hzs]
    unfold i64Of at hz
    split at hz
    · cases hz; rfl
    · cases hz

section
variable {P : Program} {w0 : World}

theorem sort_ok {f : FuncId} {fn : Func} (hf : P.funcs[f]? = some fn) (hn : (fn.name == "runtime.NumGoroutine") = false) (hb : fn.body.isSome = true)
    (hC : ∀ (blk off cap : Nat) (zs : List Int) (w : World), Sort.Holds (Value.int .i64) w blk off zs.toArray → blk < w.heap.size → zs.length < 4611686018427387904 →
      Calls P f #[.slice (some ⟨blk, off, none⟩) zs.length cap] w fun e w' =>
        e = .returned (.tuple #[]) ∧ ∃ n os, w' = Sort.grow (Sort.putRow (Value.int .i64) (Sort.ahead w n) blk off (zs.mergeSort fun x y => decide (x ≤ y)).toArray) os)
    (hN : ∀ (p : Option Addr) (cap : Nat) (w : World), Calls P f #[.slice p 0 cap] w fun e w' => e = .returned (.tuple #[]) ∧ w' = w) : PrimOK P w0 f .sortI := by
  intro c args vals v H' clk' hB hH ha h
  match args, h with
  | [x], h =>
    obtain ⟨val, rfl, hv⟩ := args_one ha
    simp only [evPrim] at h
    have htup : ∀ c', Rep P c' (.tup []) (.tuple #[]) := fun c' => .tup rfl (fun k a v hk => by simp at hk)
    split at h
    · -- no element
      cases h
      obtain ⟨a, n, rfl⟩ : ∃ a n, val = .slice a 0 n := by
        cases hv with
        | slE _ => exact ⟨_, _, rfl⟩
        | sl _ _ h => exact absurd rfl h
      refine ⟨fn, hf, hn, .inl ⟨hb, (hN a n c.w).mono fun e w' he => ?_⟩⟩
      obtain ⟨rfl, rfl⟩ := he
      exact ⟨_, rfl, c.m, Cx.le.refl c, hH, htup _⟩
    · rename_i i ep off n cap
      split at h
      case h_2 => cases h
      rename_i r hg
      split at h
      case isFalse => cases h
      rename_i hc
      obtain ⟨hown, hesz, hle, hmost⟩ := hc
      split at h
      case h_2 => cases h
      rename_i zs hzs
      cases h
      obtain ⟨cap', rfl, _⟩ := hv.msl_inv (sig_of hg)
      have hseg := mapM_i64 hzs
      have hlen : zs.length = n + 1 := by
        have := congrArg List.length hseg
        simp at this; omega
      have hir := (getO_some hg).1
      have hvr := hH.var i r hir
      obtain ⟨arr, fz, hblk, hfz, hsz, hcells⟩ := hvr.cells
      obtain rfl := hfz hown
      have hlt : c.m i < c.w.heap.size := hH.blt hir
      -- an element
      have helem : ∀ j, j < n + 1 → arr[off + j]? = some (.int .i64 (zs.getD j 0)) := by
        intro j hj
        have he : r.es[off + j]? = some (.int .i64 (zs.getD j 0)) := by
          have h1 : ((r.es.drop off).take (n + 1))[j]? = some (.int .i64 (zs.getD j 0)) := by
            rw [hseg, List.getElem?_map]
            simp [List.getD, List.getElem?_eq_getElem (show j < zs.length by omega)]
          rw [List.getElem?_take, if_pos hj, List.getElem?_drop] at h1
          exact h1
        obtain ⟨u, hu, hr⟩ := hcells (off + j) _ 0 _ he rfl
        rw [hesz] at hu
        rw [hr.int_inv] at hu
        simpa using hu
      have harr : off + (n + 1) ≤ arr.size := by rw [hesz] at hsz; omega
      have hHolds : Sort.Holds (Value.int .i64) c.w (c.m i) off zs.toArray := by
        intro j hj
        have hj' : j < n + 1 := by simp at hj; omega
        have hz : zs.toArray[j]! = zs.getD j 0 := by
          rw [getElem!_pos zs.toArray j hj]; simp [List.getD, List.getElem?_eq_getElem (show j < zs.length by omega)]
        refine ⟨?_, ?_⟩
        · simp only [World.cell?, hblk]
          rw [hz]
          simpa using helem j hj'
        · simp [World.frozen?, hblk]
      have hcall := hC (c.m i) off cap' zs c.w hHolds hlt (by unfold mostLen at hmost; omega)
      rw [hlen] at hcall
      have hoff : off * r.esz = off := by rw [hesz, Nat.mul_one]
      rw [hoff]
      refine ⟨fn, hf, hn, .inl ⟨hb, hcall.mono fun e w' he => ?_⟩⟩
      obtain ⟨rfl, k, os, rfl⟩ := he
      rw [sortInts_merge]
      refine ⟨_, rfl, ?_⟩
      -- the block behind it
      have hsl := sortInts_length zs
      obtain ⟨w1, hw1⟩ : ∃ w1, Sort.putRow (Value.int .i64) (Sort.ahead c.w k) (c.m i) off (sortInts zs).toArray = w1 := ⟨_, rfl⟩
      rw [hw1]
      have hsame : Same c.w w1 := by rw [← hw1]; exact ⟨rfl, rfl, rfl⟩
      have hwsz : w1.heap.size = c.w.heap.size := by rw [← hw1]; exact Sort.size_putRow _ _ _ _ _
      have hmod : ∀ b, w1.heap[b]? = if c.m i = b then (c.w.heap[b]?).map (Sort.onCells (Sort.putCells (Value.int .i64) off (sortInts zs).toArray)) else c.w.heap[b]? := by
        intro b
        rw [← hw1]
        show (c.w.heap.modify (c.m i) _)[b]? = _
        rw [Array.getElem?_modify]
      have hb1 : w1.heap[c.m i]? = some (.cells (Sort.putCells (Value.int .i64) off (sortInts zs).toArray arr) r.ty (0, 0)) := by
        rw [hmod, if_pos rfl, hblk]; rfl
      have hb2 : ∀ b, b ≠ c.m i → w1.heap[b]? = c.w.heap[b]? := fun b hb => by rw [hmod, if_neg (fun e => hb e.symm)]
      have hput := Cx.le.put (P := P) (c := c) hH (w' := w1) hsame (i := i) (r := r)
        (r' := { r with es := r.es.take off ++ (sortInts zs).map (AV.int .i64) ++ r.es.drop (off + (n + 1)), cl := r.cl && true, ver := r.ver + 1 })
        hir hown hown rfl rfl (by
          have := List.length_seg r.es ((sortInts zs).map (AV.int .i64)) off (by simp; omega)
          simp only [List.length_map] at this
          rw [hsl, hlen] at this; exact this) rfl hblk (arr' := Sort.putCells (Value.int .i64) off (sortInts zs).toArray arr) (by simp [Sort.putCells]) hwsz hb1 hb2
        (by
          have hz := hvr.sz
          show okEls r.esz _ = true
          rw [okEls_append, okEls_append, okEls_take hz, okEls_drop hz]
          simp only [Bool.true_and, Bool.and_true]
          rw [hesz]
          simp [okEls, okEl, flat, isCell])
        (by
          intro hcl
          simp only [Bool.and_true] at hcl
          have h0 := hvr.cl hcl
          rw [closedL_append, closedL_append, closedL_take _ _ h0, closedL_drop _ _ h0]
          simp only [Bool.true_and, Bool.and_true]
          induction sortInts zs with
          | nil => rfl
          | cons a l ih => simp [closedL, closed, ih])
        (by
          refine ⟨?_, ?_⟩
          · have h1 := List.length_seg r.es ((sortInts zs).map (AV.int .i64)) off (by simp; omega)
            simp only [List.length_map] at h1
            rw [hsl, hlen] at h1
            show (r.es.take off ++ (sortInts zs).map (AV.int .i64) ++ r.es.drop (off + (n + 1))).length * r.esz ≤ _
            rw [h1]
            simpa [Sort.putCells] using hsz
          · intro q e j a hq hj
            have h1 := List.getElem?_seg r.es ((sortInts zs).map (AV.int .i64)) off q (by simp; omega)
            simp only [List.length_map] at h1
            rw [hsl, hlen] at h1
            have hq' : (r.es.take off ++ (sortInts zs).map (AV.int .i64) ++ r.es.drop (off + (n + 1)))[q]? = some e := hq
            rw [h1] at hq'
            show ∃ v, (Sort.putCells (Value.int .i64) off (sortInts zs).toArray arr)[q * r.esz + j]? = some v ∧ _
            have outside : (q < off ∨ off + (n + 1) ≤ q) → r.es[q]? = some e → ∃ v, (Sort.putCells (Value.int .i64) off (sortInts zs).toArray arr)[q * r.esz + j]? = some v ∧ Rep P c a v := by
              intro hout hq'
              obtain ⟨u, hu, hr⟩ := hcells q e j a hq' hj
              refine ⟨u, ?_, hr⟩
              have hjlt : j < r.esz := by
                have := (List.getElem?_eq_some_iff.1 hj).1
                rw [okEls_len hvr.sz e (List.mem_of_getElem? hq')] at this
                exact this
              rw [hesz] at hjlt hu ⊢
              have hj0 : j = 0 := by omega
              subst hj0
              simp only [Sort.putCells, Array.getElem?_mapIdx, Nat.mul_one, Nat.add_zero] at hu ⊢
              rw [hu]
              simp only [Option.map_some, List.size_toArray]
              rw [if_neg (by rw [hsl, hlen]; omega)]
            split at hq'
            · rename_i hlt1
              exact outside (.inl hlt1) hq'
            split at hq'
            · rename_i hge hin
              rw [List.getElem?_map, Option.map_eq_some_iff] at hq'
              obtain ⟨z, hz, rfl⟩ := hq'
              have hj0 : j = 0 := by
                match j, hj with
                | 0, _ => rfl
                | j + 1, hj => simp [flat] at hj
              subst hj0
              simp [flat] at hj
              subst hj
              refine ⟨.int .i64 z, ?_, .int _ _⟩
              rw [hesz]
              simp only [Sort.putCells, Array.getElem?_mapIdx, Nat.mul_one, Nat.add_zero]
              have hlt2 : q < arr.size := by omega
              rw [Array.getElem?_eq_getElem hlt2]
              simp only [Option.map_some, List.size_toArray]
              rw [if_pos (by omega)]
              have hzlt : q - off < (sortInts zs).length := by omega
              rw [getElem!_pos (sortInts zs).toArray (q - off) (by simpa using hzlt)]
              rw [List.getElem?_eq_getElem hzlt] at hz
              simp only [Option.some.injEq] at hz
              simp [hz]
            · rename_i hge hout
              exact outside (.inr (by omega)) hq')
      obtain ⟨p1, p2⟩ := hput
      obtain ⟨p3, p4⟩ := Cx.le.world p2 (w' := Sort.grow w1 os) ⟨rfl, rfl, rfl⟩ (by show _ ≤ (w1.heap ++ os).size; simp) (fun b hb => by show (w1.heap ++ os)[b]? = _; rw [Array.getElem?_append, if_pos hb])
      exact ⟨c.m, p1.trans p3, p4, htup _⟩
    · cases h

end
end Go.Ev
end

section
/- A search tree's table is the program's. -/
namespace Go.Ev

def FDOK (P : Program) (w0 : World) (f : Nat) : FD → Prop
  | .code cf => ∃ fn code, CodeOK P f cf fn code
  | .prim p => PrimOK P w0 f p
  | .iter k => IterOK P f k

theorem Tr.tok {P : Program} {w0 : World} {t : Tr} (h : t.All (FDOK P w0)) : TOK P w0 t.find :=
  ⟨fun _ _ hf => Tr.find_all h hf, fun _ _ hf => Tr.find_all h hf, fun _ _ hf => Tr.find_all h hf⟩

end Go.Ev
end

section
/- From the evaluator's answer to the model's call. -/
namespace Go.Ev
open Go.RowKit

/-- the context at the start: nobody owns anything -/
def cx0 (W : World) : Cx := ⟨[], fun _ => 0, 0, W, fun _ => False⟩

theorem cx0_HR (P : Program) (W : World) : HR P (cx0 W) :=
  ⟨fun i j o o' h => by simp [cx0] at h, fun i r h => by simp [cx0] at h, fun i es ep ver h => by simp [cx0] at h, fun b h => h.elim⟩

theorem cx0_own (W : World) (b : Nat) : ¬ (cx0 W).Own b := by
  rintro ⟨i, o, h, _⟩; simp [cx0] at h

theorem cx0_Bs (W : World) : Bs W (cx0 W) := ⟨Nat.le_refl _, fun b _ => ⟨rfl, cx0_own W b, fun h => h⟩⟩

theorem cx0_still {W : World} {b : Nat} (h : b < W.heap.size) : (cx0 W).Still b := ⟨h, cx0_own W b, fun h => h⟩

theorem below_of_le {W w' : World} {H : Heap} {m : Nat → Nat} {clk : Nat} {x : Nat → Prop} (h : (cx0 W).le ⟨H, m, clk, w', x⟩) : Below W.heap.size W w' :=
  ⟨h.os, h.tape, h.output, h.size, fun b hb => h.still b hb (cx0_own W b) (fun h => h.elim)⟩

theorem ev_calls {P : Program} {T : Tbl} {W : World} (hT : TOK P W T) (hm : P.follows .mixedOrders = true) {n f : Nat} {args : List AV} {vals : Array Value} {v : AV} {H' : Heap} {clk' : Nat} (hargs : ArgsR P (cx0 W) args vals)
    (hev : evCall T n f args [] 0 = some (v, H', clk')) {fn : Func} (hf : P.funcs[f]? = some fn) (hb : fn.body.isSome = true) :
    Calls P f vals W fun e w' => ∃ val m', e = .returned val ∧ Below W.heap.size W w' ∧ Rep P ⟨H', m', clk', w', fun _ => False⟩ v val := by
  obtain ⟨fn', hf', _, h⟩ := (sound hT (dregS hm) (rfunS hT) n).1 (cx0 W) f args vals v H' clk' (cx0_Bs W) (cx0_HR P W) hargs hev
  rw [hf] at hf'; cases hf'
  rcases h with ⟨_, h⟩ | ⟨h, _⟩
  · refine h.mono fun e w' he => ?_
    obtain ⟨val, rfl, m', h1, h2, h3⟩ := he
    exact ⟨val, m', rfl, below_of_le h1, h3⟩
  · rw [h] at hb; cases hb

/-- a law that answers a truth -/
theorem ev_law {P : Program} {T : Tbl} {W : World} (hT : TOK P W T) (hm : P.follows .mixedOrders = true) {n f : Nat} {args : List AV} {vals : Array Value} {b : Bool} {H' : Heap} {clk' : Nat} (hargs : ArgsR P (cx0 W) args vals)
    (hev : evCall T n f args [] 0 = some (.bool b, H', clk')) {fn : Func} (hf : P.funcs[f]? = some fn) (hb : fn.body.isSome = true) :
    Calls P f vals W fun e w' => e = .returned (.bool b) ∧ Below W.heap.size W w' :=
  (ev_calls hT hm hargs hev hf hb).mono fun e w' ⟨val, m', he, h1, h2⟩ => ⟨by rw [he, h2.bool_inv], h1⟩

end Go.Ev
end

section
/- slices.Clone. -/
namespace Go.Ev

/-- the body of slices.Clone -/
def cloneCF (ty esz : Nat) (zero : AV) : CF := ⟨1, 8, [.tmp 2],
 .seq (.reg [
  ⟨some 2, .mv (.c (.sl [] .nil)), none⟩]) (
  .seq (.seq (.reg [
  ⟨some 3, .mv (.t 0), none⟩,
  ⟨some 4, .eqv false .s (.t 3) (.c (.sl [] .nil)), none⟩]) (
  .cond (.t 4) (.seq (.reg [
   ⟨some 2, .mv (.c (.sl [] .nil)), none⟩]) (
   .ret)) (.skip))) (
  .seq (.reg [
  ⟨some 5, .mkSl ty esz zero 0 [], none⟩,
  ⟨some 6, .mv (.t 0), none⟩,
  ⟨some 7, .app ty esz (.t 5) (.t 6), none⟩,
  ⟨some 2, .mv (.t 7), none⟩]) (
  .ret))), true⟩

/-- no function -/
def T0 : Tbl := fun _ => none

section
variable {P : Program} {w0 : World}

theorem TOK0 : TOK P w0 T0 := ⟨fun f cf h => (by cases h), fun f p h => (by cases h), fun f k h => (by cases h)⟩

theorem codeS0 (hm : P.follows .mixedOrders = true) (n : Nat) : CodeS P w0 T0 n := (sound TOK0 (dregS hm) (rfunS TOK0) n).2.2.1

theorem rep_ex0 {c : Cx} {v : Value} {cap : Cp} (h : Rep P c (.sl [] cap) v) (hc : cap = .nil ∨ cap = .ex 0) : Rep P c (.sl [] (.ex 0)) v := by
  cases h with
  | slE h =>
    rcases hc with rfl | rfl
    · exact .slE h.2
    · exact .slE h
  | sl _ _ h => exact absurd rfl h

theorem clone_run {ty esz : Nat} {zero : AV} (hz : okEl esz zero = true) {x v : AV} {ys : List AV} {cl : Bool} {H H' : Heap} {clk clk' h0 c0 : Nat} (hx : eqSl H x (.sl [] .nil) = some false) (hel : elems H x = some (ys, cl))
    (happ : append ty esz (.sl [] (.ex 0)) ys cl H clk = some (v, H', clk')) :
    ∃ env, evCode T0 20 h0 c0 (cloneCF ty esz zero).body { env := [x] ++ List.replicate (8 - 1) .junk, H, clk } = some (.ret, { env, H := H', clk := clk' }) ∧ env.getD 2 .junk = v := by
  refine ⟨_, by simp [cloneCF, evCode, evOps, goes, putSt, evR, evOp, COp.map, eqv, hx, hel, happ, hz, fillE, closedL]; rfl, rfl⟩

theorem app_new {ty esz : Nat} {ys : List AV} {cl : Bool} {H : Heap} {clk : Nat} (hne : ys ≠ []) (hz : okEls esz ys = true) (hl : ys.length ≤ mostLen) :
    append ty esz (.sl [] (.ex 0)) ys cl H clk = some (.msl H.length clk 0 ys.length none, H ++ [.var ⟨true, ty, esz, ys, cl, clk, 0⟩], clk + 1) := by
  have h1 : ys.isEmpty = false := by cases ys <;> simp at hne ⊢
  have h2 : 0 < ys.length := by cases ys <;> simp at hne ⊢
  have h3 : okEls esz ([] : List AV) = true := rfl
  simp [append, hz, h1, Cp.exact, hl, h2, h3]

theorem clone_ok (hm : P.follows .mixedOrders = true) {f : FuncId} {fn : Func} {code : Code} {ty esz : Nat} {zero : AV} (hok : CodeOK P f (cloneCF ty esz zero) fn code) (hz : okEl esz zero = true) : PrimOK P w0 f (.clone ty esz) := by
  intro c args vals v H' clk' hB hH ha h
  match args, h with
  | [x], h =>
    obtain ⟨val, rfl, hv⟩ := args_one ha
    -- the run, on what stands for the argument
    have go : ∀ (x' r : AV) (H2 : Heap) (clk2 : Nat), Rep P c x' val →
        (∃ env, evCode T0 20 c.H.length c.clk (cloneCF ty esz zero).body { env := [x'] ++ List.replicate (8 - 1) .junk, H := c.H, clk := c.clk } = some (.ret, { env, H := H2, clk := clk2 }) ∧ env.getD 2 .junk = r) →
        (∀ (c' : Cx) (u : Value), Rep P c' r u → c'.H = H2 → c'.clk = clk2 → H2 = H' ∧ clk2 = clk' ∧ Rep P c' v u) → CallOK P f #[val] c.w (Rets P c v H' clk') := by
      rintro x' r H2 clk2 hx' ⟨env, hev, hr⟩ hfin
      refine enter_wp (ce := c) hok (env := [x']) (vals := #[val]) ⟨rfl, fun k a u hk hu => ?_⟩ hB hH (codeS0 hm 20) hev (.inr rfl) fun a w m h1 h2 h3 => ?_
      · match k with
        | 0 => simp at hk hu; subst hk; subst hu; exact hx'
        | k + 1 => simp at hk
      · have hres : result (cloneCF ty esz zero) { env, H := H2, clk := clk2 } = some (env.getD 2 .junk) := rfl
        obtain ⟨u, hu, hrep⟩ := result_sound (c := ⟨H2, m, clk2, w, c.x⟩) h2 hok.res rfl h3 hres
        rw [hr] at hrep
        obtain ⟨e1, e2, e3⟩ := hfin _ u hrep rfl rfl
        simp only at h1 h2
        subst e1
        subst e2
        exact ⟨u, hu, m, h1, h2, e3⟩
    simp only [evPrim, slElems] at h
    have hz0 : okEls esz [] = true := rfl
    -- an empty slice
    have empty : ∀ cap, Rep P c (.sl [] cap) val → v = .sl [] (.ex 0) → H' = c.H → clk' = c.clk → CallOK P f #[val] c.w (Rets P c v H' clk') := by
      rintro cap hr rfl rfl rfl
      obtain ⟨a, n, rfl⟩ : ∃ a n, val = .slice a 0 n := by
        cases hr with
        | slE _ => exact ⟨_, _, rfl⟩
        | sl _ _ h => exact absurd rfl h
      cases a with
      | none =>
        refine go (.sl [] .nl) (.sl [] .nil) c.H c.clk (.slE rfl) ⟨_, by simp [cloneCF, evCode, evOps, goes, putSt, evR, evOp, COp.map, eqv, eqSl]; rfl, rfl⟩ fun c' u hu _ _ => ⟨rfl, rfl, rep_ex0 hu (.inl rfl)⟩
      | some a =>
        refine go (.sl [] .nn) (.sl [] (.ex 0)) c.H c.clk (.slE (by simp [capOK])) ⟨_, by simp [cloneCF, evCode, evOps, goes, putSt, evR, evOp, COp.map, eqv, eqSl, elems, append, okEls, hz, fillE, closedL]; rfl, rfl⟩ fun c' u hu _ _ => ⟨rfl, rfl, hu⟩
    cases x with
    | sl es cap =>
      simp only [elems] at h
      cases es with
      | nil =>
        simp only [List.isEmpty_nil, if_true, Option.some.injEq, Prod.mk.injEq] at h
        obtain ⟨rfl, rfl, rfl⟩ := h
        exact empty cap hv rfl rfl rfl
      | cons e es =>
        simp only [List.isEmpty_cons, Bool.false_eq_true, if_false] at h
        split at h
        case isFalse => cases h
        rename_i hc
        simp only [Option.some.injEq, Prod.mk.injEq] at h
        obtain ⟨rfl, rfl, rfl⟩ := h
        exact go (.sl (e :: es) cap) _ _ _ hv (clone_run hz rfl rfl (app_new (by simp) hc.1 hc.2)) fun c' u hu _ _ => ⟨rfl, rfl, hu⟩
    | msl i ep off n cap =>
      cases hel : elems c.H (.msl i ep off n cap) with
      | none => simp [hel] at h
      | some p =>
        obtain ⟨ys, cl⟩ := p
        simp only [hel] at h
        have hx : eqSl c.H (.msl i ep off n cap) (.sl [] .nil) = some false := by
          simp only [elems] at hel
          cases hg : getO c.H i ep with
          | none => simp [hg] at hel
          | some r => simp [eqSl, hg]
        split at h
        · rename_i hemp
          simp only [Option.some.injEq, Prod.mk.injEq] at h
          obtain ⟨rfl, rfl, rfl⟩ := h
          have hys : ys = [] := List.isEmpty_iff.1 hemp
          subst hys
          exact go _ (.sl [] (.ex 0)) _ _ hv (clone_run hz hx hel (by simp [append, okEls])) fun c' u hu _ _ => ⟨rfl, rfl, hu⟩
        · rename_i hne
          split at h
          case isFalse => cases h
          rename_i hc
          simp only [Option.some.injEq, Prod.mk.injEq] at h
          obtain ⟨rfl, rfl, rfl⟩ := h
          exact go _ _ _ _ hv (clone_run hz hx hel (app_new (fun e => hne (by simp [e])) hc.1 hc.2)) fun c' u hu _ _ => ⟨rfl, rfl, hu⟩
    | _ => simp [elems] at h

end
end Go.Ev
end

section
/- Iterators of slices: what is asked of them out of their walks. -/
namespace Go.Ev

section
variable {P : Program}

theorem boxed_some {c : Cx} (hH : HR P c) {x y : AV} {v : Value} (hx : Rep P c x v) (h : boxed c.H x = some y) :
    ∃ B u, v = .pointer (some ⟨B, 0, none⟩) ∧ c.Still B ∧ (∀ a, (flat y)[0]? = some a → c.w.cell? ⟨B, 0, none⟩ = some u ∧ Rep P c a u) := by
  unfold boxed at h
  split at h
  case h_2 => cases h
  rename_i i ep
  split at h
  case h_2 => cases h
  rename_i r hg
  split at h
  · cases h
  rename_i hown
  split at h
  case h_2 => cases h
  rename_i w hes
  cases h
  obtain ⟨hv, _⟩ := hx.ptr_inv (sig_of hg)
  have hir := (getO_some hg).1
  have hvr := hH.var i r hir
  have hst : c.Still (c.m i) := ⟨hH.blt hir, hvr.frz (by simpa using hown), hvr.x⟩
  cases hf : (flat y)[0]? with
  | none => exact ⟨c.m i, undef, by rw [hv]; simp, hst, fun a ha => (by cases ha)⟩
  | some a0 =>
    obtain ⟨u, h1, h2⟩ := hH.cell hg (k := 0) (j := 0) (e := y) (a := a0) (by rw [hes]; rfl) hf
    refine ⟨c.m i, u, by rw [hv]; simp, hst, fun a ha => ?_⟩
    cases ha
    exact ⟨by simpa using h1, h2⟩

def i64At (es : List AV) (j : Nat) : Int :=
  match es[j]? with
  | some (.int _ n) => n
  | _ => 0

theorem ints_ok {f : FuncId} (hent : ∀ args w, (callFunc f args).run P w = .ok (.enter f args) w)
    (hV : ∀ (N l Bx b off len cap : Nat) (vs : Nat → Int), len * 8 ≤ 140737488351232 → ∀ (Ro : Nat → Prop), Ro Bx → Ro b → ∀ (J Jx : Nat → World → Prop),
      (∀ j W, J j W → j < len → YieldAt Fence.wide (N - 1) P l #[.int .i64 (vs j)] W fun e W' =>
        (e = .returned (.bool true) ∧ J (j + 1) W' ∧ ∀ b, Ro b → W'.heap[b]? = W.heap[b]?) ∨ (e = .returned (.bool false) ∧ Jx (j + 1) W')) →
      ∀ (W : World), W.cell? ⟨Bx, 0, none⟩ = some (.slice (some ⟨b, off, none⟩) len cap) → (∀ j, j < len → W.cell? ⟨b, off + j, none⟩ = some (.int .i64 (vs j))) → J 0 W →
        CallsIn Fence.wide N P f #[.func (.yield l) #[] #[], .pointer (some ⟨Bx, 0, none⟩)] W fun e W' => (∃ v, e = .returned v) ∧ (J len W' ∨ ∃ j, Jx j W'))
    (hN : ∀ (N l Bx cap : Nat) (a : Option Addr) (J : Nat → World → Prop) (W : World), W.cell? ⟨Bx, 0, none⟩ = some (.slice a 0 cap) → J 0 W →
        CallsIn Fence.wide N P f #[.func (.yield l) #[] #[], .pointer (some ⟨Bx, 0, none⟩)] W fun e W' => (∃ v, e = .returned v) ∧ J 0 W') : IterOK P f .ints := by
  intro c caps vals its hH ha hits
  match caps, hits with
  | [x], hits =>
    obtain ⟨v, rfl, hv⟩ := args_one ha
    simp only [items] at hits
    split at hits
    case h_2 => cases hits
    rename_i es cap hbox
    split at hits
    case isFalse => cases hits
    rename_i hc
    cases hits
    simp only [Bool.and_eq_true, decide_eq_true_eq, List.all_eq_true] at hc
    obtain ⟨B, u, rfl, hst, hcell⟩ := boxed_some hH hv hbox
    obtain ⟨hcu, hru⟩ := hcell (.sl es cap) rfl
    have hint : ∀ (j : Nat) e, es[j]? = some e → e = .int .i64 (i64At es j) := by
      intro j e he
      have := hc.1 e (List.mem_of_getElem? he)
      unfold isI64 at this
      split at this
      · simp [i64At, he]
      · cases this
    refine ⟨fun j => #[.int .i64 (i64At es j)], ?_, hent, ?_⟩
    · intro j it hj
      rw [List.getElem?_map, Option.map_eq_some_iff] at hj
      obtain ⟨e, he, rfl⟩ := hj
      obtain rfl := hint j e he
      exact ⟨_, _, rfl, rfl, rfl, .int _ _⟩
    · intro N l J Jx W hW hJ hJx hY h0
      rw [List.length_map]
      have hcW : W.cell? ⟨B, 0, none⟩ = some u := by rw [cell?_of_block (hW B hst)]; exact hcu
      cases hru with
      | slE _ =>
        exact (hN N l B _ _ J W hcW h0).mono fun e W' ⟨h1, h2⟩ => ⟨h1, .inl h2⟩
      | @sl _ _ b off n esz g hne hn hcap hb hcl hsz hf hr =>
        have hcells : ∀ j, j < es.length → W.cell? ⟨b, off + j, none⟩ = some (.int .i64 (i64At es j)) := by
          intro j hj
          have he := List.getElem?_eq_getElem hj
          have hi := hint j _ he
          have hfl : flat es[j] = [es[j]] := by rw [hi]; rfl
          have hone : esz = 1 := by rw [← hsz es[j] (List.getElem_mem hj), hfl]; rfl
          subst hone
          have h1 := hf j _ 0 es[j] he (by rw [hfl]; rfl)
          have h2 := hr j _ 0 es[j] he (by rw [hfl]; rfl)
          rw [hi] at h2
          rw [h2.int_inv] at h1
          rw [cell?_of_block (hW b hb)]
          simpa using h1
        refine hV N l B b off es.length n (i64At es) (by unfold mostLen at hc; omega) c.Still hst hb J Jx (fun j W1 hj hlt => ?_) W hcW hcells h0
        have := hY (N - 1) j W1 hj (by rw [List.length_map]; exact hlt)
        exact this

end
end Go.Ev
end
