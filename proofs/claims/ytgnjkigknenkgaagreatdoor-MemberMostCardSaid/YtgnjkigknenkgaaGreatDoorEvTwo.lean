/- The evaluator is sound for calls, loops, drawn regions and ranges over functions; under the conditions that each theorem names. -/
import Derived.Test.YtgnjkigknenkgaaGreatDoorEvOne
import Derived.Scope
import Derived.OrdersIn
import Derived.LoopNIn
import Derived.RangeFuncRecord
import Derived.RangeFuncCalls
import Derived.Orders
section
/- Values moved from context to context; what is read of a heap at once ('view'). -/
namespace Go.Ev

section
variable {P : Program}

theorem closed_flat {v : AV} (h : closed v = true) : ∀ a ∈ flat v, closed a = true := by
  intro a ha
  cases v <;> first
    | (simp only [flat, List.mem_singleton] at ha; subst ha; exact h)
    | (simp only [flat] at ha; simp only [closed] at h; exact closedL_mem h a ha)

/-- a closed value stands in another context, where what is still is still -/
theorem Rep.move {c c' : Cx} (hs : ∀ b, c.Still b → c'.Still b ∧ ∀ o, c'.w.cell? ⟨b, o, none⟩ = c.w.cell? ⟨b, o, none⟩) {a : AV} {v : Value} (h : Rep P c a v) : closed a = true → Rep P c' a v := by
  induction h with
  | int k n => intro _; exact .int k n
  | bool b => intro _; exact .bool b
  | str s => intro _; exact .str s
  | nilp => intro _; exact .nilp
  | ptr h hc => intro hcl; simp [closed] at hcl
  | ptrS a h hc => intro hcl; simp [closed] at hcl
  | @iptr v b off f hb hcl hf hr ih =>
    intro _
    refine .iptr f (hs b hb).1 hcl (fun x a hx => ?_) (fun x a hx => ih x a hx (closed_flat hcl a (List.mem_of_getElem? hx)))
    rw [(hs b hb).2]; exact hf x a hx
  | slE h => intro _; exact .slE h
  | @sl es cap b off n esz f hne hn hcap hb hcl hsz hf hr ih =>
    intro _
    refine .sl esz f hne hn hcap (hs b hb).1 hcl hsz (fun k e j a hk hj => ?_) (fun k e j a hk hj => ih k e j a hk hj (closed_flat (closedL_mem hcl e (List.mem_of_getElem? hk)) a (List.mem_of_getElem? hj)))
    rw [(hs b hb).2]; exact hf k e j a hk hj
  | msl => intro hcl; simp [closed] at hcl
  | mslS => intro hcl; simp [closed] at hcl
  | agg hl h ih => intro hcl; simp only [closed] at hcl; exact .agg hl (fun k a v h1 h2 => ih k a v h1 h2 (closedL_mem hcl a (List.mem_of_getElem? h1)))
  | tup hl h ih => intro hcl; simp only [closed] at hcl; exact .tup hl (fun k a v h1 h2 => ih k a v h1 h2 (closedL_mem hcl a (List.mem_of_getElem? h1)))
  | fn hl h ih => intro hcl; simp only [closed] at hcl; exact .fn hl (fun k a v h1 h2 => ih k a v h1 h2 (closedL_mem hcl a (List.mem_of_getElem? h1)))
  | nilfn => intro _; exact .nilfn
  | ifc h ih => intro hcl; simp only [closed] at hcl; exact .ifc (ih hcl)
  | nilif => intro _; exact .nilif
  | map r => intro hcl; simp [closed] at hcl
  | nilmap => intro _; exact .nilmap
  | junk v => intro hcl; simp [closed] at hcl

theorem scalarL_mem {es : List AV} (h : scalarL es = true) : ∀ e ∈ es, scalar e = true := by
  induction es with
  | nil => intro e he; cases he
  | cons x es ih =>
    simp only [scalarL, Bool.and_eq_true] at h
    intro e he
    rcases List.mem_cons.1 he with rfl | he
    · exact h.1
    · exact ih h.2 e he

theorem Rep.scalar {c c' : Cx} {a : AV} {v : Value} (h : Rep P c a v) : scalar a = true → Rep P c' a v := by
  induction h with
  | int k n => intro _; exact .int k n
  | bool b => intro _; exact .bool b
  | str s => intro _; exact .str s
  | nilp => intro _; exact .nilp
  | agg hl h ih => intro hcl; simp only [Ev.scalar] at hcl; exact .agg hl (fun k a v h1 h2 => ih k a v h1 h2 (scalarL_mem hcl a (List.mem_of_getElem? h1)))
  | tup hl h ih => intro hcl; simp only [Ev.scalar] at hcl; exact .tup hl (fun k a v h1 h2 => ih k a v h1 h2 (scalarL_mem hcl a (List.mem_of_getElem? h1)))
  | nilfn => intro _; exact .nilfn
  | nilif => intro _; exact .nilif
  | nilmap => intro _; exact .nilmap
  | _ => intro hcl; simp [Ev.scalar] at hcl

theorem mapM_some {α β : Type} {f : α → Option β} : ∀ {l : List α} {l' : List β}, l.mapM f = some l' → l'.length = l.length ∧ ∀ (k : Nat) x, l[k]? = some x → ∃ y, l'[k]? = some y ∧ f x = some y
  | [], l', h => by simp at h; subst h; exact ⟨rfl, by simp⟩
  | a :: l, l', h => by
    simp only [List.mapM_cons, Option.bind_eq_bind, Option.bind_eq_some_iff, Option.pure_def, Option.some.injEq] at h
    obtain ⟨b, hb, bs, hbs, rfl⟩ := h
    obtain ⟨h1, h2⟩ := mapM_some hbs
    refine ⟨by simp [h1], fun k x hk => ?_⟩
    cases k with
    | zero => simp at hk; subst hk; exact ⟨b, rfl, hb⟩
    | succ k => simp at hk; obtain ⟨y, hy, hf⟩ := h2 k x hk; exact ⟨y, by simpa using hy, hf⟩

/-- the pairs the other way round -/
theorem mapM_some' {α β : Type} {f : α → Option β} {l : List α} {l' : List β} (h : l.mapM f = some l') {k : Nat} {y : β} (hk : l'[k]? = some y) : ∃ x, l[k]? = some x ∧ f x = some y := by
  obtain ⟨h1, h2⟩ := mapM_some h
  have hlt : k < l.length := by rw [← h1]; exact (List.getElem?_eq_some_iff.1 hk).1
  obtain ⟨y', hy', hf⟩ := h2 k l[k] (List.getElem?_eq_getElem hlt)
  rw [hk] at hy'; cases hy'
  exact ⟨_, List.getElem?_eq_getElem hlt, hf⟩

theorem closedL_of {es : List AV} (h : ∀ (k : Nat) e, es[k]? = some e → closed e = true) : closedL es = true := by
  induction es with
  | nil => rfl
  | cons x es ih =>
    simp only [closedL, Bool.and_eq_true]
    exact ⟨h 0 x rfl, ih fun k e hk => h (k + 1) e (by simpa using hk)⟩

theorem viewF_shape {fr : Bool} {H : Heap} {n : Nat} {v u : AV} (h : viewF fr H n v = some u) : (∃ cs us, v = .agg cs ∧ u = .agg us ∧ us.length = cs.length) ∨ (flat v = [v] ∧ flat u = [u]) := by
  cases n with
  | zero => cases h
  | succ n =>
    cases v <;> simp only [viewF] at h
    case agg cs =>
      rw [Option.map_eq_some_iff] at h
      obtain ⟨us, hus, rfl⟩ := h
      exact .inl ⟨cs, us, rfl, rfl, (mapM_some hus).1⟩
    all_goals right; refine ⟨rfl, ?_⟩
    all_goals first
      | (cases h; done)
      | (cases h; rfl)
      | (rw [Option.map_eq_some_iff] at h; obtain ⟨us, hus, rfl⟩ := h; rfl)
      | (split at h
         · split at h
           · split at h
             · cases h; rfl
             · rw [Option.map_eq_some_iff] at h; obtain ⟨us, hus, rfl⟩ := h; rfl
           · cases h
         · cases h)

theorem viewF_closed {fr : Bool} {H : Heap} : ∀ {n : Nat} {v u : AV}, viewF fr H n v = some u → closed u = true := by
  intro n
  induction n with
  | zero => intro v u h; cases h
  | succ n ih =>
    intro v u h
    have hl : ∀ {cs us : List AV}, cs.mapM (viewF fr H n) = some us → closedL us = true := by
      intro cs us hus
      exact closedL_of fun k e hk => let ⟨x, _, hx⟩ := mapM_some' hus hk; ih hx
    cases v <;> simp only [viewF] at h
    all_goals first
      | (cases h; done)
      | (cases h; rfl)
      | (rw [Option.map_eq_some_iff] at h; obtain ⟨us, hus, rfl⟩ := h; simp only [closed]; first | exact hl hus | exact ih hus)
      | (split at h
         · split at h
           · split at h
             · cases h; rfl
             · rw [Option.map_eq_some_iff] at h; obtain ⟨us, hus, rfl⟩ := h; rfl
           · cases h
         · cases h)

/-- the context of what was read at once -/
def pureCx (c : Cx) (x : Nat → Prop) : Cx := ⟨[], fun _ => 0, 0, c.w, x⟩

theorem pureCx_own (c : Cx) (x : Nat → Prop) (b : Nat) : ¬ (pureCx c x).Own b := by
  rintro ⟨i, o, h, _⟩; simp [pureCx] at h

theorem viewF_sound {c : Cx} (hH : HR P c) {fr : Bool} {x : Nat → Prop} (hS : ∀ b, c.Still b → ¬ x b) (hV : ∀ (i : Nat) (r : VO), c.H[i]? = some (.var r) → (fr && r.own) = false → ¬ x (c.m i)) :
    ∀ {n : Nat} {v u : AV} {val : Value}, viewF fr c.H n v = some u → Rep P c v val → Rep P (pureCx c x) u val := by
  have hmv : ∀ {a : AV} {v : Value}, Rep P c a v → closed a = true → Rep P (pureCx c x) a v := fun h hc =>
    Rep.move (c := c) (c' := pureCx c x) (fun b hb => ⟨⟨hb.1, pureCx_own c x b, hS b hb⟩, fun _ => rfl⟩) h hc
  intro n
  induction n with
  | zero => intro v u val h; cases h
  | succ n ih =>
    intro v u val h hr
    have hl : ∀ {cs us : List AV} {vs : Array Value}, cs.mapM (viewF fr c.H n) = some us → vs.size = cs.length → (∀ (k : Nat) a v, cs[k]? = some a → vs[k]? = some v → Rep P c a v) →
        vs.size = us.length ∧ ∀ (k : Nat) a v, us[k]? = some a → vs[k]? = some v → Rep P (pureCx c x) a v := by
      intro cs us vs hus hsz hr
      refine ⟨by rw [hsz, (mapM_some hus).1], fun k a v hk hv => ?_⟩
      obtain ⟨y, hy, hf⟩ := mapM_some' hus hk
      exact ih hf (hr k y v hy hv)
    cases v with
    | sl es cap =>
      simp only [viewF, Option.some.injEq] at h
      subst h
      cases hr with
      | slE hc => exact .slE trivial
      | sl esz f hne hn hcap hb hcl hsz hf hr =>
        refine .sl esz f hne hn trivial ⟨hb.1, pureCx_own c x _, hS _ hb⟩ hcl hsz hf (fun k e j a hk hj => hmv (hr k e j a hk hj) (closed_flat (closedL_mem hcl e (List.mem_of_getElem? hk)) a (List.mem_of_getElem? hj)))
    | agg cs =>
      simp only [viewF, Option.map_eq_some_iff] at h
      obtain ⟨us, hus, rfl⟩ := h
      cases hr with
      | agg hsz hr => obtain ⟨h1, h2⟩ := hl hus hsz hr; exact .agg h1 h2
    | tup cs =>
      simp only [viewF, Option.map_eq_some_iff] at h
      obtain ⟨us, hus, rfl⟩ := h
      cases hr with
      | tup hsz hr => obtain ⟨h1, h2⟩ := hl hus hsz hr; exact .tup h1 h2
    | fn f cs =>
      simp only [viewF, Option.map_eq_some_iff] at h
      obtain ⟨us, hus, rfl⟩ := h
      cases hr with
      | fn hsz hr => obtain ⟨h1, h2⟩ := hl hus hsz hr; exact .fn h1 h2
    | ifc t w =>
      simp only [viewF, Option.map_eq_some_iff] at h
      obtain ⟨u', hu, rfl⟩ := h
      cases hr with
      | ifc hr => exact .ifc (ih hu hr)
    | msl i ep off k cap =>
      simp only [viewF] at h
      split at h
      case h_2 => cases h
      rename_i r hg
      split at h
      case isFalse => cases h
      rename_i hcond
      obtain ⟨hle, hfr⟩ := hcond
      obtain ⟨cap', rfl, hk, _, _, _, _⟩ := hr.msl_inv (sig_of hg)
      obtain ⟨hri, hrep⟩ := getO_some hg
      have hv := hH.var i r hri
      have hstill : (pureCx c x).Still (c.m i) := ⟨hH.blt hri, pureCx_own c x _, hV i r hri hfr⟩
      have hidx : ∀ q, q < k → ((r.es.drop off).take k)[q]? = r.es[off + q]? := by intro q hq; simp [hq]
      have hlen : ((r.es.drop off).take k).length = k := by simp; omega
      -- elements and what stands for them
      have fin : ∀ us : List AV, us.length = k → closedL us = true → (∀ (q : Nat) e, us[q]? = some e → (flat e).length = r.esz) →
          (∀ (q : Nat) e j a, us[q]? = some e → (flat e)[j]? = some a → ∃ w, c.w.cell? ⟨c.m i, (off + q) * r.esz + j, none⟩ = some w ∧ Rep P (pureCx c x) a w) →
          Rep P (pureCx c x) (.sl us .unk) (.slice (some ⟨c.m i, off * r.esz, none⟩) k cap') := by
        intro us hul hcl hfl hcells
        by_cases hne : us = []
        · subst hne
          simp at hul
          subst hul
          exact .slE trivial
        · have hcell : ∀ (q : Nat) e j a, us[q]? = some e → (flat e)[j]? = some a → c.w.cell? ⟨c.m i, off * r.esz + (q * r.esz + j), none⟩ = some ((c.w.cell? ⟨c.m i, off * r.esz + (q * r.esz + j), none⟩).getD undef) := by
            intro q e j a hq hj
            obtain ⟨w, hw, _⟩ := hcells q e j a hq hj
            rw [show off * r.esz + (q * r.esz + j) = (off + q) * r.esz + j by rw [Nat.add_mul]; omega, hw]; rfl
          have := Rep.sl (P := P) (c := pureCx c x) (es := us) (cap := .unk) (b := c.m i) (off := off * r.esz) (n := cap') r.esz (fun q j => (c.w.cell? ⟨c.m i, off * r.esz + (q * r.esz + j), none⟩).getD undef) hne (by rw [hul]; exact hk) trivial hstill hcl
            (fun e he => let ⟨q, hq⟩ := List.getElem?_of_mem he; hfl q e hq) (fun q e j a hq hj => hcell q e j a hq hj) (fun q e j a hq hj => by
              obtain ⟨w, hw, hrw⟩ := hcells q e j a hq hj
              rw [show off * r.esz + (q * r.esz + j) = (off + q) * r.esz + j by rw [Nat.add_mul]; omega, hw]; exact hrw)
          rw [hul] at this
          exact this
      split at h
      · rename_i hcl
        cases h
        have hclL : closedL ((r.es.drop off).take k) = true := closedL_take _ _ (closedL_drop _ _ (hv.cl hcl))
        refine fin _ hlen hclL (fun q e hq => ?_) (fun q e j a hq hj => ?_)
        · rw [hidx q (by have := (List.getElem?_eq_some_iff.1 hq).1; omega)] at hq
          exact okEls_len hv.sz e (List.mem_of_getElem? hq)
        · have hcle := closed_flat (closedL_mem hclL e (List.mem_of_getElem? hq)) a (List.mem_of_getElem? hj)
          rw [hidx q (by have := (List.getElem?_eq_some_iff.1 hq).1; omega)] at hq
          obtain ⟨w, hw, hrw⟩ := hH.cell hg hq hj
          exact ⟨w, hw, hmv hrw hcle⟩
      · rw [Option.map_eq_some_iff] at h
        obtain ⟨us, hus, rfl⟩ := h
        have hml := mapM_some hus
        have hpick : ∀ (q : Nat) u, us[q]? = some u → ∃ e, r.es[off + q]? = some e ∧ viewF fr c.H n e = some u := by
          intro q u hq
          obtain ⟨e, he, hf⟩ := mapM_some' hus hq
          rw [hidx q (by have := (List.getElem?_eq_some_iff.1 he).1; omega)] at he
          exact ⟨e, he, hf⟩
        refine fin us (by rw [hml.1, hlen]) (closedL_of fun q u hq => let ⟨e, _, hf⟩ := hpick q u hq; viewF_closed hf) (fun q u hq => ?_) (fun q u j a hq hj => ?_)
        · obtain ⟨e, he, hf⟩ := hpick q u hq
          have hel := okEls_len hv.sz e (List.mem_of_getElem? he)
          rcases viewF_shape hf with ⟨cs, us', rfl, rfl, h1⟩ | ⟨h1, h2⟩
          · simp only [flat] at hel ⊢; rw [h1]; exact hel
          · rw [h2]; rw [h1] at hel; exact hel
        · obtain ⟨e, he, hf⟩ := hpick q u hq
          rcases viewF_shape hf with ⟨cs, us', rfl, rfl, h1⟩ | ⟨h1, h2⟩
          · -- an aggregate: its cells
            simp only [flat] at hj
            have hcs : ∀ j, j < cs.length → ∃ w, c.w.cell? ⟨c.m i, (off + q) * r.esz + j, none⟩ = some w := fun j hj => by
              obtain ⟨w, hw, _⟩ := hH.cell hg he (j := j) (a := cs[j]) (by simp [flat, hj])
              exact ⟨w, hw⟩
            have hrepA : Rep P c (.agg cs) (.agg ((List.range cs.length).map fun j => (c.w.cell? ⟨c.m i, (off + q) * r.esz + j, none⟩).getD undef).toArray) := by
              refine .agg (by simp) (fun j a v hj hv => ?_)
              have hjl := (List.getElem?_eq_some_iff.1 hj).1
              simp only [List.getElem?_toArray, List.getElem?_map, List.getElem?_range hjl, Option.map_some, Option.some.injEq] at hv
              subst hv
              obtain ⟨w, hw, hrw⟩ := hH.cell hg he (j := j) (a := a) (by simpa [flat] using hj)
              rw [hw]; exact hrw
            have := ih hf hrepA
            obtain ⟨vs, hvs, hsz, hcell⟩ := this.agg_inv
            cases hvs
            have hjl : j < cs.length := by rw [← h1]; exact (List.getElem?_eq_some_iff.1 hj).1
            obtain ⟨w, hw⟩ := hcs j hjl
            refine ⟨w, hw, hcell j a w hj ?_⟩
            simp [hjl, hw]
          · rw [h2] at hj
            cases j with
            | succ j => simp at hj
            | zero =>
              simp at hj
              subst hj
              obtain ⟨w, hw, hrw⟩ := hH.cell hg he (j := 0) (a := e) (by rw [h1]; rfl)
              exact ⟨w, hw, ih hf hrw⟩
    | ptr i ep k j => simp [viewF] at h
    | map i ep => simp [viewF] at h
    | junk => simp [viewF] at h
    | int k n => simp only [viewF, Option.some.injEq] at h; subst h; exact hmv hr rfl
    | bool b => simp only [viewF, Option.some.injEq] at h; subst h; exact hmv hr rfl
    | str s => simp only [viewF, Option.some.injEq] at h; subst h; exact hmv hr rfl
    | nilp => simp only [viewF, Option.some.injEq] at h; subst h; exact hmv hr rfl
    | iptr w => simp only [viewF, Option.some.injEq] at h; subst h; exact hmv hr rfl
    | nilfn => simp only [viewF, Option.some.injEq] at h; subst h; exact hmv hr rfl
    | nilif => simp only [viewF, Option.some.injEq] at h; subst h; exact hmv hr rfl
    | nilmap => simp only [viewF, Option.some.injEq] at h; subst h; exact hmv hr rfl

end
end Go.Ev
end

section
/- Heaps frozen; heaps and roots anew ('norm'). -/
namespace Go.Ev

section
variable {P : Program}

/-- some objects are not ours to write any more -/
theorem Cx.le.heap {c : Cx} (hH : HR P c) {H' : Heap} (hrel : ∀ i : Nat, H'[i]? = c.H[i]? ∨ ∃ r, c.H[i]? = some (.var r) ∧ H'[i]? = some (.var { r with own := false })) :
    c.le ⟨H', c.m, c.clk, c.w, c.x⟩ ∧ HR P ⟨H', c.m, c.clk, c.w, c.x⟩ := by
  have hinv : ∀ (i : Nat) o, H'[i]? = some o → o.owns = true → c.H[i]? = some o := by
    intro i o hi ho
    rcases hrel i with h | ⟨r, h1, h2⟩
    · rw [← h]; exact hi
    · rw [h2] at hi; cases hi; cases ho
  have hvar : ∀ (i : Nat) r', H'[i]? = some (.var r') → ∃ r, c.H[i]? = some (.var r) ∧ (r' = r ∨ r' = { r with own := false }) := by
    intro i r' hi
    rcases hrel i with h | ⟨r, h1, h2⟩
    · exact ⟨r', by rw [← h]; exact hi, .inl rfl⟩
    · rw [h2] at hi; cases hi; exact ⟨r, h1, .inr rfl⟩
  have hown : ∀ b, (⟨H', c.m, c.clk, c.w, c.x⟩ : Cx).Own b → c.Own b := by
    rintro b ⟨i, o, hi, ho, rfl⟩
    exact ⟨i, o, hinv i o hi ho, ho, rfl⟩
  have hle : c.le ⟨H', c.m, c.clk, c.w, c.x⟩ := by
    refine ⟨Nat.le_refl _, fun _ _ _ _ => rfl, fun b h => .inl (hown b h), Nat.le_refl _, fun i ep z _ hs => ⟨?_, rfl, rfl⟩, fun _ h => .inl h, rfl, rfl, rfl⟩
    obtain ⟨r', hi, he, hz⟩ := sig_some hs
    obtain ⟨r, h1, h2⟩ := hvar i r' hi
    rw [sig_var h1]
    rcases h2 with rfl | rfl
    · rw [if_pos he, hz]
    · have he' : r.ep = ep := he
      rw [if_pos he']; exact congrArg some hz
  refine ⟨hle, ⟨fun i j o o' hi hj ho ho' hm => hH.inj i j o o' (hinv i o hi ho) (hinv j o' hj ho') ho ho' hm, ?_, ?_, hH.x⟩⟩
  · intro i r' hi
    have hsame := hi
    obtain ⟨r, h1, h2⟩ := hvar i r' hi
    have hv := hH.var i r h1
    obtain ⟨arr, fz, hb, hfz, hsz, hcells⟩ := hv.cells
    have hc' : ∀ k e j a, r.es[k]? = some e → (flat e)[j]? = some a → ∃ v, arr[k * r.esz + j]? = some v ∧ Rep P ⟨H', c.m, c.clk, c.w, c.x⟩ a v :=
      fun k e j a hk hj => let ⟨v, g1, g2⟩ := hcells k e j a hk hj; ⟨v, g1, g2.mono hle⟩
    rcases h2 with rfl | rfl
    · exact ⟨hv.ep, ⟨arr, fz, hb, hfz, hsz, hc'⟩, fun hf ho => hv.frz hf (hown _ ho), hv.x, hv.sz, hv.cl⟩
    · refine ⟨hv.ep, ⟨arr, fz, hb, fun h => (by cases h), hsz, hc'⟩, fun _ ho => ?_, hv.x, hv.sz, hv.cl⟩
      obtain ⟨j, o, hj, hoo, hm⟩ := ho
      have hj' := hinv j o hj hoo
      cases hr : r.own with
      | false => exact hv.frz hr ⟨j, o, hj', hoo, hm⟩
      | true =>
        have := hH.inj j i o (.var r) hj' h1 hoo hr hm
        subst this
        simp only [] at hj hsame
        rw [hsame] at hj
        cases hj
        cases hoo
  · intro i es ep ver hi
    have := hinv i _ hi rfl
    exact hH.nomap i es ep ver this

theorem freeze_get (H : Heap) (is : List Nat) (i : Nat) : (freeze H is)[i]? = (H[i]?).map fun o => match o with
    | .var r => if is.contains i then .var { r with own := false } else o
    | o => o := by
  simp only [freeze, List.getElem?_map, List.getElem?_zipIdx, Option.map_map]
  cases H[i]? with
  | none => rfl
  | some o => cases o <;> simp

theorem Cx.le.freezes {c : Cx} (hH : HR P c) (is : List Nat) : c.le ⟨freeze c.H is, c.m, c.clk, c.w, c.x⟩ ∧ HR P ⟨freeze c.H is, c.m, c.clk, c.w, c.x⟩ := by
  refine Cx.le.heap hH fun i => ?_
  rw [freeze_get]
  cases hi : c.H[i]? with
  | none => exact .inl rfl
  | some o =>
    cases o with
    | dead => exact .inl rfl
    | mp es ep ver => exact .inl rfl
    | var r =>
      simp only [Option.map_some]
      by_cases h : is.contains i = true
      · exact .inr ⟨r, rfl, by simp only [h, if_true]⟩
      · exact .inl (by simp only [h, if_false, Bool.false_eq_true])

theorem getO_freeze {H : Heap} {is : List Nat} {i ep : Nat} {r' : VO} (h : getO (freeze H is) i ep = some r') : ∃ r, getO H i ep = some r ∧ r'.es = r.es ∧ r'.cl = r.cl := by
  obtain ⟨h1, h2⟩ := getO_some h
  rw [freeze_get] at h1
  cases hi : H[i]? with
  | none => rw [hi] at h1; cases h1
  | some o =>
    rw [hi] at h1
    cases o with
    | dead => cases h1
    | mp es ep' ver => cases h1
    | var r =>
      simp only [Option.map_some, Option.some.injEq] at h1
      split at h1
      · cases h1; exact ⟨r, by simp [getO, hi]; exact h2, rfl, rfl⟩
      · cases h1; exact ⟨r', by simp [getO, hi]; exact h2, rfl, rfl⟩

theorem mapM_imp {α β : Type} {f g : α → Option β} (hfg : ∀ x y, f x = some y → g x = some y) : ∀ {l : List α} {l' : List β}, l.mapM f = some l' → l.mapM g = some l'
  | [], l', h => by simp at h ⊢; exact h
  | a :: l, l', h => by
    simp only [List.mapM_cons, Option.bind_eq_bind, Option.bind_eq_some_iff, Option.pure_def, Option.some.injEq] at h ⊢
    obtain ⟨b, hb, bs, hbs, rfl⟩ := h
    exact ⟨b, hfg _ _ hb, bs, mapM_imp hfg hbs, rfl⟩

theorem viewF_frozen {H : Heap} {is : List Nat} : ∀ {n : Nat} {v u : AV}, viewF true (freeze H is) n v = some u → viewF false H n v = some u := by
  intro n
  induction n with
  | zero => intro v u h; cases h
  | succ n ih =>
    intro v u h
    have hm : ∀ {l l' : List AV}, l.mapM (viewF true (freeze H is) n) = some l' → l.mapM (viewF false H n) = some l' := fun h => mapM_imp (fun x y => ih) h
    cases v <;> simp only [viewF] at h ⊢
    all_goals first
      | exact h
      | (rw [Option.map_eq_some_iff] at h ⊢; obtain ⟨us, hus, rfl⟩ := h; first | exact ⟨us, hm hus, rfl⟩ | exact ⟨us, ih hus, rfl⟩)
      | (split at h
         case h_2 => cases h
         rename_i r hg
         obtain ⟨r2, h1, h2, h3⟩ := getO_freeze hg
         simp only [h1]
         split at h
         case isFalse => cases h
         rename_i hc
         rw [h2] at hc
         rw [if_pos ⟨hc.1, rfl⟩]
         rw [h3] at h
         split at h
         · rename_i hcl
           rw [if_pos hcl, ← h2]; exact h
         · rename_i hcl
           rw [if_neg hcl]
           rw [Option.map_eq_some_iff] at h ⊢
           obtain ⟨us, hus, rfl⟩ := h
           rw [h2] at hus
           exact ⟨us, hm hus, rfl⟩)

theorem viewF_flag {H : Heap} : ∀ {n : Nat} {v u : AV}, viewF true H n v = some u → viewF false H n v = some u := by
  intro n
  induction n with
  | zero => intro v u h; cases h
  | succ n ih =>
    intro v u h
    have hm : ∀ {l l' : List AV}, l.mapM (viewF true H n) = some l' → l.mapM (viewF false H n) = some l' := fun h => mapM_imp (fun x y => ih) h
    cases v <;> simp only [viewF] at h ⊢
    all_goals first
      | exact h
      | (rw [Option.map_eq_some_iff] at h ⊢; obtain ⟨us, hus, rfl⟩ := h; first | exact ⟨us, hm hus, rfl⟩ | exact ⟨us, ih hus, rfl⟩)
      | (split at h
         case h_2 => cases h
         rename_i r hg
         split at h
         case isFalse => cases h
         rename_i hc
         rw [if_pos ⟨hc.1, rfl⟩]
         split at h
         · rename_i hcl
           rw [if_pos hcl]; exact h
         · rename_i hcl
           rw [if_neg hcl]
           rw [Option.map_eq_some_iff] at h ⊢
           obtain ⟨us, hus, rfl⟩ := h
           exact ⟨us, hm hus, rfl⟩)

/-! norm -/

inductive StampR (c0 R : Nat) : AO → AO → Prop
  | dead (o : AO) : StampR c0 R o .dead
  | old {v : VO} (h : v.ep < c0) : StampR c0 R (.var v) (.var { v with ver := 0 })
  | new {v : VO} {e : Nat} (h1 : c0 ≤ e) (h2 : e < c0 + R) : StampR c0 R (.var v) (.var { v with ep := e, ver := 0 })
  | mp (es : List (AV × AV)) (a b a' b' : Nat) : StampR c0 R (.mp es a b) (.mp es a' b')

theorem StampR.mono {c0 R R' : Nat} (h : R ≤ R') {o o' : AO} (hs : StampR c0 R o o') : StampR c0 R' o o' := by
  cases hs with
  | dead => exact .dead _
  | old h => exact .old h
  | new h1 h2 => exact .new h1 (by omega)
  | mp => exact .mp ..

theorem stamp_spec (h0 c0 : Nat) (seen : List Nat) : ∀ (H : Heap) (i r : Nat), r ≤ (stamp h0 c0 seen i r H).2 ∧ (stamp h0 c0 seen i r H).1.length = H.length ∧
    ∀ (k : Nat) o', (stamp h0 c0 seen i r H).1[k]? = some o' → ∃ o, H[k]? = some o ∧ StampR c0 (stamp h0 c0 seen i r H).2 o o'
  | [], i, r => by simp [stamp]
  | o :: os, i, r => by
    have key : ∀ (r1 : Nat) (o1 : AO), r ≤ r1 → StampR c0 (stamp h0 c0 seen (i + 1) r1 os).2 o o1 →
        stamp h0 c0 seen i r (o :: os) = (o1 :: (stamp h0 c0 seen (i + 1) r1 os).1, (stamp h0 c0 seen (i + 1) r1 os).2) →
        r ≤ (stamp h0 c0 seen i r (o :: os)).2 ∧ (stamp h0 c0 seen i r (o :: os)).1.length = (o :: os).length ∧
          ∀ (k : Nat) o', (stamp h0 c0 seen i r (o :: os)).1[k]? = some o' → ∃ o2, (o :: os)[k]? = some o2 ∧ StampR c0 (stamp h0 c0 seen i r (o :: os)).2 o2 o' := by
      intro r1 o1 hr hs he
      obtain ⟨g1, g2, g3⟩ := stamp_spec h0 c0 seen os (i + 1) r1
      rw [he]
      refine ⟨Nat.le_trans hr g1, by simp [g2], fun k o' hk => ?_⟩
      cases k with
      | zero => simp at hk; subst hk; exact ⟨o, rfl, hs⟩
      | succ k => simp at hk; obtain ⟨o2, h1, h2⟩ := g3 k o' hk; exact ⟨o2, by simpa using h1, h2⟩
    cases o with
    | dead => exact key r .dead (Nat.le_refl _) (.dead _) rfl
    | var v =>
      by_cases hk : (decide (i < h0) || seen.contains i) = true
      · by_cases he : v.ep < c0
        · exact key r _ (Nat.le_refl _) (.old he) (by simp only [stamp, hk, he, if_true])
        · refine key (r + 1) (.var { v with ep := c0 + r, ver := 0 }) (Nat.le_succ _) (.new (Nat.le_add_right _ _) ?_) (by simp only [stamp, hk, he, if_true, if_false])
          have := (stamp_spec h0 c0 seen os (i + 1) (r + 1)).1
          omega
      · exact key r .dead (Nat.le_refl _) (.dead _) (by simp only [stamp, hk, if_false, Bool.false_eq_true])
    | mp es ep ver =>
      by_cases hk : (decide (i < h0) || seen.contains i) = true
      · by_cases he : ep < c0
        · exact key r _ (Nat.le_refl _) (.mp es ep ver ep 0) (by simp only [stamp, hk, he, if_true])
        · exact key (r + 1) _ (Nat.le_succ _) (.mp es ep ver (c0 + r) 0) (by simp only [stamp, hk, he, if_true, if_false])
      · exact key r .dead (Nat.le_refl _) (.dead _) (by simp only [stamp, hk, if_false, Bool.false_eq_true])

theorem trimDead_get : ∀ (l : Heap) (k : Nat) o, (trimDead l)[k]? = some o → l[k]? = some o
  | [], k, o, h => by simp [trimDead] at h
  | x :: l, k, o, h => by
    simp only [trimDead] at h
    split at h
    · simp at h
    · cases k with
      | zero => simpa using h
      | succ k => simp at h ⊢; exact trimDead_get l k o h

theorem remapL_eq (H H' : Heap) : ∀ l : List AV, remapL H H' l = l.map (remap H H')
  | [] => by rw [remapL]; rfl
  | v :: l => by rw [remapL, remapL_eq H H' l]; rfl

theorem flat_remap (H H' : Heap) (v : AV) : flat (remap H H' v) = (flat v).map (remap H H') := by
  cases v <;> simp only [remap, flat, List.map_cons, List.map_nil]
  case agg cs => exact remapL_eq H H' cs
  all_goals (generalize newEp _ _ _ _ = o; cases o <;> rfl)

theorem isCell_remap (H H' : Heap) (v : AV) : isCell (remap H H' v) = isCell v := by
  cases v <;> simp only [remap, isCell]
  all_goals (generalize newEp _ _ _ _ = o; cases o <;> rfl)

theorem okEl_remap (H H' : Heap) {esz : Nat} {v : AV} (h : okEl esz v = true) : okEl esz (remap H H' v) = true := by
  simp only [okEl, Bool.and_eq_true, beq_iff_eq, List.all_eq_true] at h ⊢
  rw [flat_remap]
  refine ⟨by simpa using h.1, fun x hx => ?_⟩
  rw [List.mem_map] at hx
  obtain ⟨y, hy, rfl⟩ := hx
  rw [isCell_remap]; exact h.2 y hy

/-- the heap behind 'norm', and how its objects are those from before -/
theorem norm_sound' {ce c : Cx} (hH : HR P c) (hle : ce.le c) {h0 : Nat} {roots roots' : List AV} {H' : Heap} {clk' : Nat} (h : norm h0 ce.clk roots c.H = (roots', H', clk')) :
    ce.le ⟨H', c.m, clk', c.w, c.x⟩ ∧ HR P ⟨H', c.m, clk', c.w, c.x⟩ ∧ roots'.length = roots.length ∧
      (∀ (k : Nat) a v, roots[k]? = some a → Rep P c a v → ∃ a', roots'[k]? = some a' ∧ Rep P ⟨H', c.m, clk', c.w, c.x⟩ a' v) ∧ ∀ b, (⟨H', c.m, clk', c.w, c.x⟩ : Cx).Own b → c.Own b := by
  have e : norm h0 ce.clk roots c.H =
      (remapL c.H ((stamp h0 ce.clk (reach c.H (c.H.length * 4 + roots.length * 8 + 64) (refsL roots ++ List.range h0) []) 0 0 c.H).1.take h0 ++ trimDead ((stamp h0 ce.clk (reach c.H (c.H.length * 4 + roots.length * 8 + 64) (refsL roots ++ List.range h0) []) 0 0 c.H).1.drop h0)) roots,
       ((stamp h0 ce.clk (reach c.H (c.H.length * 4 + roots.length * 8 + 64) (refsL roots ++ List.range h0) []) 0 0 c.H).1.take h0 ++ trimDead ((stamp h0 ce.clk (reach c.H (c.H.length * 4 + roots.length * 8 + 64) (refsL roots ++ List.range h0) []) 0 0 c.H).1.drop h0)).map
         (remapO c.H ((stamp h0 ce.clk (reach c.H (c.H.length * 4 + roots.length * 8 + 64) (refsL roots ++ List.range h0) []) 0 0 c.H).1.take h0 ++ trimDead ((stamp h0 ce.clk (reach c.H (c.H.length * 4 + roots.length * 8 + 64) (refsL roots ++ List.range h0) []) 0 0 c.H).1.drop h0))),
       ce.clk + (stamp h0 ce.clk (reach c.H (c.H.length * 4 + roots.length * 8 + 64) (refsL roots ++ List.range h0) []) 0 0 c.H).2 + 1) := rfl
  rw [e] at h
  clear e
  generalize reach c.H (c.H.length * 4 + roots.length * 8 + 64) (refsL roots ++ List.range h0) [] = seen at h
  obtain ⟨g1, g2, g3⟩ := stamp_spec h0 ce.clk seen c.H 0 0
  generalize stamp h0 ce.clk seen 0 0 c.H = st at h g1 g2 g3
  obtain ⟨H1, R⟩ := st
  dsimp only at h g1 g2 g3
  generalize hH2 : H1.take h0 ++ trimDead (H1.drop h0) = H2 at h
  cases h
  have hget : ∀ (i : Nat) o', H2[i]? = some o' → ∃ o, c.H[i]? = some o ∧ StampR ce.clk R o o' := by
    intro i o' hi
    apply g3
    rw [← hH2] at hi
    rcases Nat.lt_or_ge i (H1.take h0).length with hlt | hge
    · rw [List.getElem?_append_left hlt, List.getElem?_take] at hi
      split at hi
      · exact hi
      · cases hi
    · rw [List.getElem?_append_right hge] at hi
      have := trimDead_get _ _ _ hi
      rw [List.getElem?_drop] at this
      rw [List.length_take] at this hge
      rcases Nat.le_total h0 H1.length with hh | hh
      · rw [Nat.min_eq_left hh] at this hge
        rw [show h0 + (i - h0) = i by omega] at this
        exact this
      · have : H1[h0 + (i - min h0 H1.length)]? = none := List.getElem?_eq_none (by omega)
        simp_all
  -- what an object is now
  have hvar : ∀ (i : Nat) r', (H2.map (remapO c.H H2))[i]? = some (.var r') → ∃ r e, c.H[i]? = some (.var r) ∧ r' = { r with ep := e, ver := 0, es := if r.cl then r.es else remapL c.H H2 r.es } ∧
      e < ce.clk + R + 1 ∧ (e < ce.clk → r.ep = e) ∧ newEp c.H H2 i r.ep = some e := by
    intro i r' hi
    rw [List.getElem?_map, Option.map_eq_some_iff] at hi
    obtain ⟨o2, ho2, hr'⟩ := hi
    obtain ⟨o, ho, hs⟩ := hget i o2 ho2
    cases hs with
    | dead => cases hr'
    | @old v hv =>
      simp only [remapO, AO.var.injEq] at hr'
      refine ⟨v, v.ep, ho, hr'.symm, by omega, fun _ => rfl, ?_⟩
      simp [newEp, ho, epAt, ho2]
    | @new v e h1 h2 =>
      simp only [remapO, AO.var.injEq] at hr'
      refine ⟨v, e, ho, hr'.symm, by omega, fun h => (by omega), ?_⟩
      simp [newEp, ho, epAt, ho2]
    | mp es a b a' b' => exact absurd ho (hH.nomap i _ _ _)
  have hsig' : ∀ (i e : Nat) z, sig (H2.map (remapO c.H H2)) i e = some z → ∃ r, c.H[i]? = some (.var r) ∧ z = (r.esz, r.es.length) ∧ e < ce.clk + R + 1 ∧ (e < ce.clk → r.ep = e) := by
    intro i e z hs
    obtain ⟨r', hi, he, hz⟩ := sig_some hs
    obtain ⟨r, e', h1, rfl, h3, h4, h5⟩ := hvar i r' hi
    simp only [] at he hz
    subst he
    refine ⟨r, h1, ?_, h3, h4⟩
    rw [← hz]
    split
    · rfl
    · rw [remapL_eq, List.length_map]
  have hown : ∀ b, (⟨H2.map (remapO c.H H2), c.m, ce.clk + R + 1, c.w, c.x⟩ : Cx).Own b → c.Own b := by
    rintro b ⟨i, o, hi, ho, rfl⟩
    cases o with
    | dead => cases ho
    | var r' =>
      obtain ⟨r, e, h1, rfl, _⟩ := hvar i r' hi
      exact ⟨i, _, h1, ho, rfl⟩
    | mp es ep ver =>
      have hi' : (H2.map (remapO c.H H2))[i]? = some (.mp es ep ver) := hi
      rw [List.getElem?_map, Option.map_eq_some_iff] at hi'
      obtain ⟨o2, ho2, hr'⟩ := hi'
      obtain ⟨o, hoo, hs⟩ := hget i o2 ho2
      cases hs with
      | mp => exact absurd hoo (hH.nomap i _ _ _)
      | dead => cases hr'
      | old => cases hr'
      | new => cases hr'
  have hlen : ∀ (i e : Nat), H2.length ≤ i → sig (H2.map (remapO c.H H2)) i e = none := by
    intro i e hi
    simp [sig, getO, hi]
  -- an old reference's new one
  have hnew : ∀ (i ep e : Nat) esz L, sig c.H i ep = some (esz, L) → newEp c.H H2 i ep = some e → sig (H2.map (remapO c.H H2)) i e = some (esz, L) ∧ e < ce.clk + R + 1 := by
    intro i ep e esz L hs hn
    obtain ⟨r, hi, hre, hz⟩ := sig_some hs
    simp only [newEp, hi, epAt, hre, if_true] at hn
    cases h2 : H2[i]? with
    | none => simp [h2] at hn
    | some o2 =>
      obtain ⟨o, ho, hsr⟩ := hget i o2 h2
      rw [hi] at ho; cases ho
      have hmap : (H2.map (remapO c.H H2))[i]? = some (remapO c.H H2 o2) := by simp [h2]
      cases hsr with
      | dead => simp [h2] at hn
      | old hv =>
        simp [h2] at hn
        subst hn
        refine ⟨?_, by omega⟩
        rw [sig_var (r := { r with ver := 0, es := if r.cl then r.es else remapL c.H H2 r.es }) hmap]
        rw [if_pos rfl, ← hz]
        simp only []
        split
        · rfl
        · rw [remapL_eq, List.length_map]
      | @new v e' h1 h3 =>
        simp [h2] at hn
        subst hn
        refine ⟨?_, by omega⟩
        rw [sig_var (r := { r with ep := e', ver := 0, es := if r.cl then r.es else remapL c.H H2 r.es }) hmap]
        rw [if_pos rfl, ← hz]
        simp only []
        split
        · rfl
        · rw [remapL_eq, List.length_map]
  have hgone : ∀ (i ep : Nat), sig c.H i ep = none → newEp c.H H2 i ep = none := by
    intro i ep hs
    simp only [newEp]
    split
    · rename_i he
      cases hi : c.H[i]? with
      | none => simp [hi, epAt] at he
      | some o =>
        cases o with
        | dead => simp [hi, epAt] at he
        | mp es a b => exact absurd hi (hH.nomap i _ _ _)
        | var r =>
          simp [hi, epAt] at he
          rw [sig_var hi, if_pos he] at hs
          cases hs
    · rfl
  have hstill : ∀ b, c.Still b → (⟨H2.map (remapO c.H H2), c.m, ce.clk + R + 1, c.w, c.x⟩ : Cx).Still b ∧ ∀ o, c.w.cell? ⟨b, o, none⟩ = c.w.cell? ⟨b, o, none⟩ :=
    fun b hb => ⟨⟨hb.1, fun h => hb.2.1 (hown b h), hb.2.2⟩, fun _ => rfl⟩
  have hrep : ∀ {a : AV} {v : Value}, Rep P c a v → Rep P ⟨H2.map (remapO c.H H2), c.m, ce.clk + R + 1, c.w, c.x⟩ (remap c.H H2 a) v := by
    intro a v hr
    have hdead : ∀ a, Rep P ⟨H2.map (remapO c.H H2), c.m, ce.clk + R + 1, c.w, c.x⟩ (.ptr H2.length 0 0 0) (.pointer (some a)) := fun a => .ptrS a (hlen _ _ (Nat.le_refl _)) (Nat.succ_pos _)
    have hdeadS : ∀ a l cap', Rep P ⟨H2.map (remapO c.H H2), c.m, ce.clk + R + 1, c.w, c.x⟩ (.msl H2.length 0 0 0 none) (.slice a l cap') := fun a l cap' => .mslS a l cap' (hlen _ _ (Nat.le_refl _)) (Nat.succ_pos _)
    induction hr with
    | int k n => exact .int k n
    | bool b => exact .bool b
    | str s => exact .str s
    | nilp => exact .nilp
    | @ptr i ep k j esz L h hc =>
      simp only [remap]
      split
      · rename_i e hn
        obtain ⟨k1, k2⟩ := hnew i ep e esz L h hn
        exact .ptr (c := ⟨H2.map (remapO c.H H2), c.m, ce.clk + R + 1, c.w, c.x⟩) k1 k2
      · exact hdead _
    | @ptrS i ep k j a h hc =>
      simp only [remap, hgone i ep h]
      exact hdead _
    | @iptr v b off f hb hcl hf hr ih => exact Rep.move hstill (.iptr f hb hcl hf hr) rfl
    | slE h => exact .slE h
    | @sl es cap b off n esz f hne hn hcap hb hcl hsz hf hr ih => exact Rep.move hstill (.sl esz f hne hn hcap hb hcl hsz hf hr) rfl
    | @msl i ep off n cap' esz L cap h hc hn hcap hL hsz =>
      simp only [remap]
      split
      · rename_i e hne
        obtain ⟨k1, k2⟩ := hnew i ep e esz L h hne
        exact .msl (c := ⟨H2.map (remapO c.H H2), c.m, ce.clk + R + 1, c.w, c.x⟩) k1 k2 hn hcap hL hsz
      · exact hdeadS _ _ _
    | @mslS i ep off n cap a l cap' h hc =>
      simp only [remap, hgone i ep h]
      exact hdeadS _ _ _
    | @agg cs vs hl h ih =>
      simp only [remap, remapL_eq]
      refine .agg (by simpa using hl) (fun k a v hk hv => ?_)
      rw [List.getElem?_map, Option.map_eq_some_iff] at hk
      obtain ⟨a', ha', rfl⟩ := hk
      exact ih k a' v ha' hv
    | @tup cs vs hl h ih =>
      simp only [remap, remapL_eq]
      refine .tup (by simpa using hl) (fun k a v hk hv => ?_)
      rw [List.getElem?_map, Option.map_eq_some_iff] at hk
      obtain ⟨a', ha', rfl⟩ := hk
      exact ih k a' v ha' hv
    | @fn f cs vs hl h ih =>
      simp only [remap, remapL_eq]
      refine .fn (by simpa using hl) (fun k a v hk hv => ?_)
      rw [List.getElem?_map, Option.map_eq_some_iff] at hk
      obtain ⟨a', ha', rfl⟩ := hk
      exact ih k a' v ha' hv
    | nilfn => exact .nilfn
    | ifc h ih => simp only [remap]; exact .ifc ih
    | nilif => exact .nilif
    | map r =>
      simp only [remap]
      split <;> exact .map r
    | nilmap => exact .nilmap
    | junk v => exact .junk v
  refine ⟨⟨hle.size, hle.still, fun b hb => hle.own b (hown b hb), by show ce.clk ≤ ce.clk + R + 1; omega, ?_, hle.x, hle.os, hle.tape, hle.output⟩, ⟨?_, ?_, ?_, hH.x⟩, by rw [remapL_eq, List.length_map], ?_, hown⟩
  · intro i ep z hlt hs
    obtain ⟨r, h1, h2, h3, h4⟩ := hsig' i ep z hs
    have : sig c.H i ep = some z := by rw [sig_var h1, if_pos (h4 hlt), h2]
    exact hle.live i ep z hlt this
  · intro i j o o' hi hj ho ho' hm
    have hv : ∀ (i : Nat) o, (H2.map (remapO c.H H2))[i]? = some o → o.owns = true → ∃ r, c.H[i]? = some (.var r) ∧ (AO.var r).owns = true := by
      intro i o hi ho
      cases o with
      | dead => cases ho
      | var r' => obtain ⟨r, e, h1, rfl, _⟩ := hvar i r' hi; exact ⟨r, h1, ho⟩
      | mp es ep ver =>
        rw [List.getElem?_map, Option.map_eq_some_iff] at hi
        obtain ⟨o2, ho2, hr'⟩ := hi
        obtain ⟨o, hoo, hs⟩ := hget i o2 ho2
        cases hs with
        | mp => exact absurd hoo (hH.nomap i _ _ _)
        | dead => cases hr'
        | old => cases hr'
        | new => cases hr'
    obtain ⟨r, h1, h2⟩ := hv i o hi ho
    obtain ⟨r', h3, h4⟩ := hv j o' hj ho'
    exact hH.inj i j _ _ h1 h3 h2 h4 hm
  · intro i r' hi
    obtain ⟨r, e, h1, rfl, h3, h4, h5⟩ := hvar i r' hi
    have hv := hH.var i r h1
    obtain ⟨arr, fz, hb, hfz, hsz, hcells⟩ := hv.cells
    refine ⟨h3, ⟨arr, fz, hb, hfz, ?_, ?_⟩, fun hf ho => hv.frz hf (hown _ ho), hv.x, ?_, ?_⟩
    · simp only []
      split
      · exact hsz
      · rw [remapL_eq, List.length_map]; exact hsz
    · intro k e' j a hk hj
      simp only [] at hk ⊢
      split at hk
      · rename_i hcl
        obtain ⟨v, g1, g2⟩ := hcells k e' j a hk hj
        exact ⟨v, g1, Rep.move hstill g2 (closed_flat (closedL_mem (hv.cl hcl) e' (List.mem_of_getElem? hk)) a (List.mem_of_getElem? hj))⟩
      · rw [remapL_eq, List.getElem?_map, Option.map_eq_some_iff] at hk
        obtain ⟨e0, he0, rfl⟩ := hk
        rw [flat_remap, List.getElem?_map, Option.map_eq_some_iff] at hj
        obtain ⟨a0, ha0, rfl⟩ := hj
        obtain ⟨v, g1, g2⟩ := hcells k e0 j a0 he0 ha0
        exact ⟨v, g1, hrep g2⟩
    · simp only []
      split
      · exact hv.sz
      · rw [remapL_eq]
        simp only [okEls, List.all_eq_true, List.mem_map]
        rintro x ⟨y, hy, rfl⟩
        exact okEl_remap _ _ (okEls_mem hv.sz y hy)
    · simp only []
      intro hcl
      rw [if_pos hcl]; exact hv.cl hcl
  · intro i es ep ver hi
    have hi' : (H2.map (remapO c.H H2))[i]? = some (.mp es ep ver) := hi
    rw [List.getElem?_map, Option.map_eq_some_iff] at hi'
    obtain ⟨o2, ho2, hr'⟩ := hi'
    obtain ⟨o, hoo, hs⟩ := hget i o2 ho2
    cases hs with
    | mp => exact absurd hoo (hH.nomap i _ _ _)
    | dead => cases hr'
    | old => cases hr'
    | new => cases hr'
  · intro k a v hk hr
    exact ⟨remap c.H H2 a, by rw [remapL_eq, List.getElem?_map, hk]; rfl, hrep hr⟩

theorem norm_sound {ce c : Cx} (hH : HR P c) (hle : ce.le c) {h0 : Nat} {roots roots' : List AV} {H' : Heap} {clk' : Nat} (h : norm h0 ce.clk roots c.H = (roots', H', clk')) :
    ce.le ⟨H', c.m, clk', c.w, c.x⟩ ∧ HR P ⟨H', c.m, clk', c.w, c.x⟩ ∧ roots'.length = roots.length ∧
      ∀ (k : Nat) a v, roots[k]? = some a → Rep P c a v → ∃ a', roots'[k]? = some a' ∧ Rep P ⟨H', c.m, clk', c.w, c.x⟩ a' v :=
  let ⟨h1, h2, h3, h4, _⟩ := norm_sound' hH hle h; ⟨h1, h2, h3, h4⟩

end
end Go.Ev
end

section
/- From the model's code to the evaluator's: 'compC'; tables; results; one operation, and calls. -/
namespace Go.Ev

/-- what is not covered is never carried out -/
def compOp' (P : Program) (op : Op) : Option (COp Ref) :=
  match compOp P op with
  | some c => some c
  | none => match op with
    | .defer _ => none
    | _ => some .bad

def compOper (P : Program) (ops : Array Oper) (o : Oper) : Option Oc :=
  match compOp' P o.op, o.guard with
  | some op, none => some ⟨o.dst, op, none⟩
  | some op, some (j, want) => match (ops[j]?).bind (·.dst) with
    | some t => some ⟨o.dst, op, some (t, want)⟩
    | none => none
  | none, _ => none

theorem compOp'_some {P : Program} {op : Op} {c : COp Ref} (h : compOp' P op = some c) : compOp P op = some c ∨ c = .bad := by
  unfold compOp' at h
  split at h
  · rename_i c' hc; cases h; exact .inl hc
  · split at h
    · cases h
    · cases h; exact .inr rfl

theorem compOp'_defer {P : Program} {op : Op} {c : COp Ref} (h : compOp' P op = some c) : ∀ d, op ≠ .defer d := by
  rintro d rfl
  simp [compOp', compOp] at h

def compOpers (P : Program) (ops : Array Oper) : Option (List Oc) := ops.toList.mapM (compOper P ops)

/-! drawn regions: what is asked of an order -/

def posOf (ds : List Dc) (i : Nat) : Nat := (ds.findIdx? (fun d => d.ix == i)).getD ds.length

/-- where the operations stand that an operation waits for -/
def direct (ops : Array Oper) (ds : List Dc) (d : Dc) : List Nat :=
  match ops[d.ix]? with
  | some o => (o.after.toList.filter (Region.binds .any)).map fun e => posOf ds e.on
  | none => []

/-- all that stand ahead of each operation -/
def aheads (ops : Array Oper) (ds : List Dc) : List Dc → List (List Nat) → List (List Nat)
  | [], acc => acc
  | d :: rest, acc => aheads ops ds rest (acc ++ [(direct ops ds d).flatMap fun i => i :: acc.getD i []])

def tmpOf : Ref → Option Nat
  | .t i => some i
  | .c _ => none

/-- the temporaries that an operation looks at -/
def Oc.looks (oc : Oc) : List Nat := oc.op.rs.filterMap tmpOf ++ (match oc.guard with | some (g, _) => [g] | none => [])

/-- how many effects stand ahead of a place -/
def cntE : List Dc → Nat → Nat
  | _, 0 => 0
  | [], _ => 0
  | d :: ds, j + 1 => (if d.kd = .e then 1 else 0) + cntE ds j

/-- two operations, the first one ahead of the second one in the reckoned order -/
def okPair (pr : List (List Nat)) (i j : Nat) (x y : Dc) : Bool :=
  (match x.kd, y.kd with
   | .e, .e => (pr.getD j []).contains i
   | .a, .e => (pr.getD j []).contains i
   | _, _ => true) &&
  (match x.oc.dst with
   | some t => y.oc.dst != some t && (!y.oc.looks.contains t || ((pr.getD j []).contains i && !(x.kd == .a && y.kd == .v)))
   | none => true) &&
  (match y.oc.dst with
   | some t => !x.oc.looks.contains t || (pr.getD j []).contains i
   | none => true)

/-- a value operation's window: effects ahead of it, and behind it -/
def okWin (ds : List Dc) (pr : List (List Nat)) (j : Nat) (d : Dc) : Bool :=
  decide (d.lo ≤ cntE ds ds.length) &&
  (ds.zipIdx.all fun (x, i) => if x.kd = .e then (decide (d.lo ≤ cntE ds i) || (pr.getD j []).contains i) && (decide (cntE ds i < d.hi) || (pr.getD i []).contains j) else true)

def okKind (d : Dc) : Bool :=
  match d.kd with
  | .v => d.oc.op.isV
  | .a => d.oc.op.isA && d.oc.guard.isNone && d.oc.dst.isSome
  | .e => !d.oc.op.isA

def okD (ops : Array Oper) (ds : List Dc) : Bool :=
  let pr := aheads ops ds ds []
  decide (ds.length = ops.size) && decide (ds.map (·.ix)).Nodup && ds.all (fun d => decide (d.ix < ops.size)) && ds.all okKind &&
  (ds.zipIdx.all fun (d, j) => (direct ops ds d).all (· < j)) &&
  (ds.zipIdx.all fun (y, j) => (ds.zipIdx.take j).all fun (x, i) => okPair pr i j x y) &&
  (ds.zipIdx.all fun (d, j) => d.kd != .v || okWin ds pr j d)

/-- no range over a function in it -/
def noRf : Code → Bool
  | .seq x y | .cond _ x y => noRf x && noRf y
  | .block _ x | .loop x => noRf x
  | .scope _ | .rangeFunc .. => false
  | _ => true

/-- the evaluator's code for the model's; loops' and orders' notes are taken from the first -/
def compC (P : Program) : Code → CC → Option CC
  | _, .bad => some .bad
  | .skip, .skip => some .skip
  | .label _, .skip => some .skip
  | .region _ ops false, .reg _ => (compOpers P ops).map .reg
  | .region _ ops true, .dreg ds => match compOpers P ops with
    | some ocs => match ds.mapM (fun d => (ocs[d.ix]?).map fun oc => { d with oc := oc }) with
      | some ds' => if okD ops ds' then some (.dreg ds') else none
      | none => none
    | none => none
  | .seq x y, .seq a b => match compC P x a, compC P y b with
    | some a, some b => some (.seq a b)
    | _, _ => none
  | .cond c x y, .cond _ a b => match compC P x a, compC P y b with
    | some a, some b => some (.cond (cRef c) a b)
    | _, _ => none
  | .block id x, .block _ b => (compC P x b).map (.block id)
  | .loop x, .loop live b => (compC P x b).map (.loop live)
  | .rangeFunc f ps x y, .rfun live _ _ a b => if noRf x && noRf y && ps.size == 1 then match compC P x a, compC P y b with
    | some a, some b => some (.rfun live (cRef f) ps.toList a b)
    | _, _ => none
    else none
  | .exit id, .exit _ => some (.exit id)
  | .ret, .ret => some .ret
  | .scope x, a => compC P x a
  | _, _ => none

def compRes (P : Program) : ResultVar → Option RV
  | .tmp t => some (.tmp t)
  | .cell a t => (tAg P t).map fun r => .cell a r.1

/-- a function, carried out: what it hands back -/
def CallOK (P : Program) (f : FuncId) (vals : Array Value) (w : World) (R : Value → World → Prop) : Prop :=
  ∃ fn, P.funcs[f]? = some fn ∧ (fn.name == "runtime.NumGoroutine") = false ∧
    ((fn.body.isSome = true ∧ Calls P f vals w (fun e w' => ∃ v, e = .returned v ∧ R v w')) ∨
      (fn.body = none ∧ Extern.findNext fn = none ∧ ∃ e v w', Extern.find fn = some e ∧ (e vals).run P w = .ok v w' ∧ R v w'))

def Rets (P : Program) (c : Cx) (v : AV) (H' : Heap) (clk' : Nat) : Value → World → Prop := fun val w' =>
  ∃ m', c.le ⟨H', m', clk', w', c.x⟩ ∧ HR P ⟨H', m', clk', w', c.x⟩ ∧ Rep P ⟨H', m', clk', w', c.x⟩ v val

def ArgsR (P : Program) (c : Cx) (args : List AV) (vals : Array Value) : Prop :=
  vals.size = args.length ∧ ∀ (k : Nat) a v, args[k]? = some a → vals[k]? = some v → Rep P c a v

/-- the blocks of a world from before are as they were; nobody writes them -/
structure Bs (w0 : World) (c : Cx) : Prop where
  size : w0.heap.size ≤ c.w.heap.size
  same : ∀ b, b < w0.heap.size → c.w.heap[b]? = w0.heap[b]? ∧ ¬ c.Own b ∧ ¬ c.x b

theorem Bs.mono {w0 : World} {c c' : Cx} (hle : c.le c') (h : Bs w0 c) : Bs w0 c' := by
  refine ⟨Nat.le_trans h.size hle.size, fun b hb => ?_⟩
  obtain ⟨h1, h2, h3⟩ := h.same b hb
  have hlt := Nat.lt_of_lt_of_le hb h.size
  refine ⟨by rw [hle.still b hlt h2 (fun hx => absurd hx h3)]; exact h1, fun ho => ?_, fun hx => ?_⟩
  · rcases hle.own b ho with g | g | g
    · exact h2 g
    · omega
    · exact h3 g.1
  · rcases hle.x b hx with g | g
    · exact h3 g
    · omega

def PrimOK (P : Program) (w0 : World) (f : FuncId) (p : PK) : Prop :=
  ∀ (c : Cx) (args : List AV) (vals : Array Value) (v : AV) (H' : Heap) (clk' : Nat), Bs w0 c → HR P c → ArgsR P c args vals → evPrim p args c.H c.clk = some (v, H', clk') → CallOK P f vals c.w (Rets P c v H' clk')

structure CodeOK (P : Program) (f : FuncId) (cf : CF) (fn : Func) (code : Code) : Prop where
  func : P.funcs[f]? = some fn
  name : (fn.name == "runtime.NumGoroutine") = false
  body : fn.body = some code
  comp : compC P code cf.body = some cf.body
  tmps : fn.ntmps = cf.ntmps
  res : fn.results.toList.mapM (compRes P) = some cf.res

section
variable {P : Program}

theorem EnvR.put {c : Cx} {env : Env} {a : Act} {v : AV} {val : Value} (h : EnvR P c env a.tmps) (hv : Rep P c v val) (d : Option Tmp) :
    EnvR P c (match d with | some d => env.set d v | none => env) (a.put d val).tmps := by
  cases d with
  | none => exact h
  | some d =>
    refine ⟨by simp [Act.put, h.1], fun i x y hx hy => ?_⟩
    simp only [Act.put] at hy
    rw [List.getElem?_set] at hx
    rw [Array.getElem?_setIfInBounds] at hy
    by_cases hd : d = i
    · subst hd
      by_cases hl : d < env.length
      · have hl' : d < a.tmps.size := h.1 ▸ hl
        simp [hl] at hx
        simp [hl'] at hy
        subst hx; subst hy; exact hv
      · simp [hl] at hx
    · simp only [hd, if_false] at hx hy
      exact h.2 i x y hx hy

theorem EnvR.mono {c c' : Cx} {env : Env} {tmps : Array Value} (hle : c.le c') (h : EnvR P c env tmps) : EnvR P c' env tmps :=
  ⟨h.1, fun i a v h1 h2 => (h.2 i a v h1 h2).mono hle⟩

theorem EnvR.at {c : Cx} {env : Env} {tmps : Array Value} (h : EnvR P c env tmps) (t : Nat) : Rep P c (env.getD t .junk) (tmps.getD t undef) := by
  by_cases ht : t < env.length
  · have ht' : t < tmps.size := h.1 ▸ ht
    have e1 : env.getD t .junk = env[t] := by simp [List.getD, List.getElem?_eq_getElem ht]
    have e2 : tmps.getD t undef = tmps[t] := by simp [Array.getD, ht']
    rw [e1, e2]
    exact h.2 t _ _ (List.getElem?_eq_getElem ht) (Array.getElem?_eq_getElem ht')
  · have e1 : env.getD t .junk = .junk := by simp [List.getD, List.getElem?_eq_none (Nat.le_of_not_lt ht)]
    rw [e1]; exact .junk _

/-- what the model reads for a result -/
def oneVal (tmps : Array Value) : ResultVar → Sem Value
  | .tmp t => pure (tmps.getD t undef)
  | .cell a t => do loadVar t (← asAddr (tmps.getD a undef))

/-- one result -/
theorem one_result {c : Cx} (hH : HR P c) {env : Env} {tmps : Array Value} (he : EnvR P c env tmps) {x : ResultVar} {r : RV} (hr : compRes P x = some r) {v : AV} (h : oneRes env c.H r = some v) :
    ∃ val, (oneVal tmps x).run P c.w = .ok val c.w ∧ Rep P c v val := by
  cases x with
  | tmp t =>
    cases hr
    cases h
    exact ⟨_, rfl, he.at t⟩
  | cell a t =>
    simp only [compRes, Option.map_eq_some_iff] at hr
    obtain ⟨z, hz, rfl⟩ := hr
    simp only [oneRes] at h
    have ha := he.at a
    split at h
    · rename_i i ep k j hp
      rw [hp] at ha
      split at h
      · rename_i o hg
        rw [Option.bind_eq_some_iff] at h
        obtain ⟨e, hk, hv⟩ := h
        obtain ⟨hval, _⟩ := ha.ptr_inv (sig_of hg)
        obtain ⟨val, h1, h2⟩ := run_loadVar hz (c := c) (e := e) (b := c.m i) (o := k * o.esz) (j := j) (fun x a hx => hH.cell hg hk hx) hv
        refine ⟨val, ?_, h2⟩
        simp only [oneVal, Sem.run_bind, hval, asAddr, Sem.run_pure, Result.andThen_ok]
        exact h1
      · cases h
    · cases h

theorem run_mapM_all {α β γ : Type} {f : α → Sem β} {w : World} {R : γ → β → Prop} : ∀ (l : List α) (l' : List γ), l'.length = l.length → (∀ (k : Nat) x y, l[k]? = some x → l'[k]? = some y → ∃ b, (f x).run P w = .ok b w ∧ R y b) →
    ∃ bs : List β, (l.mapM f).run P w = .ok bs w ∧ bs.length = l.length ∧ ∀ (k : Nat) y b, l'[k]? = some y → bs[k]? = some b → R y b
  | [], l', hl, _ => by
    have : l' = [] := List.eq_nil_of_length_eq_zero hl
    subst this
    exact ⟨[], by simp, rfl, by simp⟩
  | x :: l, [], hl, _ => by simp at hl
  | x :: l, y :: l', hl, h => by
    obtain ⟨b, hb, hR⟩ := h 0 x y rfl rfl
    obtain ⟨bs, h1, h2, h3⟩ := run_mapM_all l l' (by simpa using hl) (fun k x y hx hy => h (k + 1) x y (by simpa using hx) (by simpa using hy))
    refine ⟨b :: bs, ?_, by simp [h2], fun k y' b' hy hb' => ?_⟩
    · simp only [List.mapM_cons, Sem.run_bind, hb, Result.andThen_ok, h1, Sem.run_pure]
    · cases k with
      | zero => simp at hy hb'; subst hy; subst hb'; exact hR
      | succ k => simp at hy hb'; exact h3 k y' b' hy hb'

theorem result_sound {c : Cx} (hH : HR P c) {cf : CF} {fn : Func} (hres : fn.results.toList.mapM (compRes P) = some cf.res) {s : St} {tmps : Array Value} (hs : s.H = c.H) (he : EnvR P c s.env tmps) {v : AV} (h : result cf s = some v) :
    ∃ val, (results fn tmps).run P c.w = .ok val c.w ∧ Rep P c v val := by
  obtain ⟨hl, hk⟩ := mapM_some hres
  -- all results, each one
  have all : ∀ vs : List AV, cf.res.mapM (oneRes s.env s.H) = some vs →
      ∃ bs : List Value, (fn.results.toList.mapM (oneVal tmps)).run P c.w = .ok bs c.w ∧ bs.length = vs.length ∧ ∀ (k : Nat) y b, vs[k]? = some y → bs[k]? = some b → Rep P c y b := by
    intro vs hvs
    obtain ⟨g1, g2⟩ := mapM_some hvs
    obtain ⟨bs, h1, h2, h3⟩ := run_mapM_all (P := P) (w := c.w) (R := fun y b => Rep P c y b) (f := oneVal tmps) fn.results.toList vs (by rw [g1, hl]) (fun k x y hx hy => by
          obtain ⟨r, hr, hc⟩ := hk k x hx
          obtain ⟨y', hy', hf⟩ := g2 k r hr
          rw [hy] at hy'; cases hy'
          rw [hs] at hf
          exact one_result hH he hc hf)
    exact ⟨bs, h1, by rw [h2, g1, hl], h3⟩
  have hrun : ∀ bs : List Value, (fn.results.toList.mapM (oneVal tmps)).run P c.w = .ok bs c.w → (results fn tmps).run P c.w = .ok (if h : bs.toArray.size = 1 then bs.toArray[0] else .tuple bs.toArray) c.w := by
    intro bs hb
    have e : results fn tmps = (do
        let vs ← fn.results.mapM (oneVal tmps)
        pure (if h : vs.size = 1 then vs[0] else .tuple vs)) := by
      unfold results
      congr
    rw [e, Array.mapM_eq_mapM_toList]
    simp only [Sem.run_bind, Sem.run_map, hb, Result.andThen_ok, Sem.run_pure]
  unfold result at h
  split at h
  · rename_i r hr
    obtain ⟨bs, h1, h2, h3⟩ := all [v] (by rw [hr]; simp only [List.mapM_cons, List.mapM_nil, h]; rfl)
    obtain ⟨b, rfl⟩ : ∃ b, bs = [b] := by
      cases bs with
      | nil => simp at h2
      | cons b bs => cases bs with
        | nil => exact ⟨b, rfl⟩
        | cons _ _ => simp at h2
    refine ⟨b, by rw [hrun _ h1]; simp, h3 0 v b rfl rfl⟩
  · rename_i hne
    rw [Option.map_eq_some_iff] at h
    obtain ⟨vs, hvs, rfl⟩ := h
    obtain ⟨bs, h1, h2, h3⟩ := all vs hvs
    refine ⟨.tuple bs.toArray, ?_, .tup (by simpa using h2) (fun k a v hk hv => h3 k a v hk (by simpa using hv))⟩
    rw [hrun _ h1]
    have : ¬ bs.toArray.size = 1 := by
      intro hc
      have hc' : bs.length = 1 := by simpa using hc
      rw [h2, (mapM_some hvs).1] at hc'
      cases hres' : cf.res with
      | nil => rw [hres'] at hc'; simp at hc'
      | cons r rs => cases rs with
        | nil => exact hne r hres'
        | cons _ _ => rw [hres'] at hc'; simp at hc'
    rw [dif_neg this]

theorem callFunc_enter {f : FuncId} {vals : Array Value} {fn : Func} (hf : P.funcs[f]? = some fn) (hn : (fn.name == "runtime.NumGoroutine") = false) (hb : fn.body.isSome = true) (w : World) :
    (callFunc f vals).run P w = .ok (.enter f vals) w := by
  have hb' : fn.body ≠ none := by intro h; simp [h] at hb
  have hn' : fn.name ≠ "runtime.NumGoroutine" := by simpa using hn
  simp [callFunc, hf, hn', hb']

theorem callFunc_extern {f : FuncId} {vals : Array Value} {fn : Func} (hf : P.funcs[f]? = some fn) (hn : (fn.name == "runtime.NumGoroutine") = false) (hb : fn.body = none) (h1 : Extern.findNext fn = none) {e : Array Value → Sem Value} (h2 : Extern.find fn = some e)
    {w w' : World} {v : Value} (hr : (e vals).run P w = .ok v w') : (callFunc f vals).run P w = .ok (.value v) w' := by
  have hn' : fn.name ≠ "runtime.NumGoroutine" := by simpa using hn
  simp [callFunc, hf, hn', hb, h1, h2, hr]

/-- every function may be called; the frame may be a round's -/
def FR (r : Option Nat) : Fence := { Fence.wide with round := r }

/-- an operation that is a call -/
theorem call_upon {f : FuncId} {vals : Array Value} {w : World} {R : Value → World → Prop} (h : CallOK P f vals w R) {o : Oper} {a : Act} {next : Act → World → Prop} {Q : Exit → Act → World → Prop} {r : Option Nat} {N : Nat}
    (hnd : ∀ c, o.op ≠ .defer c) (hex : (execOp a.eval o).run P w = (callFunc f vals).run P w) (hn : ∀ v w', R v w' → next (a.put o.dst v) w') : o.wpIn (FR r) N P a w next Q := by
  obtain ⟨fn, hf, hnm, h⟩ := h
  refine ⟨fun _ _ => trivial, ?_⟩
  rw [Oper.semAt_eq _ _ _ hnd, hex]
  rcases h with ⟨hb, hc⟩ | ⟨hb, h1, e, v, w', h2, hr, hR⟩
  · rw [callFunc_enter hf hnm hb, Oper.uponIn_enter]
    refine ⟨fun h => (by cases h), ?_⟩
    have hc' : CallsIn (FR r) (N - 1) P f vals w (fun e w' => ∃ v, e = .returned v ∧ R v w') := callsIn_wide.2 hc
    refine hc'.mono fun e w' he => ?_
    obtain ⟨v, rfl, hR⟩ := he
    exact hn v w' hR
  · rw [callFunc_extern hf hnm hb h1 h2 hr, Oper.uponIn_value]
    exact hn v w' hR

end
end Go.Ev
end

section
/- The evaluator is sound: what it reckons is what the model's code does. -/
namespace Go.Ev

def toExit : Ex → Exit
  | .normal => .normal
  | .exit id => .exit id
  | .ret => .ret

section
variable {P : Program}

theorem cell_turn {w w' : World} (hc : ∀ (b : Nat) arr ty fz, w.heap[b]? = some (Obj.cells arr ty fz) → w'.heap[b]? = w.heap[b]?) {a : Addr} {v : Value} (h : w.cell? a = some v) : w'.cell? a = some v := by
  unfold World.cell? at h ⊢
  cases hb : w.heap[a.block]? with
  | none => rw [hb] at h; simp at h
  | some o =>
    cases o with
    | cells arr ty fz =>
      rw [hc _ _ _ _ hb, hb]
      rw [hb] at h
      exact h
    | _ => rw [hb] at h; simp at h

/-- blocks that are no cells are turned: all that stood for something does so -/
theorem Rep.turn {c : Cx} (hH : HR P c) {w' : World} (hsz : c.w.heap.size ≤ w'.heap.size) (hc : ∀ (b : Nat) arr ty fz, c.w.heap[b]? = some (Obj.cells arr ty fz) → w'.heap[b]? = c.w.heap[b]?) {a : AV} {v : Value} (h : Rep P c a v) :
    Rep P { c with w := w' } a v := by
  have hst : ∀ b, c.Still b → ({ c with w := w' } : Cx).Still b := fun b hb => ⟨Nat.lt_of_lt_of_le hb.1 hsz, hb.2.1, hb.2.2⟩
  induction h with
  | int k n => exact .int k n
  | bool b => exact .bool b
  | str s => exact .str s
  | nilp => exact .nilp
  | ptr h hk => exact .ptr (c := { c with w := w' }) h hk
  | ptrS a h hk => exact .ptrS (c := { c with w := w' }) a h hk
  | iptr f hb hcl hf hr ih => exact .iptr f (hst _ hb) hcl (fun x a hx => cell_turn hc (hf x a hx)) ih
  | slE h => exact .slE h
  | sl esz f hne hn hcap hb hcl hz hf hr ih => exact .sl esz f hne hn hcap (hst _ hb) hcl hz (fun k e j a hk hj => cell_turn hc (hf k e j a hk hj)) ih
  | @msl i ep off n cap' esz L cap h hk hn hcap hL hs =>
    refine .msl (c := { c with w := w' }) h hk hn hcap hL ?_
    obtain ⟨r, hi, _, _⟩ := sig_some h
    obtain ⟨arr, fz, hb, _⟩ := (hH.var i r hi).cells
    have e : bsize w' (c.m i) = bsize c.w (c.m i) := by
      unfold bsize
      rw [hc _ _ _ _ hb]
    show _ ≤ bsize w' (c.m i)
    rw [e]; exact hs
  | mslS a l cap' h hk => exact .mslS (c := { c with w := w' }) a l cap' h hk
  | agg hl h ih => exact .agg hl ih
  | tup hl h ih => exact .tup hl ih
  | fn hl h ih => exact .fn hl ih
  | nilfn => exact .nilfn
  | ifc h ih => exact .ifc ih
  | nilif => exact .nilif
  | map r => exact .map r
  | nilmap => exact .nilmap
  | junk v => exact .junk v

theorem HR.turn {c : Cx} (hH : HR P c) {w' : World} (hsz : c.w.heap.size ≤ w'.heap.size) (hc : ∀ (b : Nat) arr ty fz, c.w.heap[b]? = some (Obj.cells arr ty fz) → w'.heap[b]? = c.w.heap[b]?) : HR P { c with w := w' } := by
  refine ⟨hH.inj, fun i r hi => ?_, hH.nomap, fun b hb => Nat.lt_of_lt_of_le (hH.x b hb) hsz⟩
  have hv := hH.var i r hi
  obtain ⟨arr, fz, h1, h2, h3, h4⟩ := hv.cells
  exact ⟨hv.ep, ⟨arr, fz, by show w'.heap[c.m i]? = _; rw [hc _ _ _ _ h1]; exact h1, h2, h3, fun k e j a hk hj => let ⟨v, g1, g2⟩ := h4 k e j a hk hj; ⟨v, g1, g2.turn hH hsz hc⟩⟩, hv.frz, hv.x, hv.sz, hv.cl⟩

theorem bsize_turn {c : Cx} (hH : HR P c) {w' : World} (hc : ∀ (b : Nat) arr ty fz, c.w.heap[b]? = some (Obj.cells arr ty fz) → w'.heap[b]? = c.w.heap[b]?) {i ep : Nat} {z : Nat × Nat} (h : sig c.H i ep = some z) : bsize w' (c.m i) = bsize c.w (c.m i) := by
  obtain ⟨r, hi, _, _⟩ := sig_some h
  obtain ⟨arr, fz, hb, _⟩ := (hH.var i r hi).cells
  unfold bsize
  rw [hc _ _ _ _ hb]

theorem Cx.le.turn {ce c : Cx} (hle : ce.le c) (hH : HR P c) {w' : World} (hsz : c.w.heap.size ≤ w'.heap.size) (hc : ∀ (b : Nat) arr ty fz, c.w.heap[b]? = some (Obj.cells arr ty fz) → w'.heap[b]? = c.w.heap[b]?) (hs : Same c.w w')
    (hold : ∀ b, b < ce.w.heap.size → w'.heap[b]? = c.w.heap[b]?) : ce.le { c with w := w' } := by
  refine ⟨Nat.le_trans hle.size hsz, fun b hb ho hx => ?_, hle.own, hle.clk, fun i ep z he h => ?_, hle.x, hs.os.trans hle.os, hs.tape.trans hle.tape, hs.output.trans hle.output⟩
  · show w'.heap[b]? = _
    rw [hold b hb]; exact hle.still b hb ho hx
  · obtain ⟨h1, h2, h3⟩ := hle.live i ep z he h
    refine ⟨h1, h2, ?_⟩
    have := bsize_turn hH hc (show sig c.H i ep = some z from h)
    show bsize w' (ce.m i) = _
    rw [← h3, ← h2]; exact this

/-! marks among the deferred calls -/

def markOf (r : Nat) : Deferred := { target := .collected r, args := #[] }

def Marks (B : Nat) (c : Cx) (ds : List Deferred) : Prop := ∃ rs : List Nat, ds = rs.map markOf ∧ rs.Nodup ∧ ∀ r ∈ rs, B ≤ r ∧ c.Still r ∧ c.w.heap[r]? = some (.deferred (some []))

theorem Marks.nil {B : Nat} {c : Cx} : Marks B c [] := ⟨[], rfl, List.nodup_nil, by simp⟩

theorem Marks.mono {B : Nat} {c c' : Cx} {ds : List Deferred} (hle : c.le c') (h : Marks B c ds) : Marks B c' ds := by
  obtain ⟨rs, h1, h2, h3⟩ := h
  refine ⟨rs, h1, h2, fun r hr => ?_⟩
  obtain ⟨g1, g2, g3⟩ := h3 r hr
  exact ⟨g1, hle.stillB g2, by rw [hle.still r g2.1 g2.2.1 (fun hx => absurd hx g2.2.2)]; exact g3⟩

/-- the blocks of the marks are shut -/
def unmark (w : World) (rs : List Nat) : World := rs.foldl (fun w r => w.putObj r (.deferred none)) w

theorem unmark_heap : ∀ (rs : List Nat) (w : World) (b : Nat), b ∉ rs → (unmark w rs).heap[b]? = w.heap[b]?
  | [], _, _, _ => rfl
  | r :: rs, w, b, h => by
    have h' : b ≠ r ∧ b ∉ rs := by simpa using h
    show (unmark (w.putObj r (.deferred none)) rs).heap[b]? = _
    rw [unmark_heap rs _ b h'.2]
    exact World.putObj_heap_other h'.1

theorem unmark_size : ∀ (rs : List Nat) (w : World), (unmark w rs).heap.size = w.heap.size
  | [], _ => rfl
  | r :: rs, w => by
    show (unmark (w.putObj r (.deferred none)) rs).heap.size = _
    rw [unmark_size rs]; exact World.putObj_size

theorem unmark_same : ∀ (rs : List Nat) (w : World), Same w (unmark w rs)
  | [], _ => ⟨rfl, rfl, rfl⟩
  | r :: rs, w => by
    have h := unmark_same rs (w.putObj r (.deferred none))
    exact ⟨h.os, h.tape, h.output⟩

theorem leaves_marks {N : Nat} {fn : Func} {tmps : Array Value} {R : Ending → World → Prop} : ∀ (rs : List Nat) (w : World), rs.Nodup → (∀ r ∈ rs, w.heap[r]? = some (.deferred (some []))) →
    (∃ v, (results fn tmps).run P (unmark w rs) = .ok v (unmark w rs) ∧ R (.returned v) (unmark w rs)) → LeavesInM Fence.wide N P fn tmps R (rs.map markOf) .returning w
  | [], w, _, _, h => h
  | r :: rs, w, hn, hr, h => by
    rw [List.nodup_cons] at hn
    refine ⟨by simp, .inl ⟨r, w.putObj r (.deferred none), rfl, run_takeDeferred (hr r (by simp)), ?_⟩⟩
    refine leaves_marks rs _ hn.2 (fun q hq => ?_) h
    rw [World.putObj_heap_other (fun e : q = r => hn.1 (by rw [← e]; exact hq))]
    exact hr q (by simp [hq])

end

/-- a frame's state that stands for the evaluator's -/
def StR (P : Program) (ce : Cx) (s : St) (a : Act) (w : World) : Prop :=
  ∃ m, ce.le ⟨s.H, m, s.clk, w, ce.x⟩ ∧ HR P ⟨s.H, m, s.clk, w, ce.x⟩ ∧ EnvR P ⟨s.H, m, s.clk, w, ce.x⟩ s.env a.tmps ∧ Marks ce.w.heap.size ⟨s.H, m, s.clk, w, ce.x⟩ a.defers

def Post (P : Program) (ce : Cx) (ex : Ex) (s : St) : Exit → Act → World → Prop := fun e a w => e = toExit ex ∧ StR P ce s a w

/-- what is asked of an iterator -/
def IterOK (P : Program) (f : FuncId) (k : IK) : Prop :=
  ∀ (c : Cx) (caps : List AV) (vs : Array Value) (its : List (List AV)), HR P c → ArgsR P c caps vs → items k caps c.H = some its →
    ∃ encs : Nat → Array Value, (∀ j it, its[j]? = some it → ∃ x v, it = [x] ∧ encs j = #[v] ∧ closed x = true ∧ Rep P c x v) ∧
      (∀ args w, (callFunc f args).run P w = .ok (.enter f args) w) ∧
      ∀ (N l : Nat) (J Jx : Nat → World → Prop) (W : World), (∀ b, c.Still b → W.heap[b]? = c.w.heap[b]?) →
        (∀ j W W', J j W → Same W W' → W.heap.size ≤ W'.heap.size → (∀ b, b < W.heap.size → W'.heap[b]? = W.heap[b]?) → J j W') →
        (∀ j W W', Jx j W → Same W W' → W.heap.size ≤ W'.heap.size → (∀ b, b < W.heap.size → W'.heap[b]? = W.heap[b]?) → Jx j W') →
        (∀ M j W1, J j W1 → j < its.length → YieldAt Fence.wide M P l (encs j) W1 fun e W' =>
          (e = .returned (.bool true) ∧ J (j + 1) W' ∧ ∀ b, c.Still b → W'.heap[b]? = W1.heap[b]?) ∨ (e = .returned (.bool false) ∧ Jx (j + 1) W')) →
        J 0 W → CallsIn Fence.wide N P f (#[.func (.yield l) #[] #[]] ++ vs) W fun e W' => (∃ v, e = .returned v) ∧ (J its.length W' ∨ ∃ j, Jx j W')

structure TOK (P : Program) (w0 : World) (T : Tbl) : Prop where
  code : ∀ f cf, T f = some (.code cf) → ∃ fn code, CodeOK P f cf fn code
  prim : ∀ f p, T f = some (.prim p) → PrimOK P w0 f p
  iter : ∀ f k, T f = some (.iter k) → IterOK P f k

def CallS (P : Program) (w0 : World) (T : Tbl) (n : Nat) : Prop := ∀ (c : Cx) (f : Nat) (args : List AV) (vals : Array Value) (v : AV) (H' : Heap) (clk' : Nat),
  Bs w0 c → HR P c → ArgsR P c args vals → evCall T n f args c.H c.clk = some (v, H', clk') → CallOK P f vals c.w (Rets P c v H' clk')

def OpsS (P : Program) (w0 : World) (T : Tbl) (n : Nat) : Prop := ∀ (r : Option Nat) (N : Nat) (ce : Cx) (ops : Array Oper) (ocs : List Oc) (i : Nat) (s s' : St) (a : Act) (w : World) (Q : Exit → Act → World → Prop),
  Bs w0 ce → compOpers P ops = some ocs → evOps T n (ocs.drop i) s = some s' → StR P ce s a w → (∀ a w, StR P ce s' a w → Q .normal a w) → wpOpsIn (FR r) N P ops Q (List.range' i (ops.size - i)) a w

def CodeS (P : Program) (w0 : World) (T : Tbl) (n : Nat) : Prop := ∀ (r : Option Nat) (N : Nat) (ce : Cx) (code : Code) (cc : CC) (s : St) (ex : Ex) (s' : St) (a : Act) (w : World),
  Bs w0 ce → (r = none ∨ noRf code = true) → compC P code cc = some cc → evCode T n ce.H.length ce.clk cc s = some (ex, s') → StR P ce s a w → code.wpIn (FR r) N P (Post P ce ex s') a w

def LoopS (P : Program) (w0 : World) (T : Tbl) (n : Nat) : Prop := ∀ (r : Option Nat) (N : Nat) (ce : Cx) (code : Code) (live : List Nat) (b : CC) (s : St) (ex : Ex) (s' : St) (a : Act) (w : World),
  Bs w0 ce → (r = none ∨ noRf code = true) → compC P code b = some b → evLoop T n ce.H.length ce.clk live b s = some (ex, s') → StR P ce s a w → Code.roundsIn (FR r) N P code (Post P ce ex s') n a w

section
variable {P : Program} {w0 : World} {T : Tbl}

theorem EnvR.enter {c : Cx} {args : List AV} {vals : Array Value} (h : ArgsR P c args vals) (n : Nat) :
    EnvR P c (args ++ List.replicate (n - args.length) .junk) (vals ++ Array.replicate (n - vals.size) undef) := by
  refine ⟨by simp [h.1], fun i a v hi hv => ?_⟩
  rw [List.getElem?_append] at hi
  rw [Array.getElem?_append] at hv
  rw [h.1] at hv
  split at hi
  · rename_i hl
    rw [if_pos hl] at hv
    exact h.2 i a v hi hv
  · rw [List.getElem?_replicate] at hi
    split at hi
    · cases hi; exact .junk _
    · cases hi

/-- what a function's body is to come to, as its caller wants it -/
theorem enter_wp {f : FuncId} {cf : CF} {fn : Func} {code : Code} (hok : CodeOK P f cf fn code) {ce : Cx} {env : List AV} {vals : Array Value} (ha : ArgsR P ce env vals) (hB : Bs w0 ce) (hH : HR P ce) {n : Nat} (hS : CodeS P w0 T n) {ex : Ex} {s' : St}
    (hev : evCode T n ce.H.length ce.clk cf.body { env := env ++ List.replicate (cf.ntmps - env.length) .junk, H := ce.H, clk := ce.clk } = some (ex, s')) (hex : ex = .normal ∨ ex = .ret) {R : Value → World → Prop}
    (hR : ∀ (a : Act) (w : World) (m : Nat → Nat), ce.le ⟨s'.H, m, s'.clk, w, ce.x⟩ → HR P ⟨s'.H, m, s'.clk, w, ce.x⟩ → EnvR P ⟨s'.H, m, s'.clk, w, ce.x⟩ s'.env a.tmps → ∃ v, (results fn a.tmps).run P w = .ok v w ∧ R v w) :
    CallOK P f vals ce.w R := by
  refine ⟨fn, hok.func, hok.name, .inl ⟨by rw [hok.body]; rfl, ?_⟩⟩
  refine (callsIn_wide (n := 0)).1 (callsIn_of_wp_marks hok.func hok.body trivial ?_)
  have hst : StR P ce { env := env ++ List.replicate (cf.ntmps - env.length) .junk, H := ce.H, clk := ce.clk } { tmps := vals ++ Array.replicate (fn.ntmps - vals.size) undef, defers := [] } ce.w := by
    refine ⟨ce.m, Cx.le.refl ce, hH, ?_, .nil⟩
    rw [hok.tmps]
    exact EnvR.enter ha cf.ntmps
  refine wpIn_mono (hS none 0 ce code cf.body _ ex s' _ _ hB (.inl rfl) hok.comp hev hst) fun e a w he => ?_
  obtain ⟨rfl, m, h1, h2, h3, rs, h4, h5, h6⟩ := he
  have hcells : ∀ (b : Nat) arr ty fz, w.heap[b]? = some (Obj.cells arr ty fz) → (unmark w rs).heap[b]? = w.heap[b]? := by
    intro b arr ty fz hb
    refine unmark_heap rs w b fun hbr => ?_
    have hd : w.heap[b]? = some (.deferred (some [])) := (h6 b hbr).2.2
    rw [hb] at hd; cases hd
  have hsz : w.heap.size ≤ (unmark w rs).heap.size := by rw [unmark_size]; exact Nat.le_refl _
  have k1 := Cx.le.turn (c := ⟨s'.H, m, s'.clk, w, ce.x⟩) h1 h2 hsz hcells (unmark_same rs w) (fun b hb => unmark_heap rs w b fun hbr => by
    have := (h6 b hbr).1; omega)
  have k2 := HR.turn (c := ⟨s'.H, m, s'.clk, w, ce.x⟩) h2 hsz hcells
  have k3 : EnvR P ⟨s'.H, m, s'.clk, unmark w rs, ce.x⟩ s'.env a.tmps := ⟨h3.1, fun i x v hx hv => Rep.turn (c := ⟨s'.H, m, s'.clk, w, ce.x⟩) h2 hsz hcells (h3.2 i x v hx hv)⟩
  obtain ⟨v, hv, hRv⟩ := hR a (unmark w rs) m k1 k2 k3
  have hl : LeavesInM Fence.wide 0 P fn a.tmps (fun e w' => ∃ v, e = .returned v ∧ R v w') a.defers .returning w := by
    rw [h4]
    exact leaves_marks rs w h5 (fun r hr => (h6 r hr).2.2) ⟨v, hv, v, rfl, hRv⟩
  rcases hex with rfl | rfl
  · exact hl
  · exact hl

theorem after_sound {c : Cx} (hH : HR P c) {v : AV} {args vs : List AV} {vals : Array Value} (ha : ArgsR P c args vals) (hv : args.mapM (view false c.H) = some vs) {H' : Heap} (h : after v args c.H = some H') :
    ∃ x : Nat → Prop, c.le ⟨H', c.m, c.clk, c.w, c.x⟩ ∧ HR P ⟨H', c.m, c.clk, c.w, c.x⟩ ∧ ArgsR P (pureCx c x) vs vals ∧ (∀ b, x b → b < c.w.heap.size) ∧ (∀ b, x b → c.x b ∨ c.Own b) ∧
      (scalar v = true ∨ ∀ b, ¬ x b → ¬ (⟨H', c.m, c.clk, c.w, c.x⟩ : Cx).Own b ∧ ¬ c.x b) := by
  have args_of : ∀ (c1 : Cx) (hH1 : HR P c1) (fr : Bool) (x : Nat → Prop), c1.w = c.w → ArgsR P c1 args vals → args.mapM (view fr c1.H) = some vs → (∀ b, c1.Still b → ¬ x b) →
      (∀ (i : Nat) (r : VO), c1.H[i]? = some (.var r) → (fr && r.own) = false → ¬ x (c1.m i)) → ArgsR P (pureCx c x) vs vals := by
    intro c1 hH1 fr x hw ha1 hv1 hS hV
    refine ⟨by rw [ha1.1, (mapM_some hv1).1], fun k a val hk hval => ?_⟩
    obtain ⟨y, hy, hf⟩ := mapM_some' hv1 hk
    have := viewF_sound hH1 hS hV hf (ha1.2 k y val hy hval)
    simp only [pureCx] at this ⊢
    rw [hw] at this
    exact this
  have det : ∀ {fr : Bool} {H : Heap} {us : List AV}, args.mapM (view fr H) = some us → (∀ x y, view fr H x = some y → view false c.H x = some y) → us = vs := by
    intro fr H us h1 h2
    have := mapM_imp h2 h1
    rw [hv] at this; cases this; rfl
  unfold after at h
  split at h
  · rename_i hs
    cases h
    refine ⟨c.x, Cx.le.refl c, hH, args_of c hH false c.x rfl ha hv (fun b hb => hb.2.2) (fun i r hi _ => (hH.var i r hi).x), hH.x, fun b hb => .inl hb, .inl hs⟩
  · split at h
    · rename_i hs
      cases h
      obtain ⟨us, hus⟩ := Option.isSome_iff_exists.1 hs
      obtain rfl := det hus (fun x y => viewF_flag)
      refine ⟨fun b => c.x b ∨ c.Own b, Cx.le.refl c, hH, args_of c hH true _ rfl ha hus (fun b hb hx => hx.elim hb.2.2 hb.2.1) (fun i r hi hfr hx => ?_), fun b hb => hb.elim (hH.x b) hH.own_lt, fun b hb => hb, .inr fun b hb => ⟨fun h => hb (.inr h), fun h => hb (.inl h)⟩⟩
      have hvr := hH.var i r hi
      rcases hx with hx | hx
      · exact hvr.x hx
      · exact hvr.frz (by simpa using hfr) hx
    · simp only [] at h
      split at h
      case isFalse => cases h
      rename_i hs
      cases h
      obtain ⟨us, hus⟩ := Option.isSome_iff_exists.1 hs
      obtain rfl := det hus (fun x y => viewF_frozen)
      obtain ⟨g1, g2⟩ := Cx.le.freezes hH (reach c.H (c.H.length * 4 + 64) (refsL args) [])
      have ha1 : ArgsR P ⟨freeze c.H (reach c.H (c.H.length * 4 + 64) (refsL args) []), c.m, c.clk, c.w, c.x⟩ args vals := ⟨ha.1, fun k a v h1 h2 => (ha.2 k a v h1 h2).mono g1⟩
      refine ⟨fun b => c.x b ∨ (⟨freeze c.H (reach c.H (c.H.length * 4 + 64) (refsL args) []), c.m, c.clk, c.w, c.x⟩ : Cx).Own b, g1, g2, args_of _ g2 true _ rfl ha1 hus (fun b hb hx => hx.elim hb.2.2 hb.2.1) (fun i r hi hfr hx => ?_),
        fun b hb => hb.elim (hH.x b) g2.own_lt, fun b hb => hb.elim .inl (fun ho => (g1.own b ho).elim .inr (fun h => h.elim (fun h => absurd (g2.own_lt ho) (Nat.not_lt.2 h)) (fun h => absurd h.1 h.2))), .inr fun b hb => ⟨fun h => hb (.inr h), fun h => hb (.inl h)⟩⟩
      have hvr := g2.var i r hi
      rcases hx with hx | hx
      · exact hvr.x hx
      · exact hvr.frz (by simpa using hfr) hx

theorem pureCx_HR (c : Cx) {x : Nat → Prop} (hx : ∀ b, x b → b < c.w.heap.size) : HR P (pureCx c x) :=
  ⟨fun i j o o' h => by simp [pureCx] at h, fun i r h => by simp [pureCx] at h, fun i es ep ver h => by simp [pureCx] at h, hx⟩

theorem callS_succ (hT : TOK P w0 T) {n : Nat} (hS : CodeS P w0 T n) : CallS P w0 T (n + 1) := by
  intro c f args vals v H' clk' hB hH ha h
  rw [evCall] at h
  split at h
  · cases h
  · rename_i p hp
    exact hT.prim f p hp c args vals v H' clk' hB hH ha h
  · cases h
  · rename_i cf hcf
    obtain ⟨fn, code, hok⟩ := hT.code f cf hcf
    split at h
    · -- as a pure one
      rename_i vs hvs
      have hvs' : args.mapM (view false c.H) = some vs := by
        split at hvs
        · cases hvs
        · exact hvs
      have fin : ∀ (ex : Ex) (s : St), ex = .normal ∨ ex = .ret → evCode T n 0 0 cf.body { env := vs ++ List.replicate (cf.ntmps - vs.length) .junk, H := [], clk := 0 } = some (ex, s) →
          (match (result cf s).bind (view false s.H) with
            | some v => (after v args c.H).map fun H' => (v, H', c.clk)
            | none => none) = some (v, H', clk') → CallOK P f vals c.w (Rets P c v H' clk') := by
        intro ex s hex hev h
        split at h
        case h_2 => cases h
        rename_i v0 hv0
        rw [Option.map_eq_some_iff] at h
        obtain ⟨H0, hH0, he⟩ := h
        cases he
        rw [Option.bind_eq_some_iff] at hv0
        obtain ⟨u, hu, hv⟩ := hv0
        obtain ⟨x, g1, g2, g3, g4, g6, g5⟩ := after_sound hH ha hvs' hH0
        have hce := pureCx_HR (P := P) c g4
        have hBp : Bs w0 (pureCx c x) := ⟨hB.size, fun b hb => ⟨(hB.same b hb).1, pureCx_own c x b, fun hx => (g6 b hx).elim (hB.same b hb).2.2 (hB.same b hb).2.1⟩⟩
        refine enter_wp (ce := pureCx c x) hok g3 hBp hce hS hev hex fun a w m h1 h2 h3 => ?_
        obtain ⟨val, hrun, hrep⟩ := result_sound (c := ⟨s.H, m, s.clk, w, x⟩) h2 hok.res rfl h3 hu
        have hview := viewF_sound (c := ⟨s.H, m, s.clk, w, x⟩) h2 (fr := false) (x := x) (fun b hb => hb.2.2) (fun i r hi _ => (h2.var i r hi).x) hv hrep
        refine ⟨val, hrun, c.m, ?_⟩
        have hw : ∀ b, b < c.w.heap.size → w.heap[b]? = c.w.heap[b]? := fun b hb => h1.still b hb (pureCx_own c x b) (fun h => h)
        obtain ⟨k1, k2⟩ := Cx.le.world g2 (w' := w) ⟨h1.os, h1.tape, h1.output⟩ h1.size hw
        refine ⟨g1.trans k1, k2, ?_⟩
        rcases g5 with hs | hx
        · exact hview.scalar hs
        · refine Rep.move (c := pureCx ⟨s.H, m, s.clk, w, x⟩ x) (c' := ⟨H', c.m, c.clk, w, c.x⟩) (fun b hb => ⟨⟨hb.1, ?_, ?_⟩, fun _ => rfl⟩) hview (viewF_closed hv)
          · exact (hx b hb.2.2).1
          · exact (hx b hb.2.2).2
      split at h
      · rename_i s hev; exact fin _ s (.inl rfl) hev h
      · rename_i s hev; exact fin _ s (.inr rfl) hev h
      · cases h
    · -- in the caller's heap
      have fin : ∀ (ex : Ex) (s : St), ex = .normal ∨ ex = .ret → evCode T n c.H.length c.clk cf.body { env := args ++ List.replicate (cf.ntmps - args.length) .junk, H := c.H, clk := c.clk } = some (ex, s) →
          (match result cf s with
            | some v => match norm c.H.length c.clk [v] s.H with
              | ([v], H', clk') => some (v, H', clk')
              | _ => none
            | none => none) = some (v, H', clk') → CallOK P f vals c.w (Rets P c v H' clk') := by
        intro ex s hex hev h
        split at h
        case h_2 => cases h
        rename_i u hu
        split at h
        case h_2 => cases h
        rename_i v0 H0 clk0 hn
        cases h
        refine enter_wp (ce := c) hok ha hB hH hS hev hex fun a w m h1 h2 h3 => ?_
        obtain ⟨val, hrun, hrep⟩ := result_sound (c := ⟨s.H, m, s.clk, w, c.x⟩) h2 hok.res rfl h3 hu
        obtain ⟨k1, k2, k3, k4⟩ := norm_sound (ce := c) (c := ⟨s.H, m, s.clk, w, c.x⟩) h2 h1 hn
        obtain ⟨v', hv', hr'⟩ := k4 0 u val rfl hrep
        simp at hv'
        subst hv'
        exact ⟨val, hrun, m, k1, k2, hr'⟩
      split at h
      · rename_i s hev; exact fin _ s (.inl rfl) hev h
      · rename_i s hev; exact fin _ s (.inr rfl) hev h
      · cases h

end
end Go.Ev
end

section
/- The evaluator is sound: operations, code, loops. -/
namespace Go.Ev

/-- regions whose order is drawn, and ranges over functions: what is asked of them -/
def DregS (P : Program) (w0 : World) (T : Tbl) : Prop := ∀ (n : Nat) (r : Option Nat) (N : Nat) (ce : Cx) (id : Nat) (ops : Array Oper) (ocs : List Oc) (ds : List Dc) (s : St) (sts : List St) (s' : St) (a : Act) (w : World),
  Bs w0 ce → (∀ k, k ≤ n → CallS P w0 T k) → compOpers P ops = some ocs → ds.mapM (fun d => (ocs[d.ix]?).map fun oc => { d with oc := oc }) = some ds → okD ops ds = true → evDreg T n ds s s.H s.clk = some sts → stable ds sts = true → sts.getLast? = some s' →
    StR P ce s a w → (Code.region id ops true).wpIn (FR r) N P (Post P ce .normal s') a w

def RfunS (P : Program) (w0 : World) (T : Tbl) : Prop := ∀ (n : Nat) (N : Nat) (ce : Cx) (f : Operand) (ps : Array Tmp) (x y : Code) (live : List Nat) (ca cb : CC) (s : St) (ex : Ex) (s' : St) (a : Act) (w : World),
  Bs w0 ce → (∀ k, k ≤ n → CodeS P w0 T k) → noRf x = true → noRf y = true → ps.size = 1 → compC P x ca = some ca → compC P y cb = some cb → evCode T (n + 1) ce.H.length ce.clk (.rfun live (cRef f) ps.toList ca cb) s = some (ex, s') → StR P ce s a w →
    (Code.rangeFunc f ps x y).wpIn (FR none) N P (Post P ce ex s') a w

section
variable {P : Program} {w0 : World} {T : Tbl}

theorem yielded_of {c : Cx} {env : Env} {tmps : Array Value} (h : EnvR P c env tmps) {ops : Array Oper} {j t : Nat} {b : Bool} (hj : (ops[j]?).bind (·.dst) = some t) (hb : env.getD t .junk = .bool b) : yielded ops tmps j = some b := by
  have hr := h.at t
  rw [hb] at hr
  have hv := hr.bool_inv
  unfold yielded
  rw [hj]
  simp only [Option.bind_some]
  have : t < tmps.size := by
    rcases Nat.lt_or_ge t tmps.size with h' | h'
    · exact h'
    · have hlen : env.length ≤ t := by rw [h.1]; exact h'
      simp [List.getD, List.getElem?_eq_none hlen] at hb
  have e : tmps[t]? = some (tmps.getD t undef) := by simp [Array.getD, this]
  rw [e, hv]

theorem mapM_get {α β : Type} {f : α → Option β} {l : List α} {l' : List β} (h : l.mapM f = some l') {i : Nat} {y : β} (hy : l'[i]? = some y) : ∃ x, l[i]? = some x ∧ f x = some y := mapM_some' h hy

theorem execOp_call {o : Oper} {c : Call} {f : Operand} {a : Act} {fi : Nat} {vs : Array Value} (ho : o.op = .call c) (hc : c.callee = .value f) (hf : a.eval f = .func (.func fi) #[] vs) (w : World) :
    (execOp a.eval o).run P w = (callFunc fi (c.args.map a.eval ++ vs)).run P w := by
  simp [execOp, ho, resolve, hc, hf, Deferred.ofValue, invoke]

theorem Rep.fn_inv {c : Cx} {f : Nat} {cs : List AV} {v : Value} (h : Rep P c (.fn f cs) v) : ∃ vs : Array Value, v = .func (.func f) #[] vs ∧ vs.size = cs.length ∧ ∀ (k : Nat) a v, cs[k]? = some a → vs[k]? = some v → Rep P c a v := by
  cases h with | fn hl h => exact ⟨_, rfl, hl, h⟩

theorem compCall_call {cl : Call} {f : Ref} {args : List Ref} (h : compCall P cl = some (.call f args)) : ∃ fo, cl.callee = .value fo ∧ f = cRef fo ∧ args = cl.args.toList.map cRef := by
  unfold compCall at h
  split at h
  · rename_i fo hc; cases h; exact ⟨fo, hc, rfl, rfl⟩
  · cases h
  · repeat' split at h
    all_goals first
      | (cases h; done)
      | (rw [Option.map_eq_some_iff] at h; obtain ⟨_, _, h⟩ := h; cases h; done)
      | (rw [Option.bind_eq_some_iff] at h; obtain ⟨_, _, h⟩ := h; split at h <;> cases h; done)

theorem compOp_call {op : Op} {f : Ref} {args : List Ref} (h : compOp P op = some (.call f args)) : ∃ cl fo, op = .call cl ∧ cl.callee = .value fo ∧ f = cRef fo ∧ args = cl.args.toList.map cRef := by
  unfold compOp at h
  split at h
  case h_20 cl => obtain ⟨fo, h1, h2, h3⟩ := compCall_call h; exact ⟨cl, fo, rfl, h1, h2, h3⟩
  all_goals (try (unfold compAlloc at h))
  all_goals (try (unfold compBuild at h))
  all_goals (try (unfold compMkSl at h))
  all_goals (try (unfold compBin at h))
  all_goals (try (unfold compConv at h))
  all_goals (try (unfold compSlice at h))
  all_goals (repeat' split at h)
  all_goals first
      | (cases h; done)
      | (rw [Option.map_eq_some_iff] at h; obtain ⟨_, _, h⟩ := h; cases h; done)
      | (rw [Option.bind_eq_some_iff] at h; obtain ⟨_, _, h⟩ := h; rw [Option.map_eq_some_iff] at h; obtain ⟨_, _, h⟩ := h; cases h; done)
      | (rw [Option.bind_eq_some_iff] at h; obtain ⟨_, _, h⟩ := h; rw [Option.bind_eq_some_iff] at h; obtain ⟨_, _, h⟩ := h; split at h <;> cases h; done)
      | skip

/-- one operation -/
theorem oper_wp' {n : Nat} (hC : CallS P w0 T n) {c : Cx} (hB : Bs w0 c) {ops : Array Oper} {o : Oper} {oc : Oc} (hcomp : compOper P ops o = some oc) {env : Env} {a : Act} (hH : HR P c) (he : EnvR P c env a.tmps) {v : AV} {H' : Heap} {clk' : Nat}
    (h : (match oc.op with
      | .call f args => match evR env f with
        | .fn f caps => evCall T n f (args.map (evR env) ++ caps) c.H c.clk
        | _ => none
      | op => evOp (op.map (evR env)) c.H c.clk) = some (v, H', clk')) {next : Act → World → Prop} {Q : Exit → Act → World → Prop} {r : Option Nat} {N : Nat}
    (hn : ∀ val w' m', c.le ⟨H', m', clk', w', c.x⟩ → HR P ⟨H', m', clk', w', c.x⟩ → EnvR P ⟨H', m', clk', w', c.x⟩ (match oc.dst with | some d => env.set d v | none => env) (a.put oc.dst val).tmps → next (a.put oc.dst val) w') : o.wpIn (FR r) N P a c.w next Q := by
  obtain ⟨op, hop', hdst, hoc⟩ : ∃ op, compOp' P o.op = some op ∧ oc.dst = o.dst ∧ oc.op = op := by
    unfold compOper at hcomp
    split at hcomp
    · rename_i op hop _
      cases hcomp; exact ⟨op, hop, rfl, rfl⟩
    · rename_i op j want hop _
      split at hcomp
      · cases hcomp; exact ⟨op, hop, rfl, rfl⟩
      · cases hcomp
    · cases hcomp
  subst hoc
  rw [hdst] at hn
  have hnd := compOp'_defer hop'
  have hop : compOp P o.op = some oc.op := by
    rcases compOp'_some hop' with h' | h'
    · exact h'
    · rw [h'] at h
      simp [COp.map, evOp] at h
  have hρ : ∀ x, Rep P c (evR env (cRef x)) (a.eval x) := fun x => evR_rep he x
  have plain : evOp (oc.op.map (evR env)) c.H c.clk = some (v, H', clk') → o.wpIn (FR r) N P a c.w next Q := by
    intro h
    obtain ⟨val, m', w', hrun, h1, h2, h3⟩ := op_sound hH hop hρ h
    refine ⟨fun _ _ => trivial, ?_⟩
    rw [Oper.semAt_eq _ _ _ hnd]
    rcases hrun with hrun | ⟨hrun, rfl⟩
    · rw [hrun, Oper.uponIn_value]
      exact hn _ _ _ h1 h2 ((he.mono h1).put h3 o.dst)
    · rw [hrun, Oper.uponIn_skip]
      exact hn _ _ _ h1 h2 ((he.mono h1).put (.junk undef) o.dst)
  split at h
  · rename_i f args hcall
    -- a call
    obtain ⟨cl, fo, hoo, hcal, hf, hargs⟩ : ∃ cl fo, o.op = .call cl ∧ cl.callee = .value fo ∧ f = cRef fo ∧ args = cl.args.toList.map cRef := by
      rw [hcall] at hop
      exact compOp_call hop
    split at h
    case h_2 => cases h
    rename_i fi caps hfi
    subst hf
    subst hargs
    have hfr := hρ fo
    rw [hfi] at hfr
    obtain ⟨vs, hfv, hvl, hvr⟩ := hfr.fn_inv
    have hargsR : ArgsR P c ((cl.args.toList.map cRef).map (evR env) ++ caps) (cl.args.map a.eval ++ vs) := by
      obtain ⟨g1, g2⟩ := listRep hρ cl.args
      refine ⟨by simp [hvl], fun k x y hx hy => ?_⟩
      rw [List.getElem?_append] at hx
      rw [Array.getElem?_append, g1] at hy
      split at hx
      · rename_i hlt; rw [if_pos hlt] at hy; exact g2 k x y hx hy
      · rename_i hge; rw [if_neg hge] at hy; exact hvr _ x y hx hy
    have hcall' := hC c fi _ _ v H' clk' hB hH hargsR h
    refine call_upon hcall' hnd (execOp_call hoo hcal hfv c.w) fun val w' hR => ?_
    obtain ⟨m', k1, k2, k3⟩ := hR
    exact hn _ _ _ k1 k2 ((he.mono k1).put k3 o.dst)
  · exact plain h

theorem oper_wp {n : Nat} (hC : CallS P w0 T n) {ce : Cx} (hB : Bs w0 ce) {ops : Array Oper} {o : Oper} {oc : Oc} (hcomp : compOper P ops o = some oc) {s : St} {a : Act} {w : World} (hst : StR P ce s a w) {v : AV} {H' : Heap} {clk' : Nat}
    (h : (match oc.op with
      | .call f args => match evR s.env f with
        | .fn f caps => evCall T n f (args.map (evR s.env) ++ caps) s.H s.clk
        | _ => none
      | op => evOp (op.map (evR s.env)) s.H s.clk) = some (v, H', clk')) {next : Act → World → Prop} {Q : Exit → Act → World → Prop} {r : Option Nat} {N : Nat}
    (hn : ∀ a w, StR P ce { env := (match oc.dst with | some d => s.env.set d v | none => s.env), H := H', clk := clk' } a w → next a w) : o.wpIn (FR r) N P a w next Q := by
  obtain ⟨m, hle, hH, he, hmk⟩ := hst
  refine oper_wp' (c := ⟨s.H, m, s.clk, w, ce.x⟩) hC (hB.mono hle) hcomp hH he h fun val w' m' k1 k2 k3 => hn _ _ ⟨m', hle.trans k1, k2, k3, ?_⟩
  have := hmk.mono k1
  cases oc.dst <;> exact this

end
end Go.Ev
end

section
/- The evaluator is sound: the induction. -/
namespace Go.Ev

section
variable {P : Program} {w0 : World} {T : Tbl}

/-- what one operation does, by the evaluator -/
def stepOp (T : Tbl) (n : Nat) (oc : Oc) (s : St) : Option (AV × Heap × Nat) :=
  match oc.op with
  | .call f args => match evR s.env f with
    | .fn f caps => evCall T n f (args.map (evR s.env) ++ caps) s.H s.clk
    | _ => none
  | op => evOp (op.map (evR s.env)) s.H s.clk

theorem evOps_cons {n : Nat} {o : Oc} {os : List Oc} {s s' : St} (h : evOps T (n + 1) (o :: os) s = some s') :
    (goes s o.guard = some true ∧ ∃ v H' clk', stepOp T n o s = some (v, H', clk') ∧ evOps T n os (putSt s o.dst v H' clk') = some s') ∨
    (goes s o.guard = some false ∧ evOps T n os (putSt s o.dst .junk s.H s.clk) = some s') := by
  rw [evOps] at h
  split at h
  · cases h
  · rename_i hg; exact .inr ⟨hg, h⟩
  · rename_i hg
    refine .inl ⟨hg, ?_⟩
    unfold stepOp
    split at h
    · rename_i f args hc
      split at h
      · rename_i fi caps hfi
        split at h
        · rename_i v H clk hv
          exact ⟨v, H, clk, by simp only [hc, hfi]; exact hv, h⟩
        · cases h
      · cases h
    · rename_i hne
      split at h
      · rename_i v H clk hv
        refine ⟨v, H, clk, ?_, h⟩
        split
        · rename_i f args hc
          exact absurd hc (hne f args)
        · exact hv
      · cases h

theorem compOper_guard {ops : Array Oper} {o : Oper} {oc : Oc} (h : compOper P ops o = some oc) {s : St} {c : Cx} {tmps : Array Value} (he : EnvR P c s.env tmps) {b : Bool} (hg : goes s oc.guard = some b) :
    Region.wanted o (yielded ops tmps) = b := by
  unfold compOper at h
  split at h
  · rename_i op _ hgo
    cases h
    simp only [goes, Option.some.injEq] at hg
    subst hg
    simp [Region.wanted, hgo]
  · rename_i op j want _ hgo
    split at h
    · rename_i t ht
      cases h
      simp only [goes] at hg
      split at hg
      · rename_i b' hb
        cases hg
        have hy := yielded_of he ht hb
        simp only [Region.wanted, hgo, hy]
        cases b' <;> cases want <;> rfl
      · cases hg
    · cases h
  · cases h

theorem opsS_succ {n : Nat} (hC : CallS P w0 T n) (hO : OpsS P w0 T n) : OpsS P w0 T (n + 1) := by
  intro r N ce ops ocs i s s' a w Q hB hcomp h hst hQ
  obtain ⟨hl, hk⟩ := mapM_some hcomp
  cases hd : ocs.drop i with
  | nil =>
    rw [hd, evOps] at h
    cases h
    have hge : ops.size ≤ i := by
      have := List.drop_eq_nil_iff.1 hd
      rw [hl] at this; simpa using this
    rw [show ops.size - i = 0 by omega]
    exact hQ a w hst
  | cons oc os =>
    rw [hd] at h
    have hi : i < ocs.length := by
      rcases Nat.lt_or_ge i ocs.length with h' | h'
      · exact h'
      · rw [List.drop_eq_nil_iff.2 h'] at hd; cases hd
    have hoc : ocs[i]? = some oc := by
      have : (ocs.drop i)[0]? = some oc := by rw [hd]; rfl
      simpa using this
    have hos : os = ocs.drop (i + 1) := by
      have := congrArg List.tail hd
      rw [List.tail_drop] at this
      exact this.symm
    obtain ⟨o, ho, hoper⟩ := mapM_some' hcomp hoc
    rw [Array.getElem?_toList] at ho
    have hsz : ops.size = ocs.length := by rw [hl]; simp
    rw [show ops.size - i = (ops.size - (i + 1)) + 1 by omega, List.range'_succ]
    rw [hos] at h
    simp only [wpOpsIn, ho]
    obtain ⟨m, hle, hH, he, hmk⟩ := hst
    rcases evOps_cons h with ⟨hg, v, H', clk', hstep, hrest⟩ | ⟨hg, hrest⟩
    · rw [compOper_guard hoper he hg, if_pos rfl]
      refine oper_wp hC hB hoper ⟨m, hle, hH, he, hmk⟩ hstep fun a' w' hst' => ?_
      exact hO r N ce ops ocs (i + 1) _ s' a' w' Q hB hcomp hrest hst' hQ
    · rw [compOper_guard hoper he hg, if_neg (by simp)]
      refine ⟨fun _ _ => trivial, hO r N ce ops ocs (i + 1) _ s' _ w Q hB hcomp hrest ?_ hQ⟩
      have hdst : oc.dst = o.dst := by
        unfold compOper at hoper
        split at hoper
        · cases hoper; rfl
        · split at hoper
          · cases hoper; rfl
          · cases hoper
        · cases hoper
      refine ⟨m, hle, hH, ?_, ?_⟩
      · have := he.put (.junk undef) o.dst
        rw [← hdst] at this ⊢
        exact this
      · cases o.dst <;> exact hmk

theorem StR.filter {ce : Cx} {s : St} {a : Act} {w : World} (h : StR P ce s a w) {live : List Nat} {env : Env} {H : Heap} {clk : Nat} {h0 : Nat}
    (hn : norm h0 ce.clk (s.env.zipIdx.map fun (v, i) => if live.contains i then v else .junk) s.H = (env, H, clk)) : StR P ce { env, H, clk } a w := by
  obtain ⟨m, hle, hH, he, rs, hm1, hm2, hm3⟩ := h
  obtain ⟨k1, k2, k3, k4, k5⟩ := norm_sound' (ce := ce) (c := ⟨s.H, m, s.clk, w, ce.x⟩) hH hle hn
  refine ⟨m, k1, k2, ⟨by rw [k3]; simp [he.1], fun i x v hx hv => ?_⟩, rs, hm1, hm2, fun r hr => ?_⟩
  · have hil : i < s.env.length := by rw [he.1]; exact (Array.getElem?_eq_some_iff.1 hv).1
    have hroot : (s.env.zipIdx.map fun (v, i) => if live.contains i then v else .junk)[i]? = some (if live.contains i then s.env[i] else .junk) := by
      simp [hil]
    have hrep : Rep P ⟨s.H, m, s.clk, w, ce.x⟩ (if live.contains i then s.env[i] else .junk) v := by
      split
      · exact he.2 i _ v (List.getElem?_eq_getElem hil) hv
      · exact .junk v
    obtain ⟨a', ha', hr'⟩ := k4 i _ v hroot hrep
    rw [hx] at ha'; cases ha'
    exact hr'
  · obtain ⟨g1, g2, g3⟩ := hm3 r hr
    exact ⟨g1, ⟨g2.1, fun ho => g2.2.1 (k5 r ho), g2.2.2⟩, g3⟩

theorem loopS_succ {n : Nat} (hS : CodeS P w0 T n) (hL : LoopS P w0 T n) : LoopS P w0 T (n + 1) := by
  intro r N ce code live b s ex s' a w hB hrf hcomp h hst
  rw [evLoop] at h
  generalize hnorm : norm ce.H.length ce.clk (s.env.zipIdx.map fun (v, i) => if live.contains i then v else .junk) s.H = t at h
  obtain ⟨env, H, clk⟩ := t
  have hst' := hst.filter hnorm
  simp only [] at h
  rw [roundsIn_succ]
  split at h
  · rename_i s1 hev
    refine wpIn_mono (hS r N ce code b _ .normal s1 a w hB hrf hcomp hev hst') fun e a w he => ?_
    obtain ⟨rfl, hst1⟩ := he
    exact hL r N ce code live b s1 ex s' a w hB hrf hcomp h hst1
  · rename_i hne
    refine wpIn_mono (hS r N ce code b _ ex s' a w hB hrf hcomp h hst') fun e a w he => ?_
    obtain ⟨rfl, hst1⟩ := he
    cases ex with
    | normal => exact absurd h (hne s')
    | exit id => exact ⟨rfl, hst1⟩
    | ret => exact ⟨rfl, hst1⟩

theorem codeS_succ (hD : DregS P w0 T) (hR : RfunS P w0 T) {n : Nat} (hC : ∀ k, k ≤ n → CallS P w0 T k) (hO : OpsS P w0 T n) (hS : ∀ k, k ≤ n → CodeS P w0 T k) (hL : LoopS P w0 T n) : CodeS P w0 T (n + 1) := by
  intro r N ce code
  induction code with
  | scope x ih =>
    intro cc s ex s' a w hB hrf hcomp h hst
    by_cases hbad : cc = .bad
    · subst hbad; rw [evCode] at h; cases h
    have hcomp : compC P x cc = some cc := by
      rw [compC] at hcomp
      · exact hcomp
      · exact hbad
    obtain rfl : r = none := hrf.resolve_right (by simp [noRf])
    refine (wpIn_wide (n := N)).2 (wp_scope_straight ?_)
    refine (wpIn_wide (n := N)).1 (wpIn_mono (ih cc s ex s' a w hB (.inl rfl) hcomp h hst) fun e a w he => ?_)
    obtain ⟨rfl, hst1⟩ := he
    cases ex <;> exact ⟨rfl, hst1⟩
  | skip =>
    intro cc s ex s' a w hB hrf hcomp h hst
    by_cases hbad : cc = .bad
    · subst hbad; rw [evCode] at h; cases h
    cases cc <;> (try exact absurd rfl hbad) <;> simp only [compC] at hcomp <;> try (cases hcomp; done)
    rw [evCode] at h; cases h
    exact wpIn_skip ⟨rfl, hst⟩
  | label l =>
    intro cc s ex s' a w hB hrf hcomp h hst
    by_cases hbad : cc = .bad
    · subst hbad; rw [evCode] at h; cases h
    cases cc <;> (try exact absurd rfl hbad) <;> simp only [compC] at hcomp <;> try (cases hcomp; done)
    rw [evCode] at h; cases h
    exact wpIn_label ⟨rfl, hst⟩
  | region id ops draw =>
    intro cc s ex s' a w hB hrf hcomp h hst
    by_cases hbad : cc = .bad
    · subst hbad; rw [evCode] at h; cases h
    cases draw with
    | false =>
      cases cc <;> (try exact absurd rfl hbad) <;> simp only [compC] at hcomp <;> try (cases hcomp; done)
      rename_i ocs
      rw [Option.map_eq_some_iff] at hcomp
      obtain ⟨ocs', hocs, he⟩ := hcomp
      cases he
      rw [evCode, Option.map_eq_some_iff] at h
      obtain ⟨s1, hs1, he⟩ := h
      cases he
      refine wpIn_region ?_
      have := hO r N ce ops ocs 0 s s' a w (Post P ce .normal s') hB hocs (by simpa using hs1) hst (fun a w h => ⟨rfl, h⟩)
      rw [List.range_eq_range']
      simpa using this
    | true =>
      cases cc <;> (try exact absurd rfl hbad) <;> simp only [compC] at hcomp <;> try (cases hcomp; done)
      rename_i ds
      split at hcomp
      case h_2 => cases hcomp
      rename_i ocs hocs
      split at hcomp
      case h_2 => cases hcomp
      rename_i ds' hds
      split at hcomp
      case isFalse => cases hcomp
      rename_i hok
      cases hcomp
      rw [evCode] at h
      split at h
      case h_2 => cases h
      rename_i sts hsts
      split at h
      case isFalse => cases h
      rename_i hstab
      rw [Option.map_eq_some_iff] at h
      obtain ⟨s1, hs1, he⟩ := h
      cases he
      exact hD n r N ce id ops ocs ds s sts s' a w hB hC hocs hds hok hsts hstab hs1 hst
  | seq x y _ _ =>
    intro cc s ex s' a w hB hrf hcomp h hst
    by_cases hbad : cc = .bad
    · subst hbad; rw [evCode] at h; cases h
    cases cc <;> (try exact absurd rfl hbad) <;> simp only [compC] at hcomp <;> try (cases hcomp; done)
    rename_i ca cb
    split at hcomp
    case h_2 => cases hcomp
    rename_i ca' cb' h1 h2
    cases hcomp
    rw [evCode] at h
    have hrfs : r = none ∨ noRf x = true ∧ noRf y = true := hrf.imp (fun h => h) (fun h => by simpa [noRf] using h)
    refine wpIn_seq ?_
    split at h
    · rename_i s1 hs1
      refine wpIn_mono (hS n (Nat.le_refl _) r N ce x ca s .normal s1 a w hB (hrfs.imp id And.left) h1 hs1 hst) fun e a w he => ?_
      obtain ⟨rfl, hst1⟩ := he
      exact hS n (Nat.le_refl _) r N ce y cb s1 ex s' a w hB (hrfs.imp id And.right) h2 h hst1
    · rename_i hne
      refine wpIn_mono (hS n (Nat.le_refl _) r N ce x ca s ex s' a w hB (hrfs.imp id And.left) h1 h hst) fun e a w he => ?_
      obtain ⟨rfl, hst1⟩ := he
      cases ex with
      | normal => exact absurd h (hne s')
      | exit id => exact ⟨rfl, hst1⟩
      | ret => exact ⟨rfl, hst1⟩
  | cond c x y _ _ =>
    intro cc s ex s' a w hB hrf hcomp h hst
    by_cases hbad : cc = .bad
    · subst hbad; rw [evCode] at h; cases h
    cases cc <;> (try exact absurd rfl hbad) <;> simp only [compC] at hcomp <;> try (cases hcomp; done)
    rename_i r ca cb
    split at hcomp
    case h_2 => cases hcomp
    rename_i ca' cb' h1 h2
    cases hcomp
    rw [evCode] at h
    have hrfs : r = none ∨ noRf x = true ∧ noRf y = true := hrf.imp (fun h => h) (fun h => by simpa [noRf] using h)
    have hst0 := hst
    obtain ⟨m, hle, hH, he, hmk⟩ := hst
    have hr := evR_rep he c
    split at h
    · rename_i hb
      rw [hb] at hr
      exact wpIn_cond_true hr.bool_inv (hS n (Nat.le_refl _) r N ce x ca s ex s' a w hB (hrfs.imp id And.left) h1 h hst0)
    · rename_i hb
      rw [hb] at hr
      exact wpIn_cond_false hr.bool_inv (hS n (Nat.le_refl _) r N ce y cb s ex s' a w hB (hrfs.imp id And.right) h2 h hst0)
    · cases h
  | block id x _ =>
    intro cc s ex s' a w hB hrf hcomp h hst
    by_cases hbad : cc = .bad
    · subst hbad; rw [evCode] at h; cases h
    cases cc <;> (try exact absurd rfl hbad) <;> simp only [compC] at hcomp <;> try (cases hcomp; done)
    rename_i id' b
    rw [Option.map_eq_some_iff] at hcomp
    obtain ⟨b', hb, he⟩ := hcomp
    cases he
    rw [evCode] at h
    refine wpIn_block ?_
    split at h
    · rename_i id' s1 hs1
      refine wpIn_mono (hS n (Nat.le_refl _) r N ce x b s (.exit id') s1 a w hB (hrf.imp (fun h => h) (fun h => by simpa [noRf] using h)) hb hs1 hst) fun e a w he => ?_
      obtain ⟨rfl, hst1⟩ := he
      simp only [toExit, Exit.inBlock]
      split at h
      · rename_i hid
        cases h
        rw [if_pos hid]; exact ⟨rfl, hst1⟩
      · rename_i hid
        cases h
        rw [if_neg hid]; exact ⟨rfl, hst1⟩
    · rename_i hne
      refine wpIn_mono (hS n (Nat.le_refl _) r N ce x b s ex s' a w hB (hrf.imp (fun h => h) (fun h => by simpa [noRf] using h)) hb h hst) fun e a w he => ?_
      obtain ⟨rfl, hst1⟩ := he
      cases ex with
      | normal => exact ⟨rfl, hst1⟩
      | exit id => exact absurd h (hne id s')
      | ret => exact ⟨rfl, hst1⟩
  | loop x _ =>
    intro cc s ex s' a w hB hrf hcomp h hst
    by_cases hbad : cc = .bad
    · subst hbad; rw [evCode] at h; cases h
    cases cc <;> (try exact absurd rfl hbad) <;> simp only [compC] at hcomp <;> try (cases hcomp; done)
    rename_i live b
    rw [Option.map_eq_some_iff] at hcomp
    obtain ⟨b', hb, he⟩ := hcomp
    cases he
    rw [evCode] at h
    exact wpIn_loop_rounds n (hL r N ce x live b s ex s' a w hB (hrf.imp (fun h => h) (fun h => by simpa [noRf] using h)) hb h hst)
  | rangeFunc f ps x y _ _ =>
    intro cc s ex s' a w hB hrf hcomp h hst
    by_cases hbad : cc = .bad
    · subst hbad; rw [evCode] at h; cases h
    cases cc <;> (try exact absurd rfl hbad) <;> simp only [compC] at hcomp <;> try (cases hcomp; done)
    rename_i live rr qs ca cb
    split at hcomp
    case isFalse => cases hcomp
    rename_i hrfc
    simp only [Bool.and_eq_true, beq_iff_eq] at hrfc
    split at hcomp
    case h_2 => cases hcomp
    rename_i ca' cb' h1 h2
    cases hcomp
    obtain rfl : r = none := hrf.resolve_right (by simp [noRf])
    exact hR n N ce f ps x y live ca cb s ex s' a w hB hS hrfc.1.1 hrfc.1.2 hrfc.2 h1 h2 h hst
  | exit id =>
    intro cc s ex s' a w hB hrf hcomp h hst
    by_cases hbad : cc = .bad
    · subst hbad; rw [evCode] at h; cases h
    cases cc <;> (try exact absurd rfl hbad) <;> simp only [compC] at hcomp <;> try (cases hcomp; done)
    cases hcomp
    rw [evCode] at h; cases h
    exact wpIn_exit ⟨rfl, hst⟩
  | goto l =>
    intro cc s ex s' a w hB hrf hcomp h hst
    by_cases hbad : cc = .bad
    · subst hbad; rw [evCode] at h; cases h
    cases cc <;> (try exact absurd rfl hbad) <;> simp only [compC] at hcomp <;> cases hcomp
  | ret =>
    intro cc s ex s' a w hB hrf hcomp h hst
    by_cases hbad : cc = .bad
    · subst hbad; rw [evCode] at h; cases h
    cases cc <;> (try exact absurd rfl hbad) <;> simp only [compC] at hcomp <;> try (cases hcomp; done)
    rw [evCode] at h; cases h
    exact wpIn_ret ⟨rfl, hst⟩
  | refuse why =>
    intro cc s ex s' a w hB hrf hcomp h hst
    by_cases hbad : cc = .bad
    · subst hbad; rw [evCode] at h; cases h
    cases cc <;> (try exact absurd rfl hbad) <;> simp only [compC] at hcomp <;> cases hcomp

/-- the evaluator is sound -/
theorem sound (hT : TOK P w0 T) (hD : DregS P w0 T) (hR : RfunS P w0 T) : ∀ n, CallS P w0 T n ∧ OpsS P w0 T n ∧ CodeS P w0 T n ∧ LoopS P w0 T n := by
  intro n
  induction n using Nat.strongRecOn with
  | _ n ih =>
    cases n with
    | zero =>
      refine ⟨fun c f args vals v H' clk' _ _ _ h => ?_, fun r N ce ops ocs i s s' a w Q _ _ h => ?_, fun r N ce code cc s ex s' a w _ _ _ h => ?_, fun r N ce code live b s ex s' a w _ _ _ h => ?_⟩
      · rw [evCall] at h; cases h
      · rw [evOps] at h; cases h
      · rw [evCode] at h; cases h
      · rw [evLoop] at h; cases h
    | succ n =>
      obtain ⟨h1, h2, h3, h4⟩ := ih n (Nat.lt_succ_self n)
      have hS : ∀ k, k ≤ n → CodeS P w0 T k := fun k hk => (ih k (by omega)).2.2.1
      exact ⟨callS_succ hT h3, opsS_succ h1 h2, codeS_succ hD hR (fun k hk => (ih k (by omega)).1) h2 hS h4, loopS_succ h3 h4⟩

end
end Go.Ev
end

section
/- Drawn regions: operands, values that no heap has part in, equal values, what stands ahead. -/
namespace Go.Ev

section
variable {P : Program}

theorem COp.map_congr {R S : Type} {g g' : R → S} (op : COp R) (h : ∀ x ∈ op.rs, g x = g' x) : op.map g = op.map g' := by
  cases op <;> simp only [COp.rs, List.mem_cons, List.not_mem_nil, or_false, forall_eq_or_imp, forall_eq, List.mem_append, Option.mem_toList, List.mem_map, List.append_assoc] at h <;> simp only [COp.map]
  case build z ps =>
    congr 1
    apply List.map_congr_left
    intro p hp
    rw [h p.2.2 ⟨p, hp, rfl⟩]
  case mkSl ty esz z l ps =>
    congr 1
    apply List.map_congr_left
    intro p hp
    rw [h p.2 ⟨p, hp, rfl⟩]
  case slice e x lo hi mx =>
    obtain ⟨h1, h2⟩ := h
    rw [h1]
    congr 1
    · cases lo with
      | none => rfl
      | some x => simp only [Option.map_some]; rw [h2 x (.inl rfl)]
    · cases hi with
      | none => rfl
      | some x => simp only [Option.map_some]; rw [h2 x (.inr (.inl rfl))]
    · cases mx with
      | none => rfl
      | some x => simp only [Option.map_some]; rw [h2 x (.inr (.inr rfl))]
  case sliceA n e x lo hi mx =>
    obtain ⟨h1, h2⟩ := h
    rw [h1]
    congr 1
    · cases lo with
      | none => rfl
      | some x => simp only [Option.map_some]; rw [h2 x (.inl rfl)]
    · cases hi with
      | none => rfl
      | some x => simp only [Option.map_some]; rw [h2 x (.inr (.inl rfl))]
    · cases mx with
      | none => rfl
      | some x => simp only [Option.map_some]; rw [h2 x (.inr (.inr rfl))]
  case call f args =>
    obtain ⟨h1, h2⟩ := h
    rw [h1]
    congr 1
    exact List.map_congr_left h2
  case mnx b xs => congr 1; exact List.map_congr_left h
  case mkFn f cs => congr 1; exact List.map_congr_left h
  all_goals first
    | rfl
    | (rw [h]; done)
    | (obtain ⟨h1, h2⟩ := h; rw [h1, h2]; done)
    | (obtain ⟨h1, h2, h3⟩ := h; rw [h1, h2, h3]; done)

/-- a value that no heap has part in -/
theorem free_evOp {op : COp AV} (hf : op.free = true) {H H2 : Heap} {clk clk2 : Nat} {v : AV} {H' : Heap} {clk' : Nat} (h : evOp op H clk = some (v, H', clk')) (hk : ∀ ty esz z l ps, op = .mkSl ty esz z l ps → ∃ es c, v = .sl es c) :
    evOp op H2 clk2 = some (v, H2, clk2) := by
  cases op <;> simp only [COp.free, Bool.false_eq_true] at hf <;> simp only [evOp] at h ⊢
  case mv x => cases h; rfl
  case pick c a b => split at h <;> first | (cases h; rfl) | cases h
  case build z ps =>
    rw [Option.bind_eq_some_iff] at h ⊢
    obtain ⟨cs, h1, h2⟩ := h
    cases h2; exact ⟨cs, h1, rfl⟩
  case mkSl ty esz z l ps =>
    obtain ⟨es', c', rfl⟩ := hk _ _ _ _ _ rfl
    split at h
    · rename_i hz
      rw [if_pos hz]
      rw [Option.bind_eq_some_iff] at h ⊢
      obtain ⟨es, h1, h2⟩ := h
      refine ⟨es, h1, ?_⟩
      split at h2
      · rename_i hc; rw [if_pos hc]; cases h2; rfl
      · cases h2
    · cases h
  case bin op x y =>
    rw [Option.bind_eq_some_iff] at h ⊢
    obtain ⟨r, h1, h2⟩ := h
    cases h2; exact ⟨_, h1, rfl⟩
  case un op x =>
    rw [Option.bind_eq_some_iff] at h ⊢
    obtain ⟨r, h1, h2⟩ := h
    cases h2; exact ⟨_, h1, rfl⟩
  case toInt k x => split at h <;> first | (cases h; rfl) | cases h
  case toStr sl x =>
    cases sl with
    | true => simp at hf
    | false => split at h <;> first | (cases h; rfl) | (simp at h)
  case toBytes x => split at h <;> first | (cases h; rfl) | cases h
  case fld off ag x =>
    rw [Option.bind_eq_some_iff] at h ⊢
    obtain ⟨r, h1, h2⟩ := h
    refine ⟨r, h1, ?_⟩
    split at h2 <;> first | (cases h2; rfl) | cases h2
  case idx arr esz ag x i =>
    split at h
    · cases h
    · rename_i i' hi
      split at h
      · split at h
        · rename_i hlt
          rw [if_pos hlt]
          rw [Option.bind_eq_some_iff] at h ⊢
          obtain ⟨r, h1, h2⟩ := h
          cases h2; exact ⟨_, h1, rfl⟩
        · cases h
      · split at h
        · rename_i c hc; cases h; rfl
        · cases h
      · cases h
  case ext x i =>
    split at h
    · split at h
      · cases h; rfl
      · cases h
    · cases h
  case mnx b xs =>
    rw [Option.bind_eq_some_iff] at h ⊢
    obtain ⟨r, h1, h2⟩ := h
    cases h2; exact ⟨_, h1, rfl⟩
  case mkIface t x => cases h; rfl
  case mkFn f cs => cases h; rfl

theorem cpEq_eq {a b : Cp} (h : cpEq a b = true) : a = b := by
  cases a <;> cases b <;> simp [cpEq] at h ⊢ <;> exact h

mutual
theorem avEq_eq : ∀ {a b : AV}, avEq a b = true → a = b
  | .int k a, b, h => by cases b <;> simp [avEq] at h; obtain ⟨rfl, rfl⟩ := h; rfl
  | .bool a, b, h => by cases b <;> simp [avEq] at h; subst h; rfl
  | .str a, b, h => by cases b <;> simp [avEq] at h; subst h; rfl
  | .nilp, b, h => by cases b <;> simp [avEq] at h; rfl
  | .ptr i ep k j, b, h => by cases b <;> simp [avEq] at h; obtain ⟨⟨⟨rfl, rfl⟩, rfl⟩, rfl⟩ := h; rfl
  | .iptr a, b, h => by cases b <;> simp [avEq] at h; rw [avEq_eq h]
  | .sl es c, b, h => by cases b <;> simp [avEq] at h; rw [avEqL_eq h.1, cpEq_eq h.2]
  | .msl i ep o n c, b, h => by cases b <;> simp [avEq] at h; obtain ⟨⟨⟨⟨rfl, rfl⟩, rfl⟩, rfl⟩, rfl⟩ := h; rfl
  | .agg cs, b, h => by cases b <;> simp [avEq] at h; rw [avEqL_eq h]
  | .tup cs, b, h => by cases b <;> simp [avEq] at h; rw [avEqL_eq h]
  | .fn f cs, b, h => by cases b <;> simp [avEq] at h; rw [h.1, avEqL_eq h.2]
  | .nilfn, b, h => by cases b <;> simp [avEq] at h; rfl
  | .ifc t a, b, h => by cases b <;> simp [avEq] at h; rw [h.1, avEq_eq h.2]
  | .nilif, b, h => by cases b <;> simp [avEq] at h; rfl
  | .nilmap, b, h => by cases b <;> simp [avEq] at h; rfl
  | .map i ep, b, h => by simp [avEq] at h
  | .junk, b, h => by simp [avEq] at h
theorem avEqL_eq : ∀ {as bs : List AV}, avEqL as bs = true → as = bs
  | [], bs, h => by cases bs <;> simp [avEqL] at h; rfl
  | a :: as, bs, h => by
    cases bs with
    | nil => simp [avEqL] at h
    | cons b bs =>
      simp [avEqL] at h
      rw [avEq_eq h.1, avEqL_eq h.2]
end

end
end Go.Ev
end

section
/- Drawn regions: what stands ahead; what the reckoned order did. -/
namespace Go.Ev

section
variable {P : Program} {T : Tbl}

theorem aheads_get (ops : Array Oper) (all : List Dc) : ∀ (rest : List Dc) (acc : List (List Nat)),
    (aheads ops all rest acc).length = acc.length + rest.length ∧ (aheads ops all rest acc).take acc.length = acc ∧
    ∀ (j : Nat) d, rest[j]? = some d → (aheads ops all rest acc)[acc.length + j]? = some ((direct ops all d).flatMap fun i => i :: ((aheads ops all rest acc).take (acc.length + j)).getD i [])
  | [], acc => by simp [aheads]
  | d :: rest, acc => by
    simp only [aheads]
    obtain ⟨h1, h2, h3⟩ := aheads_get ops all rest (acc ++ [(direct ops all d).flatMap fun i => i :: acc.getD i []])
    generalize aheads ops all rest (acc ++ [(direct ops all d).flatMap fun i => i :: acc.getD i []]) = pr at h1 h2 h3
    simp only [List.length_append, List.length_cons, List.length_nil, Nat.zero_add] at h1 h2 h3
    have htake : pr.take acc.length = acc := by
      have := congrArg (List.take acc.length) h2
      rw [List.take_take, Nat.min_eq_left (Nat.le_succ _), List.take_left] at this
      exact this
    refine ⟨by simp only [List.length_cons]; omega, htake, fun j d' hj => ?_⟩
    cases j with
    | zero =>
      simp at hj
      subst hj
      rw [Nat.add_zero, htake]
      have : (pr.take (acc.length + 1))[acc.length]? = some ((direct ops all d).flatMap fun i => i :: acc.getD i []) := by rw [h2]; simp
      rw [List.getElem?_take] at this
      simpa using this
    | succ j =>
      have := h3 j d' (by simpa using hj)
      rw [show acc.length + (j + 1) = acc.length + 1 + j by omega]
      exact this

/-- what is closed under 'waits for' is closed under 'stands ahead' -/
theorem aheads_closed {ops : Array Oper} {ds : List Dc} {L : Nat → Prop} (hL : ∀ (j : Nat) d, ds[j]? = some d → L j → ∀ i ∈ direct ops ds d, L i) :
    ∀ j, L j → ∀ i ∈ (aheads ops ds ds []).getD j [], L i := by
  obtain ⟨h1, _, h3⟩ := aheads_get ops ds ds []
  simp only [List.length_nil, Nat.zero_add] at h1 h3
  intro j
  induction j using Nat.strongRecOn with
  | _ j ih =>
    intro hj i hi
    by_cases hlt : j < ds.length
    · have hd := List.getElem?_eq_getElem hlt
      have := h3 j _ hd
      rw [List.getD, this, Option.getD_some, List.mem_flatMap] at hi
      obtain ⟨i0, h0, hm⟩ := hi
      have hL0 := hL j _ hd hj i0 h0
      rcases List.mem_cons.1 hm with rfl | hm
      · exact hL0
      · by_cases hi0 : i0 < j
        · have e : ((aheads ops ds ds []).take j).getD i0 [] = (aheads ops ds ds []).getD i0 [] := by
            simp only [List.getD, List.getElem?_take, hi0, if_true]
          rw [e] at hm
          exact ih i0 hi0 hL0 i hm
        · have e : ((aheads ops ds ds []).take j).getD i0 [] = [] := by
            simp only [List.getD, List.getElem?_take, hi0, if_false, Option.getD_none]
          rw [e] at hm; cases hm
    · rw [List.getD, List.getElem?_eq_none (by omega), Option.getD_none] at hi
      cases hi

/-- the snapshot ahead of a place: behind the last effect -/
def snapAt : List Dc → List St → Heap → Nat → Nat → Heap × Nat
  | d :: ds, _ :: s1 :: sts, H, clk, j + 1 => if d.kd = .e then snapAt ds (s1 :: sts) s1.H s1.clk j else snapAt ds (s1 :: sts) H clk j
  | _, _, H, clk, _ => (H, clk)

/-- one step in the reckoned order -/
def StepD (T : Tbl) (n : Nat) (d : Dc) (s : St) (m : Heap × Nat) (s1 : St) : Prop :=
  (goes s d.oc.guard = some false ∧ s1 = putSt s d.oc.dst .junk s.H s.clk) ∨
  (goes s d.oc.guard = some true ∧
    ((d.kd = .v ∧ ∃ v H' clk', evOp (d.oc.op.map (evR s.env)) m.1 m.2 = some (v, H', clk') ∧ keeps d.oc.op v = true ∧ s1 = putSt s d.oc.dst v s.H s.clk) ∨
     (d.kd = .a ∧ ∃ v H' clk', evOp (d.oc.op.map (evR s.env)) s.H s.clk = some (v, H', clk') ∧ s1 = putSt s d.oc.dst v H' clk') ∨
     (d.kd = .e ∧ ∃ v H' clk' k, k ≤ n ∧ stepOp T k d.oc s = some (v, H', clk') ∧ s1 = putSt s d.oc.dst v H' clk')))

theorem StepD.mono {n n' : Nat} {d : Dc} {s s1 : St} {m : Heap × Nat} (hn : n ≤ n') (h : StepD T n d s m s1) : StepD T n' d s m s1 := by
  rcases h with h | ⟨hg, h | h | ⟨hk, v, H', clk', k, h1, h2⟩⟩
  · exact .inl h
  · exact .inr ⟨hg, .inl h⟩
  · exact .inr ⟨hg, .inr (.inl h)⟩
  · exact .inr ⟨hg, .inr (.inr ⟨hk, v, H', clk', k, Nat.le_trans h1 hn, h2⟩)⟩

theorem evDreg_spec : ∀ (n : Nat) (ds : List Dc) (s : St) (H : Heap) (clk : Nat) (sts : List St), evDreg T n ds s H clk = some sts →
    sts.length = ds.length + 1 ∧ sts[0]? = some s ∧
    ∀ (j : Nat) d sj sj1, ds[j]? = some d → sts[j]? = some sj → sts[j + 1]? = some sj1 → StepD T n d sj (snapAt ds sts H clk j) sj1 := by
  intro n
  induction n with
  | zero => intro ds s H clk sts h; rw [evDreg] at h; cases h
  | succ n ih =>
    intro ds s H clk sts h
    cases ds with
    | nil =>
      rw [evDreg] at h
      cases h
      exact ⟨rfl, rfl, by simp⟩
    | cons d ds =>
      -- a step, and the rest
      have key : ∀ (s1 : St) (H1 : Heap) (clk1 : Nat) (rest : List St), evDreg T n ds s1 H1 clk1 = some rest → sts = s :: rest → StepD T (n + 1) d s (H, clk) s1 →
          (if d.kd = .e then H1 = s1.H ∧ clk1 = s1.clk else H1 = H ∧ clk1 = clk) →
          sts.length = (d :: ds).length + 1 ∧ sts[0]? = some s ∧ ∀ (j : Nat) d' sj sj1, (d :: ds)[j]? = some d' → sts[j]? = some sj → sts[j + 1]? = some sj1 → StepD T (n + 1) d' sj (snapAt (d :: ds) sts H clk j) sj1 := by
        rintro s1 H1 clk1 rest hrest rfl hstep hH1
        obtain ⟨g1, g2, g3⟩ := ih ds s1 H1 clk1 rest hrest
        obtain ⟨r0, rs, rfl⟩ : ∃ r0 rs, rest = r0 :: rs := by
          cases rest with
          | nil => simp at g2
          | cons r0 rs => exact ⟨r0, rs, rfl⟩
        simp at g2
        subst g2
        refine ⟨by simp [g1], rfl, fun j d' sj sj1 hj h0 h1 => ?_⟩
        cases j with
        | zero =>
          simp at hj h0 h1
          subst hj; subst h0; subst h1
          exact hstep
        | succ j =>
          have := g3 j d' sj sj1 (by simpa using hj) (by simpa using h0) (by simpa using h1)
          simp only [snapAt]
          split
          · rename_i he
            rw [if_pos he] at hH1
            obtain ⟨rfl, rfl⟩ := hH1
            exact this.mono (Nat.le_succ _)
          · rename_i he
            rw [if_neg he] at hH1
            obtain ⟨rfl, rfl⟩ := hH1
            exact this.mono (Nat.le_succ _)
      rw [evDreg] at h
      split at h
      · cases h
      · rename_i hg
        rw [Option.map_eq_some_iff] at h
        obtain ⟨rest, hr, rfl⟩ := h
        cases hk : d.kd with
        | e =>
          rw [hk] at hr
          exact key _ _ _ rest hr rfl (.inl ⟨hg, rfl⟩) (by rw [if_pos hk]; exact ⟨rfl, rfl⟩)
        | v =>
          rw [hk] at hr
          exact key _ _ _ rest hr rfl (.inl ⟨hg, rfl⟩) (by rw [if_neg (by rw [hk]; simp)]; exact ⟨rfl, rfl⟩)
        | a =>
          rw [hk] at hr
          exact key _ _ _ rest hr rfl (.inl ⟨hg, rfl⟩) (by rw [if_neg (by rw [hk]; simp)]; exact ⟨rfl, rfl⟩)
      · rename_i hg
        split at h
        · rename_i hk
          split at h
          case h_2 => cases h
          rename_i v H' clk' hv
          split at h
          case isFalse => cases h
          rename_i hkeep
          rw [Option.map_eq_some_iff] at h
          obtain ⟨rest, hr, rfl⟩ := h
          exact key _ _ _ rest hr rfl (.inr ⟨hg, .inl ⟨hk, v, H', clk', hv, hkeep, rfl⟩⟩) (by rw [if_neg (by rw [hk]; simp)]; exact ⟨rfl, rfl⟩)
        · rename_i hk
          split at h
          case h_2 => cases h
          rename_i v H' clk' hv
          rw [Option.map_eq_some_iff] at h
          obtain ⟨rest, hr, rfl⟩ := h
          exact key _ _ _ rest hr rfl (.inr ⟨hg, .inr (.inl ⟨hk, v, H', clk', hv, rfl⟩)⟩) (by rw [if_neg (by rw [hk]; simp)]; exact ⟨rfl, rfl⟩)
        · rename_i hk
          have fin : ∀ v H' clk', stepOp T n d.oc s = some (v, H', clk') → (evDreg T n ds (putSt s d.oc.dst v H' clk') H' clk').map (s :: ·) = some sts →
              sts.length = (d :: ds).length + 1 ∧ sts[0]? = some s ∧ ∀ (j : Nat) d' sj sj1, (d :: ds)[j]? = some d' → sts[j]? = some sj → sts[j + 1]? = some sj1 → StepD T (n + 1) d' sj (snapAt (d :: ds) sts H clk j) sj1 := by
            intro v H' clk' hv h
            rw [Option.map_eq_some_iff] at h
            obtain ⟨rest, hr, rfl⟩ := h
            exact key _ _ _ rest hr rfl (.inr ⟨hg, .inr (.inr ⟨hk, v, H', clk', n, Nat.le_succ _, hv, rfl⟩)⟩) (by rw [if_pos hk]; exact ⟨rfl, rfl⟩)
          split at h
          · rename_i f args hc
            split at h
            · rename_i fi caps hfi
              split at h
              · rename_i v H' clk' hv
                exact fin v H' clk' (by simp only [stepOp, hc, hfi]; exact hv) h
              · cases h
            · cases h
          · rename_i hne
            split at h
            · rename_i v H' clk' hv
              refine fin v H' clk' ?_ h
              unfold stepOp
              split
              · rename_i f args hc; exact absurd hc (hne f args)
              · exact hv
            · cases h

end
end Go.Ev
end

section
/- A block reserved for an object to come; the object adopted. -/
namespace Go.Ev

section
variable {P : Program} {c : Cx}

/-- a new block that no object has yet -/
theorem Cx.le.reserve (hH : HR P c) (o : Obj) : c.le ⟨c.H, c.m, c.clk, c.w.alloc o, fun y => c.x y ∨ y = c.w.heap.size⟩ ∧ HR P ⟨c.H, c.m, c.clk, c.w.alloc o, fun y => c.x y ∨ y = c.w.heap.size⟩ := by
  have hsz : (c.w.alloc o).heap.size = c.w.heap.size + 1 := by show (c.w.heap.push o).size = _; simp
  have hb : ∀ b, b < c.w.heap.size → (c.w.alloc o).heap[b]? = c.w.heap[b]? := fun b hb => by show (c.w.heap.push o)[b]? = _; simp [Array.getElem?_push, Nat.ne_of_lt hb]
  have hle : c.le ⟨c.H, c.m, c.clk, c.w.alloc o, fun y => c.x y ∨ y = c.w.heap.size⟩ := by
    refine ⟨by show _ ≤ (c.w.alloc o).heap.size; omega, fun b h1 _ _ => hb b h1, fun b h => .inl h, Nat.le_refl _, fun i ep r _ h => ⟨h, rfl, ?_⟩, fun y hy => hy.imp id (fun e => by omega), rfl, rfl, rfl⟩
    obtain ⟨r', hi, _, _⟩ := sig_some h
    simp only [bsize]
    rw [hb _ (hH.blt hi)]
  refine ⟨hle, ⟨hH.inj, ?_, hH.nomap, fun y hy => ?_⟩⟩
  · intro i r hi
    have hv := hH.var i r hi
    obtain ⟨arr, fz, h1, h2, h3, h4⟩ := hv.cells
    refine ⟨hv.ep, ⟨arr, fz, by show (c.w.alloc o).heap[c.m i]? = _; rw [hb _ (hH.blt hi)]; exact h1, h2, h3, fun k e j a hk hj => let ⟨v, g1, g2⟩ := h4 k e j a hk hj; ⟨v, g1, g2.mono hle⟩⟩, hv.frz, fun hx => ?_, hv.sz, hv.cl⟩
    rcases hx with hx | hx
    · exact hv.x hx
    · have := hH.blt hi
      simp only [] at hx
      omega
  · show y < (c.w.alloc o).heap.size
    rw [hsz]
    rcases hy with hy | hy
    · have := hH.x y hy; omega
    · omega

/-- a reserved block becomes an object's -/
theorem Cx.le.adopt (hH : HR P c) {b : Nat} {ty esz : Nat} {es : List AV} {arr : Array Value} (hx : c.x b) (hb : c.w.heap[b]? = some (.cells arr ty (0, 0))) (hz : okEls esz es = true) (hc : CellsOK P c esz es arr) :
    let c' : Cx := ⟨c.H ++ [.var ⟨true, ty, esz, es, false, c.clk, 0⟩], upd c.m c.H.length b, c.clk + 1, c.w, fun y => c.x y ∧ y ≠ b⟩
    c.le c' ∧ HR P c' ∧ sig c'.H c.H.length c.clk = some (esz, es.length) ∧ c'.m c.H.length = b := by
  intro c'
  have hold : ∀ i, i < c.H.length → c'.H[i]? = c.H[i]? := fun i h => List.getElem?_append_left h
  have hnew : c'.H[c.H.length]? = some (.var ⟨true, ty, esz, es, false, c.clk, 0⟩) := by simp [c']
  have hm : ∀ i, i < c.H.length → c'.m i = c.m i := fun i h => by simp [c', upd, Nat.ne_of_lt h]
  have hmn : c'.m c.H.length = b := by simp [c', upd]
  have hidx : ∀ (i : Nat) o, c'.H[i]? = some o → i < c.H.length ∨ i = c.H.length := by
    intro i o h
    have := (List.getElem?_eq_some_iff.1 h).1
    simp [c'] at this; omega
  have hown : ∀ y, c'.Own y → c.Own y ∨ y = b := by
    rintro y ⟨i, o, hi, ho, rfl⟩
    rcases hidx i o hi with h | rfl
    · rw [hold i h] at hi; rw [hm i h]; exact .inl ⟨i, o, hi, ho, rfl⟩
    · exact .inr hmn
  have hnb : ∀ (i : Nat) r, c.H[i]? = some (.var r) → c.m i ≠ b := fun i r hi e => (hH.var i r hi).x (e ▸ hx)
  have hle : c.le c' := by
    refine ⟨Nat.le_refl _, fun _ _ _ _ => rfl, fun y h => (hown y h).imp id (fun e => .inr ⟨by rw [e]; exact hx, fun h => h.2 e⟩), Nat.le_succ _, ?_, fun y h => .inl h.1, rfl, rfl, rfl⟩
    intro i ep r he hsg
    obtain ⟨r', hi, he', _⟩ := sig_some hsg
    rcases hidx i _ hi with h | rfl
    · rw [sig_append_lt h] at hsg
      exact ⟨hsg, hm i h, rfl⟩
    · rw [hnew] at hi; cases hi; simp at he'; omega
  refine ⟨hle, ⟨?_, ?_, ?_, fun y h => hH.x y h.1⟩, ?_, hmn⟩
  · have hne : ∀ (i : Nat) o, c.H[i]? = some o → o.owns = true → c.m i ≠ b := by
      intro i o hi ho
      cases o with
      | dead => cases ho
      | mp es ep ver => exact absurd hi (hH.nomap i _ _ _)
      | var r => exact hnb i r hi
    intro i j o o' hi hj ho ho' hmm
    rcases hidx i o hi with h | rfl <;> rcases hidx j o' hj with h' | rfl
    · rw [hold i h] at hi; rw [hold j h'] at hj; rw [hm i h, hm j h'] at hmm
      exact hH.inj i j o o' hi hj ho ho' hmm
    · rw [hold i h] at hi; rw [hm i h, hmn] at hmm
      exact absurd hmm (hne i o hi ho)
    · rw [hold j h'] at hj; rw [hm j h', hmn] at hmm
      exact absurd hmm.symm (hne j o' hj ho')
    · rfl
  · intro i r hi
    rcases hidx i _ hi with h | rfl
    · rw [hold i h] at hi; rw [hm i h]
      have hv := hH.var i _ hi
      refine ⟨Nat.lt_succ_of_lt hv.ep, ?_, fun hf ho => ?_, fun h => hv.x h.1, hv.sz, hv.cl⟩
      · obtain ⟨arr', fz, h1, h2, h3, h4⟩ := hv.cells
        exact ⟨arr', fz, h1, h2, h3, fun k e j a hk hj => let ⟨v, hv1, hv2⟩ := h4 k e j a hk hj; ⟨v, hv1, hv2.mono hle⟩⟩
      · rcases hown _ ho with h' | h'
        · exact hv.frz hf h'
        · exact hnb i r hi h'
    · rw [hnew] at hi; cases hi
      rw [hmn]
      exact ⟨Nat.lt_succ_self _, ⟨arr, (0, 0), hb, fun _ => rfl, hc.1, fun k e j a hk hj => let ⟨v, hv1, hv2⟩ := hc.2 k e j a hk hj; ⟨v, hv1, hv2.mono hle⟩⟩, fun h => (by cases h), fun h => h.2 rfl, hz, fun h => (by cases h)⟩
  · intro i es' ep ver hi
    rcases hidx i _ hi with h | rfl
    · rw [hold i h] at hi; exact hH.nomap i _ _ _ hi
    · rw [hnew] at hi; cases hi
  · rw [sig_var hnew]; simp

end
end Go.Ev
end

section
/- Drawn regions: temporaries and snapshots along the reckoned order. -/
namespace Go.Ev

section
variable {P : Program} {T : Tbl}

theorem StepD.env {n : Nat} {d : Dc} {s s1 : St} {m : Heap × Nat} (h : StepD T n d s m s1) {t : Nat} (ht : d.oc.dst ≠ some t) : s1.env[t]? = s.env[t]? := by
  have put : ∀ v H clk, (putSt s d.oc.dst v H clk).env[t]? = s.env[t]? := by
    intro v H clk
    simp only [putSt]
    cases hd : d.oc.dst with
    | none => rfl
    | some t' =>
      have hne : t' ≠ t := fun e => ht (by rw [hd, e])
      simp [hne]
  rcases h with ⟨_, rfl⟩ | ⟨_, ⟨_, v, H', clk', _, _, rfl⟩ | ⟨_, v, H', clk', _, rfl⟩ | ⟨_, v, H', clk', k, _, _, rfl⟩⟩ <;> exact put _ _ _

theorem StepD.len {n : Nat} {d : Dc} {s s1 : St} {m : Heap × Nat} (h : StepD T n d s m s1) : s1.env.length = s.env.length := by
  have put : ∀ v H clk, (putSt s d.oc.dst v H clk).env.length = s.env.length := by
    intro v H clk
    simp only [putSt]
    cases d.oc.dst <;> simp
  rcases h with ⟨_, rfl⟩ | ⟨_, ⟨_, v, H', clk', _, _, rfl⟩ | ⟨_, v, H', clk', _, rfl⟩ | ⟨_, v, H', clk', k, _, _, rfl⟩⟩ <;> exact put _ _ _

/-- a value's and an alloc's step leave the last snapshot; a value's step leaves the heap -/
theorem StepD.heap {n : Nat} {d : Dc} {s s1 : St} {m : Heap × Nat} (h : StepD T n d s m s1) (hk : d.kd = .v) : s1.H = s.H ∧ s1.clk = s.clk := by
  rcases h with ⟨_, rfl⟩ | ⟨_, ⟨_, v, H', clk', _, _, rfl⟩ | ⟨h, _⟩ | ⟨h, _⟩⟩
  · exact ⟨rfl, rfl⟩
  · exact ⟨rfl, rfl⟩
  · rw [hk] at h; cases h
  · rw [hk] at h; cases h

/-- the reckoned run: its states -/
structure RunD (T : Tbl) (n : Nat) (ds : List Dc) (s : St) (sts : List St) : Prop where
  len : sts.length = ds.length + 1
  head : sts[0]? = some s
  step : ∀ (j : Nat) d sj sj1, ds[j]? = some d → sts[j]? = some sj → sts[j + 1]? = some sj1 → StepD T n d sj (snapAt ds sts s.H s.clk j) sj1

theorem RunD.of {n : Nat} {ds : List Dc} {s : St} {sts : List St} (h : evDreg T n ds s s.H s.clk = some sts) : RunD T n ds s sts :=
  let ⟨h1, h2, h3⟩ := evDreg_spec n ds s s.H s.clk sts h; ⟨h1, h2, h3⟩

theorem RunD.get {n : Nat} {ds : List Dc} {s : St} {sts : List St} (h : RunD T n ds s sts) {j : Nat} (hj : j ≤ ds.length) : ∃ sj, sts[j]? = some sj :=
  ⟨_, List.getElem?_eq_getElem (by rw [h.len]; omega)⟩

theorem RunD.env {n : Nat} {ds : List Dc} {s : St} {sts : List St} (h : RunD T n ds s sts) {t i : Nat} {si : St} (hi : sts[i]? = some si) : ∀ (k : Nat) (sj : St), sts[i + k]? = some sj →
    (∀ q d, i ≤ q → q < i + k → ds[q]? = some d → d.oc.dst ≠ some t) → sj.env[t]? = si.env[t]?
  | 0, sj, hj, _ => by rw [Nat.add_zero, hi] at hj; cases hj; rfl
  | k + 1, sj, hj, hne => by
    have hlt : i + (k + 1) < sts.length := (List.getElem?_eq_some_iff.1 hj).1
    have hd := List.getElem?_eq_getElem (l := ds) (i := i + k) (by rw [h.len] at hlt; omega)
    have hm := List.getElem?_eq_getElem (l := sts) (i := i + k) (by omega)
    have hs := h.step (i + k) _ _ sj hd hm (by rw [← hj]; rfl)
    rw [hs.env (hne (i + k) _ (by omega) (by omega) hd)]
    exact RunD.env h hi k _ hm (fun q d h1 h2 h3 => hne q d h1 (by omega) h3)

theorem RunD.envlen {n : Nat} {ds : List Dc} {s : St} {sts : List St} (h : RunD T n ds s sts) : ∀ (j : Nat) (sj : St), sts[j]? = some sj → sj.env.length = s.env.length
  | 0, sj, hj => by rw [h.head] at hj; cases hj; rfl
  | j + 1, sj, hj => by
    have hlt : j + 1 < sts.length := (List.getElem?_eq_some_iff.1 hj).1
    have hd := List.getElem?_eq_getElem (l := ds) (i := j) (by rw [h.len] at hlt; omega)
    have hm := List.getElem?_eq_getElem (l := sts) (i := j) (by omega)
    rw [(h.step j _ _ sj hd hm hj).len]
    exact RunD.envlen h j _ hm

/-- the snapshot is the last effect's state: where no effect stands between -/
theorem snapAt_zero (ds : List Dc) (sts : List St) (H : Heap) (clk : Nat) : snapAt ds sts H clk 0 = (H, clk) := by
  unfold snapAt
  split
  · rename_i h; cases h
  · rfl

theorem snapAt_succ : ∀ (ds : List Dc) (sts : List St) (H : Heap) (clk : Nat) (j : Nat) (d : Dc) (s1 : St), sts.length = ds.length + 1 → ds[j]? = some d → sts[j + 1]? = some s1 →
    snapAt ds sts H clk (j + 1) = if d.kd = .e then (s1.H, s1.clk) else snapAt ds sts H clk j
  | [], _, _, _, _, _, _, _, hd, _ => by simp at hd
  | d0 :: ds, [], _, _, _, _, _, hl, _, _ => by simp at hl
  | d0 :: ds, [x], _, _, _, _, _, hl, _, _ => by simp at hl
  | d0 :: ds, s0 :: s1' :: sts, H, clk, 0, d, s1, hl, hd, hs => by
    simp at hd hs
    subst hd; subst hs
    simp only [snapAt, snapAt_zero]
  | d0 :: ds, s0 :: s1' :: sts, H, clk, j + 1, d, s1, hl, hd, hs => by
    have ih : ∀ H clk, snapAt ds (s1' :: sts) H clk (j + 1) = if d.kd = .e then (s1.H, s1.clk) else snapAt ds (s1' :: sts) H clk j :=
      fun H clk => snapAt_succ ds (s1' :: sts) H clk j d s1 (by simpa using hl) (by simpa using hd) (by simpa using hs)
    have e1 : snapAt (d0 :: ds) (s0 :: s1' :: sts) H clk (j + 1 + 1) = if d0.kd = .e then snapAt ds (s1' :: sts) s1'.H s1'.clk (j + 1) else snapAt ds (s1' :: sts) H clk (j + 1) := rfl
    have e2 : snapAt (d0 :: ds) (s0 :: s1' :: sts) H clk (j + 1) = if d0.kd = .e then snapAt ds (s1' :: sts) s1'.H s1'.clk j else snapAt ds (s1' :: sts) H clk j := rfl
    rw [e1, e2, ih, ih]
    split <;> split <;> rfl

/-- no effect between two places: one snapshot -/
theorem RunD.snap_same {n : Nat} {ds : List Dc} {s : St} {sts : List St} (h : RunD T n ds s sts) {i : Nat} : ∀ (k : Nat), i + k ≤ ds.length → (∀ q d, i ≤ q → q < i + k → ds[q]? = some d → d.kd ≠ .e) →
    snapAt ds sts s.H s.clk (i + k) = snapAt ds sts s.H s.clk i
  | 0, _, _ => rfl
  | k + 1, hl, hne => by
    have hd := List.getElem?_eq_getElem (l := ds) (i := i + k) (by omega)
    have hs := List.getElem?_eq_getElem (l := sts) (i := i + k + 1) (by rw [h.len]; omega)
    rw [show i + (k + 1) = i + k + 1 by omega, snapAt_succ ds sts s.H s.clk (i + k) _ _ h.len hd hs, if_neg (hne (i + k) _ (by omega) (by omega) hd)]
    exact RunD.snap_same h k (by omega) (fun q d h1 h2 h3 => hne q d h1 (by omega) h3)

/-- behind an effect, and at the start, the snapshot is the state -/
theorem RunD.snap_at {n : Nat} {ds : List Dc} {s : St} {sts : List St} (h : RunD T n ds s sts) {p : Nat} {sp : St} (hp : p = 0 ∨ ∃ d, ds[p - 1]? = some d ∧ d.kd = .e ∧ 0 < p) (hs : sts[p]? = some sp) :
    snapAt ds sts s.H s.clk p = (sp.H, sp.clk) := by
  rcases hp with rfl | ⟨d, hd, hk, h0⟩
  · rw [h.head] at hs; cases hs; exact snapAt_zero _ _ _ _
  · obtain ⟨q, rfl⟩ : ∃ q, p = q + 1 := ⟨p - 1, by omega⟩
    rw [snapAt_succ ds sts s.H s.clk q d sp h.len (by simpa using hd) hs, if_pos hk]

end
end Go.Ev
end

section
/- Drawn regions: counts of effects; values that are the same at every snapshot of their window. -/
namespace Go.Ev

section

theorem cntE_zero (ds : List Dc) : cntE ds 0 = 0 := by cases ds <;> rfl

theorem cntE_succ : ∀ (ds : List Dc) (j : Nat) (d : Dc), ds[j]? = some d → cntE ds (j + 1) = cntE ds j + (if d.kd = .e then 1 else 0)
  | [], _, _, h => by simp at h
  | d0 :: ds, 0, d, h => by
    simp at h; subst h
    simp [cntE, cntE_zero]
  | d0 :: ds, j + 1, d, h => by
    have e : cntE (d0 :: ds) (j + 1 + 1) = (if d0.kd = .e then 1 else 0) + cntE ds (j + 1) := rfl
    have e2 : cntE (d0 :: ds) (j + 1) = (if d0.kd = .e then 1 else 0) + cntE ds j := rfl
    rw [e, e2, cntE_succ ds j d (by simpa using h)]
    omega

theorem snaps_get : ∀ (ds : List Dc) (sts : List St) (p : Nat) (d : Dc) (s : St), sts.length = ds.length + 1 → ds[p]? = some d → d.kd = .e → sts[p + 1]? = some s → (snaps ds sts)[cntE ds p]? = some s
  | [], _, _, _, _, _, h, _, _ => by simp at h
  | d0 :: ds, [], _, _, _, hl, _, _, _ => by simp at hl
  | d0 :: ds, [x], _, _, _, hl, _, _, _ => by simp at hl
  | d0 :: ds, s0 :: s1 :: sts, 0, d, s, hl, hd, hk, hs => by
    simp at hd hs
    subst hd; subst hs
    simp [snaps, hk, cntE_zero]
  | d0 :: ds, s0 :: s1 :: sts, p + 1, d, s, hl, hd, hk, hs => by
    have ih := snaps_get ds (s1 :: sts) p d s (by simpa using hl) (by simpa using hd) hk (by simpa using hs)
    have e2 : cntE (d0 :: ds) (p + 1) = (if d0.kd = .e then 1 else 0) + cntE ds p := rfl
    simp only [snaps, e2]
    by_cases h : d0.kd = .e
    · simp only [h, if_true]
      rw [Nat.add_comm, List.getElem?_cons_succ]; exact ih
    · simp only [h, if_false, Nat.zero_add]; exact ih

theorem snaps_at {ds : List Dc} {sts : List St} (hl : sts.length = ds.length + 1) {p : Nat} {sp : St} (hp : p = 0 ∨ ∃ d, ds[p - 1]? = some d ∧ d.kd = .e ∧ 0 < p) (hs : sts[p]? = some sp) :
    (sts.take 1 ++ snaps ds sts)[cntE ds p]? = some sp := by
  obtain ⟨s0, rest, rfl⟩ : ∃ s0 rest, sts = s0 :: rest := by
    cases sts with
    | nil => simp at hl
    | cons a b => exact ⟨a, b, rfl⟩
  rcases hp with rfl | ⟨d, hd, hk, h0⟩
  · simp at hs; subst hs
    simp [cntE_zero]
  · obtain ⟨q, rfl⟩ : ∃ q, p = q + 1 := ⟨p - 1, by omega⟩
    have hd' : ds[q]? = some d := by simpa using hd
    rw [cntE_succ ds q d hd', if_pos hk]
    have := snaps_get ds (s0 :: rest) q d sp hl hd' hk hs
    simpa using this

theorem stableGo_at (sn : List St) : ∀ (ds : List Dc) (sts : List St), stableGo sn ds sts = true → ∀ (j : Nat) (d : Dc) (s s' : St), ds[j]? = some d → sts[j]? = some s → sts[j + 1]? = some s' →
    d.kd = .v → d.lo ≠ d.hi → d.oc.op.free = false → goes s d.oc.guard = some true →
    ∃ t, d.oc.dst = some t ∧ ((sn.drop d.lo).take (d.hi + 1 - d.lo)).all (sameAt (d.oc.op.map (evR s.env)) (s'.env.getD t .junk)) = true
  | [], _, _, _, _, _, _, h, _, _, _, _, _, _ => by simp at h
  | d0 :: ds, [], _, _, _, _, _, _, hs, _, _, _, _, _ => by simp at hs
  | d0 :: ds, [x], _, j, _, _, _, _, _, hs', _, _, _, _ => by simp at hs'
  | d0 :: ds, s0 :: s1 :: sts, h, j, d, s, s', hd, hs, hs', hk, hw, hf, hg => by
    simp only [stableGo, Bool.and_eq_true] at h
    obtain ⟨h1, h2⟩ := h
    cases j with
    | zero =>
      simp at hd hs hs'
      subst hd; subst hs; subst hs'
      rw [if_pos ⟨hk, hw, hf⟩, hg] at h1
      cases ht : d0.oc.dst with
      | none => simp [ht] at h1
      | some t => rw [ht] at h1; exact ⟨t, rfl, h1⟩
    | succ j => exact stableGo_at sn ds (s1 :: sts) h2 j d s s' (by simpa using hd) (by simpa using hs) (by simpa using hs') hk hw hf hg

/-- a value operation of a window has its value at every snapshot of it -/
theorem stable_at {ds : List Dc} {sts : List St} (hl : sts.length = ds.length + 1) (h : stable ds sts = true) {j : Nat} {d : Dc} {s s' : St} (hd : ds[j]? = some d) (hs : sts[j]? = some s) (hs' : sts[j + 1]? = some s')
    (hk : d.kd = .v) (hw : d.lo ≠ d.hi) (hf : d.oc.op.free = false) (hg : goes s d.oc.guard = some true) {p : Nat} {sp : St} (hp : p = 0 ∨ ∃ d, ds[p - 1]? = some d ∧ d.kd = .e ∧ 0 < p) (hsp : sts[p]? = some sp)
    (h1 : d.lo ≤ cntE ds p) (h2 : cntE ds p ≤ d.hi) : ∃ t v H' clk', d.oc.dst = some t ∧ evOp (d.oc.op.map (evR s.env)) sp.H sp.clk = some (v, H', clk') ∧ s'.env.getD t .junk = v ∧ avEq (s'.env.getD t .junk) v = true := by
  unfold stable at h
  split at h
  · rename_i hall
    rw [List.all_eq_true] at hall
    have := hall d (List.mem_of_getElem? hd)
    simp [hk, hw, hf] at this
  · obtain ⟨t, ht, hall⟩ := stableGo_at _ ds sts h j d s s' hd hs hs' hk hw hf hg
    rw [List.all_eq_true] at hall
    have hsn := snaps_at hl hp hsp
    have hmem : sp ∈ ((sts.take 1 ++ snaps ds sts).drop d.lo).take (d.hi + 1 - d.lo) := by
      apply List.mem_of_getElem? (i := cntE ds p - d.lo)
      rw [List.getElem?_take, if_pos (by omega), List.getElem?_drop, show d.lo + (cntE ds p - d.lo) = cntE ds p by omega]
      exact hsn
    have hsame := hall sp hmem
    unfold sameAt at hsame
    split at hsame
    · rename_i v' H' clk' he
      exact ⟨t, v', H', clk', ht, he, avEq_eq hsame, hsame⟩
    · cases hsame

end
end Go.Ev
end

section
/- Drawn regions: a value operation leaves the heap. -/
namespace Go.Ev

section

theorem keeps_heap {op : COp Ref} {g : Ref → AV} {H : Heap} {clk : Nat} {v : AV} {H' : Heap} {clk' : Nat} (h : evOp (op.map g) H clk = some (v, H', clk')) (hk : keeps op v = true) : H' = H ∧ clk' = clk := by
  cases op <;> simp only [keeps, COp.isV, Bool.false_eq_true] at hk <;> simp only [COp.map, evOp] at h
  case mkSl ty esz z l ps =>
    split at h
    · rw [Option.bind_eq_some_iff] at h
      obtain ⟨es, _, h⟩ := h
      split at h
      · cases h; exact ⟨rfl, rfl⟩
      · cases h
        simp at hk
    · cases h
  all_goals
    repeat' split at h
    all_goals first
      | (cases h; done)
      | (cases h; exact ⟨rfl, rfl⟩)
      | (simp only [Option.bind_eq_some_iff, Option.some.injEq, Prod.mk.injEq] at h; obtain ⟨_, _, h⟩ := h; exact ⟨h.2.1.symm, h.2.2.symm⟩)
      | (rw [Option.bind_eq_some_iff] at h; obtain ⟨_, _, h⟩ := h; first | (cases h; exact ⟨rfl, rfl⟩) | (cases h; done) | (split at h <;> first | (cases h; exact ⟨rfl, rfl⟩) | cases h))

end
end Go.Ev
end

section
/- Drawn regions: what the static look says. -/
namespace Go.Ev

section
variable {P : Program}

structure Look (ops : Array Oper) (ds : List Dc) : Prop where
  len : ds.length = ops.size
  nodup : (ds.map (·.ix)).Nodup
  ix : ∀ (j : Nat) d, ds[j]? = some d → d.ix < ops.size
  kind : ∀ (j : Nat) d, ds[j]? = some d → okKind d = true
  direct : ∀ (j : Nat) d, ds[j]? = some d → ∀ i ∈ direct ops ds d, i < j
  pair : ∀ (i j : Nat) x y, i < j → ds[i]? = some x → ds[j]? = some y → okPair (aheads ops ds ds []) i j x y = true
  win : ∀ (j : Nat) d, ds[j]? = some d → d.kd = .v → okWin ds (aheads ops ds ds []) j d = true

theorem zipIdx_all {α : Type} {l : List α} {f : α × Nat → Bool} (h : l.zipIdx.all f = true) {j : Nat} {x : α} (hx : l[j]? = some x) : f (x, j) = true := by
  rw [List.all_eq_true] at h
  apply h
  apply List.mem_of_getElem? (i := j)
  rw [List.getElem?_zipIdx, hx]; simp

theorem Look.of {ops : Array Oper} {ds : List Dc} (h : okD ops ds = true) : Look ops ds := by
  simp only [okD, Bool.and_eq_true, decide_eq_true_eq] at h
  obtain ⟨⟨⟨⟨⟨⟨h1, h2⟩, h3⟩, h4⟩, h5⟩, h6⟩, h7⟩ := h
  refine ⟨h1, h2, fun j d hd => ?_, fun j d hd => ?_, fun j d hd i hi => ?_, fun i j x y hij hx hy => ?_, fun j d hd hk => ?_⟩
  · rw [List.all_eq_true] at h3
    simpa using h3 d (List.mem_of_getElem? hd)
  · rw [List.all_eq_true] at h4
    exact h4 d (List.mem_of_getElem? hd)
  · have := zipIdx_all h5 hd
    simp only [List.all_eq_true, decide_eq_true_eq] at this
    exact this i hi
  · have := zipIdx_all h6 hy
    simp only [List.all_eq_true] at this
    have hm : (x, i) ∈ ds.zipIdx.take j := by
      apply List.mem_of_getElem? (i := i)
      rw [List.getElem?_take, if_pos hij, List.getElem?_zipIdx, hx]; simp
    exact this (x, i) hm
  · have := zipIdx_all h7 hd
    simpa [hk] using this

theorem dc_oper {ops : Array Oper} {ocs : List Oc} {ds : List Dc} (hcomp : compOpers P ops = some ocs) (hds : ds.mapM (fun d => (ocs[d.ix]?).map fun oc => { d with oc := oc }) = some ds) {j : Nat} {d : Dc} (hd : ds[j]? = some d) :
    ∃ o, ops[d.ix]? = some o ∧ compOper P ops o = some d.oc := by
  obtain ⟨d0, hd0, hf⟩ := mapM_some' hds hd
  rw [hd] at hd0; cases hd0
  rw [Option.map_eq_some_iff] at hf
  obtain ⟨oc, hoc, he⟩ := hf
  have : d.oc = oc := by rw [← he]
  obtain ⟨o, ho, hc⟩ := mapM_some' hcomp hoc
  exact ⟨o, by rw [← Array.getElem?_toList]; exact ho, by rw [this]; exact hc⟩

end
end Go.Ev
end

section
/- Drawn regions: the invariant. -/
namespace Go.Ev

section
variable {P : Program}

/-- is the operation at a place of the reckoned order carried out -/
def Lst (ds : List Dc) (listed : Array Bool) (j : Nat) : Prop := ∃ d, ds[j]? = some d ∧ listed.getD d.ix false = true

/-- a variable that was made, and is no object yet -/
def Pend (P : Program) (c : Cx) (tmps : Array Value) (d : Dc) (b : Nat) : Prop :=
  ∃ ty esz es arr t, d.oc.op = .alloc ty esz es ∧ d.oc.dst = some t ∧ c.w.heap[b]? = some (.cells arr ty (0, 0)) ∧ okEls esz es = true ∧ CellsOK P c esz es arr ∧ c.x b ∧
    ∀ v, tmps[t]? = some v → v = .pointer (some ⟨b, 0, none⟩)

/-- what stands where: temporaries, and variables that are no objects yet -/
structure At (P : Program) (ce : Cx) (ds : List Dc) (s sN : St) (listed : Array Bool) (p : Nat) (c : Cx) (env : Env) (β : Nat → Nat) (a : Act) : Prop where
  le : ce.le c
  hr : HR P c
  er : EnvR P c env a.tmps
  done : ∀ (t j : Nat) d, ds[j]? = some d → d.oc.dst = some t → Lst ds listed j → (d.kd = .a → j < p) → env[t]? = sN.env[t]?
  undone : ∀ t : Nat, (∀ (j : Nat) d, ds[j]? = some d → d.oc.dst = some t → ¬ Lst ds listed j) → env[t]? = s.env[t]?
  pend : ∀ (j : Nat) d, ds[j]? = some d → d.kd = .a → Lst ds listed j → p ≤ j → Pend P c a.tmps d (β j) ∧ ¬ ce.x (β j)
  inj : ∀ (i j : Nat) x y, ds[i]? = some x → ds[j]? = some y → x.kd = .a → y.kd = .a → Lst ds listed i → Lst ds listed j → p ≤ i → p ≤ j → β i = β j → i = j
  x : ∀ b, c.x b ↔ (ce.x b ∨ ∃ j d, ds[j]? = some d ∧ d.kd = .a ∧ Lst ds listed j ∧ p ≤ j ∧ b = β j)
  mks : Marks ce.w.heap.size c a.defers

structure DInv (P : Program) (ce : Cx) (ops : Array Oper) (ds : List Dc) (s sN : St) (sts : List St) (listed : Array Bool) (p : Nat) (a : Act) (w : World) : Prop where
  size : listed.size = ops.size
  closed : ∀ (j : Nat) d, ds[j]? = some d → Lst ds listed j → ∀ i ∈ direct ops ds d, Lst ds listed i
  eff : ∀ (j : Nat) d, ds[j]? = some d → d.kd = .e → (Lst ds listed j ↔ j < p)
  al : ∀ (j : Nat) d, ds[j]? = some d → d.kd = .a → j < p → Lst ds listed j
  front : p = 0 ∨ ∃ d, ds[p - 1]? = some d ∧ d.kd = .e ∧ 0 < p
  tl : a.tmps.size = s.env.length
  ctx : ∃ sp m x env β, sts[p]? = some sp ∧ At P ce ds s sN listed p ⟨sp.H, m, sp.clk, w, x⟩ env β a

end
end Go.Ev
end

section
/- Drawn regions: adopting what was made. -/
namespace Go.Ev

section
variable {P : Program} {T : Tbl}

/-- the evaluator's step of an alloc -/
theorem StepD.alloc {n : Nat} {d : Dc} {s s1 : St} {m : Heap × Nat} (h : StepD T n d s m s1) (hk : d.kd = .a) (hkind : okKind d = true) {ty esz : Nat} {es : List AV} (hop : d.oc.op = .alloc ty esz es) {t : Nat} (ht : d.oc.dst = some t) :
    okEls esz es = true ∧ s1 = { env := s.env.set t (.ptr s.H.length s.clk 0 0), H := s.H ++ [.var ⟨true, ty, esz, es, false, s.clk, 0⟩], clk := s.clk + 1 } := by
  simp only [okKind, hk, Bool.and_eq_true, Option.isNone_iff_eq_none] at hkind
  have hg : d.oc.guard = none := hkind.1.2
  rcases h with ⟨hgo, _⟩ | ⟨_, ⟨h, _⟩ | ⟨_, v, H', clk', he, rfl⟩ | ⟨h, _⟩⟩
  · simp [goes, hg] at hgo
  · rw [hk] at h; cases h
  · rw [hop] at he
    simp only [COp.map, evOp] at he
    split at he
    · rename_i hz
      cases he
      exact ⟨hz, by simp only [putSt, ht]⟩
    · cases he
  · rw [hk] at h; cases h

/-- a place that is no effect's: what was made there becomes an object -/
theorem At.step {ce : Cx} {ds : List Dc} {s sN : St} {listed : Array Bool} {n q : Nat} {sq sq1 : St} {mm : Nat → Nat} {w : World} {x : Nat → Prop} {env : Env} {β : Nat → Nat} {a : Act} {d : Dc} {sn : Heap × Nat}
    (hat : At P ce ds s sN listed q ⟨sq.H, mm, sq.clk, w, x⟩ env β a) (hd : ds[q]? = some d) (hstep : StepD T n d sq sn sq1) (hkind : okKind d = true) (hne : d.kd ≠ .e) (hl : d.kd = .a → Lst ds listed q)
    (hfin : ∀ t, d.oc.dst = some t → sN.env[t]? = sq1.env[t]?) (hlen : env.length = sq.env.length) (hdst : ∀ (j : Nat) y, ds[j]? = some y → j ≠ q → ∀ t, d.oc.dst = some t → y.oc.dst ≠ some t) :
    ∃ m' x' env', At P ce ds s sN listed (q + 1) ⟨sq1.H, m', sq1.clk, w, x'⟩ env' β a := by
  cases hk : d.kd with
  | e => exact absurd hk hne
  | v =>
    obtain ⟨h1, h2⟩ := hstep.heap hk
    have hnq : ∀ (j : Nat) y, ds[j]? = some y → y.kd = .a → (q + 1 ≤ j ↔ q ≤ j) := by
      intro j y hy hka
      constructor
      · omega
      · intro h
        rcases Nat.lt_or_ge q j with h' | h'
        · omega
        · have : j = q := by omega
          subst this
          rw [hd] at hy; cases hy; rw [hk] at hka; cases hka
    rw [h1, h2]
    refine ⟨mm, x, env, ⟨hat.le, hat.hr, hat.er, fun t j y hy ht hL hp => hat.done t j y hy ht hL fun hka => ?_, hat.undone, fun j y hy hka hL hp => hat.pend j y hy hka hL ((hnq j y hy hka).1 hp), fun i j y z hy hz hka hkb hLi hLj hi hj => hat.inj i j y z hy hz hka hkb hLi hLj ((hnq i y hy hka).1 hi) ((hnq j z hz hkb).1 hj), fun b => ?_, hat.mks⟩⟩
    · have := hp hka
      rcases Nat.lt_or_ge j q with h' | h'
      · exact h'
      · have := (hnq j y hy hka).2 h'; omega
    · rw [hat.x b]
      constructor
      · rintro (h | ⟨j, y, hy, hka, hL, hp, e⟩)
        · exact .inl h
        · exact .inr ⟨j, y, hy, hka, hL, (hnq j y hy hka).2 hp, e⟩
      · rintro (h | ⟨j, y, hy, hka, hL, hp, e⟩)
        · exact .inl h
        · exact .inr ⟨j, y, hy, hka, hL, (hnq j y hy hka).1 hp, e⟩
  | a =>
    have hLq := hl hk
    obtain ⟨⟨ty, esz, es, arr, t, hop, ht, hb, hz, hcells, hxb, hval⟩, hnx⟩ := hat.pend q d hd hk hLq (Nat.le_refl _)
    obtain ⟨_, rfl⟩ := hstep.alloc hk hkind hop ht
    obtain ⟨h1, h2, h3, h4⟩ := Cx.le.adopt (c := ⟨sq.H, mm, sq.clk, w, x⟩) hat.hr hxb hb hz hcells
    have hq : ∀ j : Nat, q + 1 ≤ j → q ≤ j ∧ j ≠ q := fun j h => ⟨by omega, by omega⟩
    refine ⟨_, _, env.set t (.ptr sq.H.length sq.clk 0 0), ⟨hat.le.trans h1, h2, ?_, ?_, ?_, ?_, ?_, ?_, hat.mks.mono h1⟩⟩
    · have he := hat.er.mono h1
      refine ⟨by simpa using he.1, fun i y v hy hv => ?_⟩
      rw [List.getElem?_set] at hy
      split at hy
      · rename_i e
        subst e
        split at hy
        · cases hy
          rw [hval v hv]
          have := Rep.ptr (P := P) (k := 0) (j := 0) h3 (Nat.lt_succ_self _)
          rw [h4] at this
          simpa using this
        · cases hy
      · exact he.2 i y v hy hv
    · intro t' j y hy ht' hL hp
      by_cases hjq : j = q
      · subst hjq
        rw [hd] at hy; cases hy
        rw [ht] at ht'; cases ht'
        rw [hfin t ht]
        by_cases hlt : t < sq.env.length
        · simp [hlen, hlt]
        · simp [hlen, hlt]
      · have hne' : t ≠ t' := fun e => hdst j y hy hjq t ht (by rw [ht', e])
        rw [List.getElem?_set, if_neg hne']
        exact hat.done t' j y hy ht' hL (fun hka => by have := hp hka; omega)
    · intro t' hno
      have hne' : t ≠ t' := fun e => hno q d hd (by rw [ht, e]) hLq
      rw [List.getElem?_set, if_neg hne']
      exact hat.undone t' hno
    · intro j y hy hka hL hp
      obtain ⟨hpj, hjq⟩ := hq j hp
      obtain ⟨⟨ty', esz', es', arr', t', g1, g2, g3, g4, g5, g6, g7⟩, g8⟩ := hat.pend j y hy hka hL hpj
      exact ⟨⟨ty', esz', es', arr', t', g1, g2, g3, g4, g5.mono h1, ⟨g6, fun e => hjq (hat.inj j q y d hy hd hka hk hL hLq hpj (Nat.le_refl _) e)⟩, g7⟩, g8⟩
    · intro i j y z hy hz hka hkb hLi hLj hi hj e
      exact hat.inj i j y z hy hz hka hkb hLi hLj (hq i hi).1 (hq j hj).1 e
    · intro b
      constructor
      · rintro ⟨hxb', hne'⟩
        rcases (hat.x b).1 hxb' with h | ⟨j, y, hy, hka, hL, hp, e⟩
        · exact .inl h
        · refine .inr ⟨j, y, hy, hka, hL, ?_, e⟩
          rcases Nat.lt_or_ge q j with h' | h'
          · exact h'
          · have : j = q := by omega
            subst this; exact absurd e hne'
      · rintro (h | ⟨j, y, hy, hka, hL, hp, e⟩)
        · exact ⟨(hat.x b).2 (.inl h), fun e => hnx (e ▸ h)⟩
        · obtain ⟨hpj, hjq⟩ := hq j hp
          exact ⟨(hat.x b).2 (.inr ⟨j, y, hy, hka, hL, hpj, e⟩), fun e' => hjq (hat.inj j q y d hy hd hka hk hL hLq hpj (Nat.le_refl _) (e.symm.trans e'))⟩

end
end Go.Ev
end

section
/- Drawn regions: all that was made up to a place becomes objects. -/
namespace Go.Ev

section
variable {P : Program} {T : Tbl}

theorem Look.dst {ops : Array Oper} {ds : List Dc} (h : Look ops ds) {i j : Nat} {x y : Dc} (hx : ds[i]? = some x) (hy : ds[j]? = some y) (hij : i ≠ j) {t : Nat} (ht : x.oc.dst = some t) : y.oc.dst ≠ some t := by
  intro hy'
  rcases Nat.lt_or_gt_of_ne hij with hlt | hgt
  · have := h.pair i j x y hlt hx hy
    simp [okPair, ht, hy'] at this
  · have := h.pair j i y x hgt hy hx
    simp [okPair, ht, hy'] at this

/-- a temporary behind its writer has its last value -/
theorem RunD.last {ops : Array Oper} {ds : List Dc} (hlk : Look ops ds) {s sN : St} {sts : List St} {n : Nat} (hrun : RunD T n ds s sts) (hN : sts[ds.length]? = some sN) {j : Nat} {d : Dc} {sj : St} (hd : ds[j]? = some d) (hs : sts[j + 1]? = some sj) {t : Nat} (ht : d.oc.dst = some t) :
    sN.env[t]? = sj.env[t]? := by
  have hj : j < ds.length := (List.getElem?_eq_some_iff.1 hd).1
  have := hrun.env (t := t) hs (ds.length - (j + 1)) sN (by rw [show j + 1 + (ds.length - (j + 1)) = ds.length by omega]; exact hN) (fun q y h1 h2 hy => hlk.dst hd hy (by omega) ht)
  exact this

theorem At.upto {ce : Cx} {ops : Array Oper} {ds : List Dc} (hlk : Look ops ds) {s sN : St} {sts : List St} {n : Nat} (hrun : RunD T n ds s sts) (hN : sts[ds.length]? = some sN) {listed : Array Bool} {w : World} {a : Act} {β : Nat → Nat} {p : Nat} (hsz : a.tmps.size = s.env.length) :
    ∀ (k : Nat) {sp : St} {mm : Nat → Nat} {x : Nat → Prop} {env : Env}, p + k ≤ ds.length → sts[p]? = some sp → At P ce ds s sN listed p ⟨sp.H, mm, sp.clk, w, x⟩ env β a →
      (∀ (q : Nat) d, p ≤ q → q < p + k → ds[q]? = some d → d.kd ≠ .e ∧ (d.kd = .a → Lst ds listed q)) →
      ∃ sq m' x' env', sts[p + k]? = some sq ∧ At P ce ds s sN listed (p + k) ⟨sq.H, m', sq.clk, w, x'⟩ env' β a
  | 0, sp, mm, x, env, _, hs, hat, _ => ⟨sp, mm, x, env, hs, hat⟩
  | k + 1, sp, mm, x, env, hle, hs, hat, hq => by
    obtain ⟨sq, m', x', env', hsq, hat'⟩ := At.upto hlk hrun hN hsz k (by omega) hs hat (fun q d h1 h2 hd => hq q d h1 (by omega) hd)
    have hd := List.getElem?_eq_getElem (l := ds) (i := p + k) (by omega)
    obtain ⟨sq1, hsq1⟩ := hrun.get (j := p + k + 1) (by omega)
    obtain ⟨hne, hl⟩ := hq (p + k) _ (by omega) (by omega) hd
    obtain ⟨m2, x2, env2, hat2⟩ := hat'.step hd (hrun.step (p + k) _ sq sq1 hd hsq hsq1) (hlk.kind _ _ hd) hne hl (fun t ht => hrun.last hlk hN hd hsq1 ht) (by rw [hat'.er.1, hsz, hrun.envlen _ _ hsq]) (fun j y hy hj t ht => hlk.dst hd hy (fun e => hj e.symm) ht)
    exact ⟨sq1, m2, x2, env2, hsq1, hat2⟩

end
end Go.Ev
end

section
/- Drawn regions: an operation that may come now. -/
namespace Go.Ev

section
variable {P : Program} {T : Tbl}

theorem posOf_get {ds : List Dc} {i : Nat} (h : posOf ds i < ds.length) : ∃ d, ds[posOf ds i]? = some d ∧ d.ix = i := by
  unfold posOf at h ⊢
  cases hf : ds.findIdx? (fun d => d.ix == i) with
  | none => rw [hf] at h; simp at h
  | some k =>
    rw [Option.getD_some]
    rw [List.findIdx?_eq_some_iff_getElem] at hf
    obtain ⟨hk, hp, _⟩ := hf
    exact ⟨ds[k], List.getElem?_eq_getElem hk, by simpa using hp⟩

/-- what an operation waits for has been carried out when it is ready -/
theorem ready_direct {ops : Array Oper} {ds : List Dc} (hlk : Look ops ds) {listed : Array Bool} {j : Nat} {d : Dc} (hd : ds[j]? = some d) (hr : d.ix ∈ Region.ready .any ops listed) : ∀ i ∈ direct ops ds d, Lst ds listed i := by
  intro i hi
  have hlt := hlk.direct j d hd i hi
  have hj : j < ds.length := (List.getElem?_eq_some_iff.1 hd).1
  unfold direct at hi
  split at hi
  · rename_i o ho
    rw [List.mem_map] at hi
    obtain ⟨e, he, rfl⟩ := hi
    rw [List.mem_filter] at he
    obtain ⟨d0, hd0, hix⟩ := posOf_get (ds := ds) (i := e.on) (by omega)
    refine ⟨d0, hd0, ?_⟩
    rw [hix]
    obtain ⟨_, o', ho', hall⟩ := mem_ready.1 hr
    rw [ho] at ho'; cases ho'
    exact hall e (by simpa using he.1) he.2
  · cases hi

/-- an operation that is not listed, and waits for nothing that is not, is ready -/
theorem direct_ready {ops : Array Oper} {ds : List Dc} (hlk : Look ops ds) {listed : Array Bool} (hsz : listed.size = ops.size) {j : Nat} {d : Dc} (hd : ds[j]? = some d) (hno : ¬ Lst ds listed j) (hdir : ∀ i ∈ direct ops ds d, Lst ds listed i) :
    d.ix ∈ Region.ready .any ops listed := by
  have hix := hlk.ix j d hd
  have hj : j < ds.length := (List.getElem?_eq_some_iff.1 hd).1
  rw [mem_ready]
  have hix' : d.ix < listed.size := by omega
  refine ⟨?_, ops[d.ix], Array.getElem?_eq_getElem hix, fun e he hb => ?_⟩
  · have : ¬ listed.getD d.ix false = true := fun h => hno ⟨d, hd, h⟩
    simp only [Array.getD, hix', dif_pos] at this ⊢
    simpa using this
  · have hm : posOf ds e.on ∈ direct ops ds d := by
      unfold direct
      rw [Array.getElem?_eq_getElem hix]
      simp only [List.mem_map, List.mem_filter]
      exact ⟨e, ⟨by simpa using he, hb⟩, rfl⟩
    have hlt := hlk.direct j d hd _ hm
    obtain ⟨d0, hd0, hl0⟩ := hdir _ hm
    obtain ⟨d1, hd1, hix1⟩ := posOf_get (ds := ds) (i := e.on) (by omega)
    rw [hd0] at hd1; cases hd1
    rw [← hix1]; exact hl0

theorem nodup_len : ∀ (n : Nat) (l : List Nat), l.Nodup → (∀ x ∈ l, x < n) → l.length ≤ n
  | 0, [], _, _ => Nat.le_refl _
  | 0, x :: l, _, h => absurd (h x (by simp)) (by omega)
  | n + 1, l, hn, h => by
    by_cases hm : n ∈ l
    · have := nodup_len n (l.erase n) (hn.erase n) (fun x hx => by
        have h1 := h x (List.mem_of_mem_erase hx)
        have h2 : x ≠ n := fun e => by subst e; exact (List.Nodup.not_mem_erase hn) hx
        omega)
      rw [List.length_erase_of_mem hm] at this
      omega
    · have := nodup_len n l hn (fun x hx => by
        have h1 := h x hx
        have h2 : x ≠ n := fun e => hm (e ▸ hx)
        omega)
      omega

theorem nodup_all : ∀ (n : Nat) (l : List Nat), l.Nodup → (∀ x ∈ l, x < n) → l.length = n → ∀ i, i < n → i ∈ l
  | 0, _, _, _, _, i, hi => absurd hi (by omega)
  | n + 1, l, hn, h, hl, i, hi => by
    have hm : n ∈ l := by
      by_cases hm : n ∈ l
      · exact hm
      · have := nodup_len n l hn (fun x hx => by
          have h1 := h x hx
          have h2 : x ≠ n := fun e => hm (e ▸ hx)
          omega)
        omega
    rcases Nat.lt_or_ge i n with hlt | hge
    · refine List.mem_of_mem_erase (nodup_all n (l.erase n) (hn.erase n) (fun x hx => ?_) (by rw [List.length_erase_of_mem hm]; omega) i hlt)
      have h1 := h x (List.mem_of_mem_erase hx)
      have h2 : x ≠ n := fun e => by subst e; exact (List.Nodup.not_mem_erase hn) hx
      omega
    · have : i = n := by omega
      subst this; exact hm

theorem Look.onto {ops : Array Oper} {ds : List Dc} (h : Look ops ds) {i : Nat} (hi : i < ops.size) : ∃ (j : Nat) (d : Dc), ds[j]? = some d ∧ d.ix = i := by
  have := nodup_all ops.size (ds.map (·.ix)) h.nodup (fun x hx => by
    rw [List.mem_map] at hx
    obtain ⟨d, hd, rfl⟩ := hx
    obtain ⟨j, hj⟩ := List.mem_iff_getElem?.1 hd
    exact h.ix j d hj) (by rw [List.length_map, h.len]) i hi
  rw [List.mem_map] at this
  obtain ⟨d, hd, rfl⟩ := this
  obtain ⟨j, hj⟩ := List.mem_iff_getElem?.1 hd
  exact ⟨j, d, hj, rfl⟩

theorem Look.ix_inj {ops : Array Oper} {ds : List Dc} (h : Look ops ds) {i j : Nat} {x y : Dc} (hx : ds[i]? = some x) (hy : ds[j]? = some y) (e : x.ix = y.ix) : i = j := by
  have hn := h.nodup
  unfold List.Nodup at hn
  rw [List.pairwise_iff_getElem] at hn
  obtain ⟨hi, hx'⟩ := List.getElem?_eq_some_iff.1 hx
  obtain ⟨hj, hy'⟩ := List.getElem?_eq_some_iff.1 hy
  rcases Nat.lt_trichotomy i j with hlt | heq | hgt
  · have := hn i j (by simpa using hi) (by simpa using hj) hlt
    simp only [List.getElem_map, hx', hy'] at this
    exact absurd e this
  · exact heq
  · have := hn j i (by simpa using hj) (by simpa using hi) hgt
    simp only [List.getElem_map, hx', hy'] at this
    exact absurd e.symm this

/-- one more is listed -/
theorem lst_set {ops : Array Oper} {ds : List Dc} (hlk : Look ops ds) {listed : Array Bool} (hsz : listed.size = ops.size) {j : Nat} {d : Dc} (hd : ds[j]? = some d) (i : Nat) :
    Lst ds (listed.setIfInBounds d.ix true) i ↔ Lst ds listed i ∨ i = j := by
  have hix := hlk.ix j d hd
  constructor
  · rintro ⟨y, hy, hl⟩
    by_cases hij : i = j
    · exact .inr hij
    · have hne : d.ix ≠ y.ix := fun e => hij (hlk.ix_inj hy hd e.symm)
      rw [getD_set_ne false hne] at hl
      exact .inl ⟨y, hy, hl⟩
  · rintro (⟨y, hy, hl⟩ | rfl)
    · exact ⟨y, hy, getD_set_true hl⟩
    · refine ⟨d, hd, ?_⟩
      have : d.ix < listed.size := by omega
      simp [this]

theorem aheads_lt {ops : Array Oper} {ds : List Dc} (hlk : Look ops ds) {j i : Nat} (hj : j < ds.length) (hi : i ∈ (aheads ops ds ds []).getD j []) : i < j := by
  obtain ⟨h1, _, h3⟩ := aheads_get ops ds ds []
  simp only [List.length_nil, Nat.zero_add] at h1 h3
  have hd := List.getElem?_eq_getElem hj
  have := h3 j _ hd
  rw [List.getD, this, Option.getD_some, List.mem_flatMap] at hi
  obtain ⟨i0, h0, hm⟩ := hi
  have hlt := hlk.direct j _ hd i0 h0
  rcases List.mem_cons.1 hm with rfl | hm
  · exact hlt
  · have hc := aheads_closed (ops := ops) (ds := ds) (L := fun k => k ≤ i0) (fun k d hd' hk q hq => by have := hlk.direct k d hd' q hq; omega) i0 (Nat.le_refl _)
    have e : ((aheads ops ds ds []).take j).getD i0 [] = (aheads ops ds ds []).getD i0 [] := by
      simp only [List.getD, List.getElem?_take, hlt, if_true]
    rw [e] at hm
    have := hc i hm
    omega

/-- what stands ahead of an operation that is ready is listed -/
theorem ready_aheads {ops : Array Oper} {ds : List Dc} (hlk : Look ops ds) {listed : Array Bool} (hcl : ∀ (j : Nat) d, ds[j]? = some d → Lst ds listed j → ∀ i ∈ direct ops ds d, Lst ds listed i)
    {j : Nat} {d : Dc} (hd : ds[j]? = some d) (hdir : ∀ i ∈ direct ops ds d, Lst ds listed i) : ∀ i ∈ (aheads ops ds ds []).getD j [], Lst ds listed i := by
  intro i hi
  have hj : j < ds.length := (List.getElem?_eq_some_iff.1 hd).1
  have hlt := aheads_lt hlk hj hi
  have := aheads_closed (ops := ops) (ds := ds) (L := fun k => Lst ds listed k ∨ k = j) (fun k y hy hk q hq => by
    rcases hk with hk | rfl
    · exact .inl (hcl k y hy hk q hq)
    · rw [hd] at hy; cases hy
      exact .inl (hdir q hq)) j (.inr rfl) i hi
  rcases this with h | h
  · exact h
  · omega

/-- a temporary that a ready operation looks at has the value that it has in the reckoned order -/
theorem At.looks {ce : Cx} {ops : Array Oper} {ds : List Dc} (hlk : Look ops ds) {s sN : St} {sts : List St} {n : Nat} (hrun : RunD T n ds s sts) (hN : sts[ds.length]? = some sN) {listed : Array Bool}
    (hcl : ∀ (j : Nat) d, ds[j]? = some d → Lst ds listed j → ∀ i ∈ direct ops ds d, Lst ds listed i) {p : Nat} {c : Cx} {env : Env} {β : Nat → Nat} {a : Act} (hat : At P ce ds s sN listed p c env β a)
    {j : Nat} {d : Dc} {sj : St} (hd : ds[j]? = some d) (hs : sts[j]? = some sj) (hno : ¬ Lst ds listed j) (hdir : ∀ i ∈ direct ops ds d, Lst ds listed i) (hp : d.kd = .v ∨ p = j) {t : Nat} (ht : t ∈ d.oc.looks) :
    env[t]? = sj.env[t]? := by
  have hj : j < ds.length := (List.getElem?_eq_some_iff.1 hd).1
  have ha := ready_aheads hlk hcl hd hdir
  have hun : (∀ (i : Nat) (y : Dc), ds[i]? = some y → y.oc.dst = some t → ¬ Lst ds listed i ∧ ¬ i < j) → env[t]? = sj.env[t]? := by
    intro h
    rw [hat.undone t (fun i y hy hyt => (h i y hy hyt).1)]
    refine (hrun.env (t := t) hrun.head j sj (by rw [Nat.zero_add]; exact hs) (fun q y _ h2 hy hyt => (h q y hy hyt).2 (by omega))).symm
  by_cases hw : ∃ (i : Nat) (y : Dc), ds[i]? = some y ∧ y.oc.dst = some t
  · obtain ⟨i, y, hy, hyt⟩ := hw
    have huniq : ∀ (q : Nat) (z : Dc), ds[q]? = some z → z.oc.dst = some t → q = i := by
      intro q z hz hzt
      rcases Nat.decEq q i with hne | heq
      · exact absurd hzt (hlk.dst hy hz (fun e => hne e.symm) hyt)
      · exact heq
    rcases Nat.lt_or_ge i j with hlt | hge
    · have hpair := hlk.pair i j y d hlt hy hd
      simp only [okPair, hyt, Bool.and_eq_true, Bool.or_eq_true, Bool.not_eq_true', List.contains_iff_mem, Bool.and_eq_false_imp] at hpair
      have h2 := hpair.1.2.2
      have hcont : d.oc.looks.contains t = true := by simpa using ht
      rw [hcont] at h2
      simp only [Bool.true_eq_false, false_or] at h2
      obtain ⟨hm, hk⟩ := h2
      have hL := ha i hm
      have hlast := hat.done t i y hy hyt hL (fun hka => by
        rcases hp with hv | hpj
        · exfalso
          have := hk (by simp [hka])
          simp [hv] at this
        · omega)
      rw [hlast]
      have hi : i < ds.length := (List.getElem?_eq_some_iff.1 hy).1
      obtain ⟨si, hsi⟩ := hrun.get (j := i + 1) (by omega)
      rw [hrun.last hlk hN hy hsi hyt]
      exact (hrun.env (t := t) hsi (j - (i + 1)) sj (by rw [show i + 1 + (j - (i + 1)) = j by omega]; exact hs) (fun q z h1 _ hz hzt => by have := huniq q z hz hzt; omega)).symm
    · refine hun fun q z hz hzt => ?_
      have hq := huniq q z hz hzt
      subst hq
      refine ⟨fun hL => ?_, by omega⟩
      rw [hy] at hz; cases hz
      rcases Nat.lt_or_ge j q with hlt | hle
      · have hpair := hlk.pair j q d y hlt hd hy
        simp only [okPair, hyt, Bool.and_eq_true, Bool.or_eq_true, Bool.not_eq_true'] at hpair
        have h2 := hpair.2
        have hcont : d.oc.looks.contains t = true := by simpa using ht
        rw [hcont] at h2
        simp only [Bool.true_eq_false, false_or] at h2
        have hm : j ∈ (aheads ops ds ds []).getD q [] := by simpa using h2
        exact hno (aheads_closed hcl q hL j hm)
      · have : q = j := by omega
        subst this; exact hno hL
  · exact hun fun i y hy hyt => absurd ⟨i, y, hy, hyt⟩ hw

theorem looks_map {oc : Oc} {env env' : Env} (h : ∀ t ∈ oc.looks, env[t]? = env'[t]?) : oc.op.map (evR env) = oc.op.map (evR env') := by
  refine COp.map_congr _ fun x hx => ?_
  cases x with
  | c v => rfl
  | t i =>
    have : i ∈ oc.looks := by
      unfold Oc.looks
      rw [List.mem_append, List.mem_filterMap]
      exact .inl ⟨.t i, hx, rfl⟩
    simp only [evR, List.getD, h i this]

theorem looks_args {oc : Oc} {f : Ref} {args : List Ref} (hop : oc.op = .call f args) {env env' : Env} (h : ∀ t ∈ oc.looks, env[t]? = env'[t]?) : evR env f = evR env' f ∧ args.map (evR env) = args.map (evR env') := by
  have := looks_map h
  rw [hop] at this
  simp only [COp.map, COp.call.injEq] at this
  exact this

theorem looks_goes {oc : Oc} {s s' : St} (h : ∀ t ∈ oc.looks, s.env[t]? = s'.env[t]?) : goes s oc.guard = goes s' oc.guard := by
  cases hg : oc.guard with
  | none => rfl
  | some g =>
    have : g.1 ∈ oc.looks := by
      unfold Oc.looks
      rw [hg, List.mem_append]
      exact .inr (by simp)
    simp only [goes, List.getD, h g.1 this]

theorem looks_step {oc : Oc} {s s' : St} {n : Nat} (h : ∀ t ∈ oc.looks, s.env[t]? = s'.env[t]?) (hH : s.H = s'.H) (hc : s.clk = s'.clk) : stepOp T n oc s = stepOp T n oc s' := by
  unfold stepOp
  split
  · rename_i f args hop
    obtain ⟨h1, h2⟩ := looks_args hop h
    rw [h1, h2, hH, hc]
  · rw [looks_map h, hH, hc]

end
end Go.Ev
end

section
/- Drawn regions: windows; a value operation has its value now; what holds behind an operation. -/
namespace Go.Ev

section
variable {P : Program} {T : Tbl}

theorem cntE_mono (ds : List Dc) : ∀ (i k : Nat), cntE ds i ≤ cntE ds (i + k)
  | _, 0 => Nat.le_refl _
  | i, k + 1 => by
    refine Nat.le_trans (cntE_mono ds i k) ?_
    cases hd : ds[i + k]? with
    | some d => rw [← Nat.add_assoc, cntE_succ ds (i + k) d hd]; omega
    | none =>
      have hge : ds.length ≤ i + k := List.getElem?_eq_none_iff.1 hd
      have : ∀ (ds : List Dc) (n : Nat), ds.length ≤ n → cntE ds n ≤ cntE ds (n + 1) := by
        intro ds
        induction ds with
        | nil => intro n _; cases n <;> simp [cntE]
        | cons d ds ih =>
          intro n hn
          cases n with
          | zero => simp at hn
          | succ n =>
            have := ih n (by simpa using hn)
            have e1 : cntE (d :: ds) (n + 1 + 1) = (if d.kd = .e then 1 else 0) + cntE ds (n + 1) := rfl
            have e2 : cntE (d :: ds) (n + 1) = (if d.kd = .e then 1 else 0) + cntE ds n := rfl
            omega
      exact this ds (i + k) hge

/-- fewer effects ahead than at another place: there is a next one -/
theorem cntE_next {ds : List Dc} {p : Nat} : ∀ (k : Nat), p + k ≤ ds.length → cntE ds p < cntE ds (p + k) → ∃ (i : Nat) (d : Dc), p ≤ i ∧ i < p + k ∧ ds[i]? = some d ∧ d.kd = .e ∧ cntE ds i = cntE ds p
  | 0, _, h => absurd h (by simp)
  | k + 1, hl, h => by
    have hd := List.getElem?_eq_getElem (l := ds) (i := p + k) (by omega)
    by_cases hlt : cntE ds p < cntE ds (p + k)
    · obtain ⟨i, d, h1, h2, h3, h4, h5⟩ := cntE_next k (by omega) hlt
      exact ⟨i, d, h1, by omega, h3, h4, h5⟩
    · have hm := cntE_mono ds p k
      have heq : cntE ds (p + k) = cntE ds p := by omega
      rw [← Nat.add_assoc, cntE_succ ds (p + k) _ hd] at h
      by_cases he : (ds[p + k]).kd = .e
      · exact ⟨p + k, _, by omega, by omega, hd, he, heq⟩
      · rw [if_neg he] at h; omega

/-- as many effects ahead: none between -/
theorem cntE_none {ds : List Dc} {i k q : Nat} {d : Dc} (h : cntE ds (i + k) = cntE ds i) (h1 : i ≤ q) (h2 : q < i + k) (hd : ds[q]? = some d) : d.kd ≠ .e := by
  intro he
  have e := cntE_succ ds q d hd
  rw [if_pos he] at e
  have m1 := cntE_mono ds i (q - i)
  rw [show i + (q - i) = q by omega] at m1
  have m2 := cntE_mono ds (q + 1) (i + k - (q + 1))
  rw [show q + 1 + (i + k - (q + 1)) = i + k by omega] at m2
  omega

/-- the last effect ahead of a place -/
theorem cntE_last {ds : List Dc} : ∀ (p : Nat), p ≤ ds.length → cntE ds p = 0 ∨ ∃ q, q < p ∧ ∃ x : Dc, ds[q]? = some x ∧ x.kd = .e ∧ cntE ds p = cntE ds q + 1
  | 0, _ => .inl (cntE_zero ds)
  | p + 1, hl => by
    have hd := List.getElem?_eq_getElem (l := ds) (i := p) (by omega)
    have e := cntE_succ ds p _ hd
    by_cases he : (ds[p]).kd = .e
    · rw [if_pos he] at e
      exact .inr ⟨p, Nat.lt_succ_self _, _, hd, he, e⟩
    · rw [if_neg he] at e
      rcases cntE_last (ds := ds) p (by omega) with h | ⟨q, hq, x, hx, hxe, hc⟩
      · exact .inl (by omega)
      · exact .inr ⟨q, by omega, x, hx, hxe, by omega⟩

/-- a value operation's window: a place that all effects that it waits for are ahead of, and none that waits for it -/
theorem win_at' {ops : Array Oper} {ds : List Dc} {j p : Nat} {d : Dc} (hw : okWin ds (aheads ops ds ds []) j d = true) (hp : p ≤ ds.length)
    (h1 : ∀ (i : Nat) (x : Dc), ds[i]? = some x → x.kd = .e → p ≤ i → i ∉ (aheads ops ds ds []).getD j []) (h2 : ∀ (i : Nat) (x : Dc), ds[i]? = some x → x.kd = .e → i < p → j ∉ (aheads ops ds ds []).getD i []) : d.lo ≤ cntE ds p ∧ cntE ds p ≤ d.hi := by
  simp only [okWin, Bool.and_eq_true, decide_eq_true_eq] at hw
  obtain ⟨hlo, hall⟩ := hw
  have hall' : ∀ (i : Nat) (x : Dc), ds[i]? = some x → x.kd = .e → (d.lo ≤ cntE ds i ∨ i ∈ (aheads ops ds ds []).getD j []) ∧ (cntE ds i < d.hi ∨ j ∈ (aheads ops ds ds []).getD i []) := by
    intro i x hx he
    have := zipIdx_all hall hx
    simpa [he] using this
  constructor
  · rcases Nat.lt_or_ge (cntE ds p) d.lo with hlt | hge
    · exfalso
      obtain ⟨i, x, g1, _, g3, g4, g5⟩ := cntE_next (ds := ds) (p := p) (ds.length - p) (by omega) (by rw [show p + (ds.length - p) = ds.length by omega]; omega)
      rcases (hall' i x g3 g4).1 with h | h
      · omega
      · exact h1 i x g3 g4 g1 h
    · exact hge
  · rcases Nat.lt_or_ge d.hi (cntE ds p) with hlt | hge
    · exfalso
      rcases cntE_last p hp with hz | ⟨q, hq, x, hx, he, hc⟩
      · omega
      · rcases (hall' q x hx he).2 with h | h
        · omega
        · exact h2 q x hx he hq h
    · exact hge

/-- a value operation that may come now has now the value that it has in the reckoned order -/
theorem value_now {ops : Array Oper} {ds : List Dc} (hlk : Look ops ds) {s : St} {sts : List St} {n : Nat} (hrun : RunD T n ds s sts) (hst : stable ds sts = true) {listed : Array Bool} {p : Nat} {sp : St} (hsp : sts[p]? = some sp)
    (hcl : ∀ (j : Nat) d, ds[j]? = some d → Lst ds listed j → ∀ i ∈ direct ops ds d, Lst ds listed i)
    (heff : ∀ (j : Nat) d, ds[j]? = some d → d.kd = .e → (Lst ds listed j ↔ j < p)) (hfront : p = 0 ∨ ∃ d, ds[p - 1]? = some d ∧ d.kd = .e ∧ 0 < p)
    {j : Nat} {d : Dc} {sj sj1 : St} (hd : ds[j]? = some d) (hs : sts[j]? = some sj) (hs1 : sts[j + 1]? = some sj1) (hno : ¬ Lst ds listed j) (hdir : ∀ i ∈ direct ops ds d, Lst ds listed i) (hk : d.kd = .v) (hg : goes sj d.oc.guard = some true) :
    ∃ v, evOp (d.oc.op.map (evR sj.env)) sp.H sp.clk = some (v, sp.H, sp.clk) ∧ ∀ t, d.oc.dst = some t → ∀ env : Env, env.length = sj.env.length → (env.set t v)[t]? = sj1.env[t]? := by
  have hj : j < ds.length := (List.getElem?_eq_some_iff.1 hd).1
  have hp : p ≤ ds.length := by have := (List.getElem?_eq_some_iff.1 hsp).1; rw [hrun.len] at this; omega
  have hstep := hrun.step j d sj sj1 hd hs hs1
  obtain ⟨v, H', clk', hev, hkeep, rfl⟩ : ∃ v H' clk', evOp (d.oc.op.map (evR sj.env)) (snapAt ds sts s.H s.clk j).1 (snapAt ds sts s.H s.clk j).2 = some (v, H', clk') ∧ keeps d.oc.op v = true ∧ sj1 = putSt sj d.oc.dst v sj.H sj.clk := by
    rcases hstep with ⟨h, _⟩ | ⟨_, ⟨_, h⟩ | ⟨h, _⟩ | ⟨h, _⟩⟩
    · rw [hg] at h; cases h
    · exact h
    · rw [hk] at h; cases h
    · rw [hk] at h; cases h
  obtain ⟨rfl, rfl⟩ := keeps_heap hev hkeep
  have hset : ∀ t, d.oc.dst = some t → ∀ env : Env, env.length = sj.env.length → (env.set t v)[t]? = (putSt sj d.oc.dst v sj.H sj.clk).env[t]? := by
    intro t ht env hl
    simp only [putSt, ht, List.getElem?_set, if_true, hl]
  have hwin := hlk.win j d hd hk
  have ha := ready_aheads hlk hcl hd hdir
  have hwp := win_at' hwin hp (fun i x hx he hpi hm => by have := (heff i x hx he).1 (ha i hm); omega) (fun i x hx he hip hm => hno (aheads_closed hcl i ((heff i x hx he).2 hip) j hm))
  by_cases hf : d.oc.op.free = true
  · have hf' : (d.oc.op.map (evR sj.env)).free = true := by
      revert hf
      cases d.oc.op <;> simp [COp.free, COp.map]
      rename_i sl x
      cases sl <;> simp
    refine ⟨v, free_evOp hf' hev ?_, hset⟩
    intro ty esz z l ps hop
    cases hop2 : d.oc.op <;> rw [hop2] at hop <;> simp only [COp.map] at hop <;> cases hop
    rw [hop2] at hkeep
    cases v <;> simp [keeps] at hkeep
    exact ⟨_, _, rfl⟩
  · by_cases hlh : d.lo = d.hi
    · have hwj := win_at' hwin (Nat.le_of_lt hj) (fun i x hx he hji hm => by have := aheads_lt hlk hj hm; omega)
        (fun i x hx he hij hm => by have := aheads_lt hlk (List.getElem?_eq_some_iff.1 hx).1 hm; omega)
      have hc : cntE ds j = cntE ds p := by omega
      have hsnap : snapAt ds sts s.H s.clk j = (sp.H, sp.clk) := by
        rw [← hrun.snap_at hfront hsp]
        rcases Nat.le_total j p with hle | hle
        · have := hrun.snap_same (i := j) (p - j) (by omega) (fun q x h1 h2 hx => cntE_none (i := j) (k := p - j) (by rw [show j + (p - j) = p by omega]; exact hc.symm) h1 h2 hx)
          rw [show j + (p - j) = p by omega] at this
          exact this.symm
        · have := hrun.snap_same (i := p) (j - p) (by omega) (fun q x h1 h2 hx => cntE_none (i := p) (k := j - p) (by rw [show p + (j - p) = j by omega]; exact hc) h1 h2 hx)
          rw [show p + (j - p) = j by omega] at this
          exact this
      rw [hsnap] at hev
      exact ⟨v, hev, hset⟩
    · obtain ⟨t, v2, H2, clk2, ht, hev2, hv2, hav⟩ := stable_at hrun.len hst hd hs hs1 hk hlh (by simpa using hf) hg hfront hsp hwp.1 hwp.2
      by_cases htl : t < sj.env.length
      · have : v2 = v := by
          rw [← hv2]
          simp [putSt, ht, List.getD, htl]
        subst this
        obtain ⟨rfl, rfl⟩ := keeps_heap hev2 hkeep
        exact ⟨v2, hev2, hset⟩
      · exfalso
        have : (putSt sj d.oc.dst v sj.H sj.clk).env.getD t .junk = .junk := by
          simp only [putSt, ht, List.getD]
          rw [List.getElem?_eq_none (by simpa using htl)]
          rfl
        rw [this] at hav
        simp [avEq] at hav

end
end Go.Ev
end

section
/- Drawn regions: what holds behind an operation. -/
namespace Go.Ev

section
variable {P : Program} {T : Tbl}

theorem put_other {a : Act} {d : Option Tmp} {val : Value} {t : Nat} (h : d ≠ some t) : (a.put d val).tmps[t]? = a.tmps[t]? := by
  cases d with
  | none => rfl
  | some t' =>
    have : t' ≠ t := fun e => h (by rw [e])
    simp only [Act.put]
    exact Array.getElem?_setIfInBounds_ne this

theorem put_size (a : Act) (d : Option Tmp) (v : Value) : (a.put d v).tmps.size = a.tmps.size := by
  cases d <;> simp [Act.put]

theorem put_defers' (a : Act) (d : Option Tmp) (v : Value) : (a.put d v).defers = a.defers := by
  cases d <;> rfl

/-- a reserved block stays as it is -/
theorem Cx.le.reserved {c c' : Cx} (hH : HR P c) (h : c.le c') (hx : c'.x = c.x) {b : Nat} (hb : c.x b) : c'.w.heap[b]? = c.w.heap[b]? := by
  refine h.still b (hH.x b hb) ?_ (fun _ => by rw [hx]; exact hb)
  rintro ⟨i, o, hi, ho, rfl⟩
  cases o with
  | dead => cases ho
  | mp es ep ver => exact absurd hi (hH.nomap i _ _ _)
  | var r => exact (hH.var i r hi).x hb

theorem Pend.mono {c c' : Cx} (hH : HR P c) (h : c.le c') (hx : c'.x = c.x) {a a' : Act} {d : Dc} {b : Nat} (hp : Pend P c a.tmps d b) (ht : ∀ t, d.oc.dst = some t → a'.tmps[t]? = a.tmps[t]?) : Pend P c' a'.tmps d b := by
  obtain ⟨ty, esz, es, arr, t, g1, g2, g3, g4, g5, g6, g7⟩ := hp
  exact ⟨ty, esz, es, arr, t, g1, g2, by rw [h.reserved hH hx g6]; exact g3, g4, g5.mono h, by rw [hx]; exact g6, fun v hv => g7 v (by rw [← ht t g2]; exact hv)⟩

/-- behind an operation that is no alloc -/
theorem At.put {ce : Cx} {ops : Array Oper} {ds : List Dc} (hlk : Look ops ds) {s sN : St} {listed : Array Bool} (hsz : listed.size = ops.size) {p : Nat} {c c' : Cx} {env : Env} {β : Nat → Nat} {a : Act} (hat : At P ce ds s sN listed p c env β a)
    (hle : c.le c') (hH' : HR P c') (hx : c'.x = c.x) {j : Nat} {d : Dc} (hd : ds[j]? = some d) (hk : d.kd ≠ .a) {v : AV} {val : Value}
    (he : EnvR P c' (match d.oc.dst with | some t => env.set t v | none => env) (a.put d.oc.dst val).tmps)
    (hv : ∀ t, d.oc.dst = some t → (env.set t v)[t]? = sN.env[t]?) :
    At P ce ds s sN (listed.setIfInBounds d.ix true) p c' (match d.oc.dst with | some t => env.set t v | none => env) β (a.put d.oc.dst val) := by
  have hL := lst_set hlk hsz hd
  have hother : ∀ t, d.oc.dst ≠ some t → (match d.oc.dst with | some t => env.set t v | none => env)[t]? = env[t]? := by
    intro t ht
    cases hdst : d.oc.dst with
    | none => rfl
    | some t' =>
      have : t' ≠ t := fun e => ht (by rw [hdst, e])
      simp only [List.getElem?_set, if_neg this]
  have hLa : ∀ (i : Nat) (y : Dc), ds[i]? = some y → y.kd = .a → Lst ds (listed.setIfInBounds d.ix true) i → Lst ds listed i ∧ i ≠ j := by
    intro i y hy hka h
    have hne : i ≠ j := by rintro rfl; rw [hd] at hy; cases hy; exact hk hka
    exact ⟨((hL i).1 h).resolve_right hne, hne⟩
  refine ⟨hat.le.trans hle, hH', he, ?_, ?_, ?_, ?_, ?_, by rw [put_defers']; exact hat.mks.mono hle⟩
  · intro t i y hy hyt h hp
    by_cases hij : i = j
    · subst hij
      rw [hd] at hy; cases hy
      simp only [hyt]
      exact hv t hyt
    · rw [hother t (hlk.dst hy hd hij hyt)]
      exact hat.done t i y hy hyt (((hL i).1 h).resolve_right hij) hp
  · intro t h
    have hdt : d.oc.dst ≠ some t := fun e => h j d hd e ((hL j).2 (.inr rfl))
    rw [hother t hdt]
    exact hat.undone t fun i y hy hyt hLi => h i y hy hyt ((hL i).2 (.inl hLi))
  · intro i y hy hka h hp
    obtain ⟨h1, hij⟩ := hLa i y hy hka h
    obtain ⟨g1, g2⟩ := hat.pend i y hy hka h1 hp
    exact ⟨g1.mono hat.hr hle hx (fun t ht => put_other (fun e => hlk.dst hy hd hij ht e)), g2⟩
  · intro i k y z hy hz hka hkb h1 h2 hpi hpk e
    exact hat.inj i k y z hy hz hka hkb (hLa i y hy hka h1).1 (hLa k z hz hkb h2).1 hpi hpk e
  · intro b
    rw [hx, hat.x b]
    constructor
    · rintro (h | ⟨i, y, hy, hka, h, hp, e⟩)
      · exact .inl h
      · exact .inr ⟨i, y, hy, hka, (hL i).2 (.inl h), hp, e⟩
    · rintro (h | ⟨i, y, hy, hka, h, hp, e⟩)
      · exact .inl h
      · exact .inr ⟨i, y, hy, hka, (hLa i y hy hka h).1, hp, e⟩

/-- a place that is no alloc's is passed -/
theorem At.pass {ce : Cx} {ds : List Dc} {s sN : St} {listed : Array Bool} {p : Nat} {c : Cx} {env : Env} {β : Nat → Nat} {a : Act} (hat : At P ce ds s sN listed p c env β a) {d : Dc} (hd : ds[p]? = some d) (hk : d.kd ≠ .a) :
    At P ce ds s sN listed (p + 1) c env β a := by
  have hnq : ∀ (j : Nat) (y : Dc), ds[j]? = some y → y.kd = .a → (p + 1 ≤ j ↔ p ≤ j) := by
    intro j y hy hka
    constructor
    · omega
    · intro h
      rcases Nat.lt_or_ge p j with h' | h'
      · omega
      · have : j = p := by omega
        subst this
        rw [hd] at hy; cases hy; exact absurd hka hk
  refine ⟨hat.le, hat.hr, hat.er, fun t j y hy ht hL hp => hat.done t j y hy ht hL fun hka => ?_, hat.undone, fun j y hy hka hL hp => hat.pend j y hy hka hL ((hnq j y hy hka).1 hp), fun i j y z hy hz hka hkb hLi hLj hi hj => hat.inj i j y z hy hz hka hkb hLi hLj ((hnq i y hy hka).1 hi) ((hnq j z hz hkb).1 hj), fun b => ?_, hat.mks⟩
  · have := hp hka
    rcases Nat.lt_or_ge j p with h' | h'
    · exact h'
    · have := (hnq j y hy hka).2 h'; omega
  · rw [hat.x b]
    constructor
    · rintro (h | ⟨j, y, hy, hka, hL, hp, e⟩)
      · exact .inl h
      · exact .inr ⟨j, y, hy, hka, hL, (hnq j y hy hka).2 hp, e⟩
    · rintro (h | ⟨j, y, hy, hka, hL, hp, e⟩)
      · exact .inl h
      · exact .inr ⟨j, y, hy, hka, hL, (hnq j y hy hka).1 hp, e⟩

theorem compOp_alloc {op : Op} {ty esz : Nat} {es : List AV} (h : compOp P op = some (.alloc ty esz es)) : ∃ t, op = .alloc t ∧ compAlloc P t = some (.alloc ty esz es) := by
  unfold compOp at h
  split at h
  case h_4 t => exact ⟨t, rfl, h⟩
  all_goals (try (unfold compBuild at h))
  all_goals (try (unfold compMkSl at h))
  all_goals (try (unfold compBin at h))
  all_goals (try (unfold compConv at h))
  all_goals (try (unfold compSlice at h))
  all_goals (try (unfold compCall at h))
  all_goals (repeat' split at h)
  all_goals first
      | (cases h; done)
      | (rw [Option.map_eq_some_iff] at h; obtain ⟨_, _, h⟩ := h; cases h; done)
      | (rw [Option.bind_eq_some_iff] at h; obtain ⟨_, _, h⟩ := h; rw [Option.map_eq_some_iff] at h; obtain ⟨_, _, h⟩ := h; cases h; done)
      | (rw [Option.bind_eq_some_iff] at h; obtain ⟨_, _, h⟩ := h; rw [Option.bind_eq_some_iff] at h; obtain ⟨_, _, h⟩ := h; split at h <;> cases h; done)
      | (rw [Option.bind_eq_some_iff] at h; obtain ⟨_, _, h⟩ := h; split at h <;> cases h; done)

/-- a new variable, not yet an object -/
theorem alloc_fresh {c : Cx} {t : TypeId} {ty esz : Nat} {es : List AV} (hc : compAlloc P t = some (.alloc ty esz es)) (hok : okEls esz es = true) :
    ∃ arr, (Instr.alloc t true (.tuple #[])).run P c.w = .ok (.pointer (some ⟨c.w.heap.size, 0, none⟩)) (c.w.alloc (.cells arr ty)) ∧ CellsOK P c esz es arr := by
  unfold compAlloc at hc
  split at hc
  case h_2 => cases hc
  rename_i i d hi hd
  split at hc
  · cases hc
  rename_i z hz
  have fin : ty = t → CellsOK P c esz es z.cells → ∃ arr, (Instr.alloc t true (.tuple #[])).run P c.w = .ok (.pointer (some ⟨c.w.heap.size, 0, none⟩)) (c.w.alloc (.cells arr ty)) ∧ CellsOK P c esz es arr := by
    rintro rfl hcell
    refine ⟨z.cells, ?_, hcell⟩
    have hzv : (zeroValue ty).run P c.w = .ok z c.w := by simp [zeroValue, typeInfo, hi, hz]
    simp only [Instr.alloc, Sem.run_bind, hzv, Result.andThen_ok, newVar, newRow, run_newObj, Sem.run_pure]
    rfl
  have hrep := valAVf_rep P c 4
  split at hc
  · rename_i n e
    split at hc
    · rename_i ag sz htag
      split at hc
      · cases hc
      · rename_i hnn
        split at hc
        · rename_i hns
          cases hc
          refine fin rfl ⟨by simp [grp, hns], ?_⟩
          intro k e' j a hk hj
          have hcell := grp_flat (cells := z.cells.toList.map valAV) (by simpa using hns) (fun hag => by
            have := hnn
            simp only [hag, true_and, not_or, ne_eq, Decidable.not_not, Bool.not_eq_false] at this
            exact this) hk hj
          simp only [List.getElem?_map, Array.getElem?_toList, Option.map_eq_some_iff] at hcell
          obtain ⟨w, hw, rfl⟩ := hcell
          exact ⟨w, hw, hrep w⟩
        · cases hc
    · cases hc
  · cases hc
    have hok' : okEl i.size (valAV z) = true := by simpa [okEls] using hok
    refine fin rfl ?_
    have := CellsOK.of_news (rest := []) (NewsR.one hok' (hrep z))
    simpa using this

/-- behind an alloc -/
theorem At.alloc {ce : Cx} {ops : Array Oper} {ds : List Dc} (hlk : Look ops ds) {s sN : St} {listed : Array Bool} (hsz : listed.size = ops.size) {p : Nat} {c : Cx} {env : Env} {β : Nat → Nat} {a : Act} (hat : At P ce ds s sN listed p c env β a)
    {j : Nat} {d : Dc} (hd : ds[j]? = some d) (hk : d.kd = .a) (hno : ¬ Lst ds listed j) (hp : p ≤ j) {ty esz : Nat} {es : List AV} {t : Nat} (hop : d.oc.op = .alloc ty esz es) (ht : d.oc.dst = some t) {arr : Array Value} (hz : okEls esz es = true) (hcells : CellsOK P c esz es arr) :
    At P ce ds s sN (listed.setIfInBounds d.ix true) p ⟨c.H, c.m, c.clk, c.w.alloc (.cells arr ty), fun y => c.x y ∨ y = c.w.heap.size⟩ (env.set t .junk) (fun i => if i = j then c.w.heap.size else β i) (a.put (some t) (.pointer (some ⟨c.w.heap.size, 0, none⟩))) := by
  obtain ⟨h1, h2⟩ := Cx.le.reserve hat.hr (.cells arr ty)
  have hL := lst_set hlk hsz hd
  have hblt : ∀ (i : Nat) (y : Dc), ds[i]? = some y → y.kd = .a → Lst ds listed i → p ≤ i → β i < c.w.heap.size := by
    intro i y hy hka hLi hpi
    exact hat.hr.x _ ((hat.x _).2 (.inr ⟨i, y, hy, hka, hLi, hpi, rfl⟩))
  have hold : ∀ b, b < c.w.heap.size → (c.w.alloc (.cells arr ty)).heap[b]? = c.w.heap[b]? := fun b hb => by show (c.w.heap.push _)[b]? = _; simp [Array.getElem?_push, Nat.ne_of_lt hb]
  have hnew : (c.w.alloc (.cells arr ty)).heap[c.w.heap.size]? = some (.cells arr ty (0, 0)) := by show (c.w.heap.push _)[c.w.heap.size]? = _; simp
  refine ⟨hat.le.trans h1, h2, ?_, ?_, ?_, ?_, ?_, ?_, hat.mks.mono h1⟩
  · exact (hat.er.mono h1).put (.junk _) (some t)
  · intro t' i y hy hyt h hpi
    have hij : i ≠ j := by
      rintro rfl
      rw [hd] at hy; cases hy
      have := hpi hk; omega
    have hne : t ≠ t' := fun e => hlk.dst hy hd hij hyt (by rw [ht, e])
    rw [List.getElem?_set, if_neg hne]
    exact hat.done t' i y hy hyt (((hL i).1 h).resolve_right hij) hpi
  · intro t' h
    have hne : t ≠ t' := fun e => h j d hd (by rw [ht, e]) ((hL j).2 (.inr rfl))
    rw [List.getElem?_set, if_neg hne]
    exact hat.undone t' fun i y hy hyt hLi => h i y hy hyt ((hL i).2 (.inl hLi))
  · intro i y hy hka h hpi
    by_cases hij : i = j
    · subst hij
      rw [hd] at hy; cases hy
      simp only [if_true]
      refine ⟨⟨ty, esz, es, arr, t, hop, ht, hnew, hz, hcells.mono h1, .inr rfl, fun v hv => ?_⟩, fun hx => ?_⟩
      · have hlt : t < a.tmps.size := by
          have := (Array.getElem?_eq_some_iff.1 hv).1
          simpa [Act.put] using this
        simp only [Act.put, Array.getElem?_setIfInBounds, if_true, hlt] at hv
        cases hv; rfl
      · have := hat.hr.x _ ((hat.x _).2 (.inl hx)); omega
    · simp only [if_neg hij]
      have hLi := ((hL i).1 h).resolve_right hij
      obtain ⟨⟨ty', esz', es', arr', t', g1, g2, g3, g4, g5, g6, g7⟩, g8⟩ := hat.pend i y hy hka hLi hpi
      refine ⟨⟨ty', esz', es', arr', t', g1, g2, ?_, g4, g5.mono h1, .inl g6, fun v hv => g7 v ?_⟩, g8⟩
      · show (c.w.alloc (.cells arr ty)).heap[β i]? = _
        rw [hold _ (hblt i y hy hka hLi hpi)]; exact g3
      · rw [← put_other (a := a) (d := some t) (val := .pointer (some ⟨c.w.heap.size, 0, none⟩)) (fun e => hlk.dst hy hd hij g2 (by rw [ht]; exact e))]; exact hv
  · intro i k y z hy hz' hka hkb hi hk' hpi hpk e
    have hi' := (hL i).1 hi
    have hk'' := (hL k).1 hk'
    by_cases hij : i = j <;> by_cases hkj : k = j
    · omega
    · rw [if_pos hij, if_neg hkj] at e
      have := hblt k z hz' hkb (hk''.resolve_right hkj) hpk; omega
    · rw [if_neg hij, if_pos hkj] at e
      have := hblt i y hy hka (hi'.resolve_right hij) hpi; omega
    · rw [if_neg hij, if_neg hkj] at e
      exact hat.inj i k y z hy hz' hka hkb (hi'.resolve_right hij) (hk''.resolve_right hkj) hpi hpk e
  · intro b
    show (c.x b ∨ b = c.w.heap.size) ↔ _
    rw [hat.x b]
    constructor
    · rintro ((h | ⟨i, y, hy, hka, h, hpi, e⟩) | h)
      · exact .inl h
      · have hij : i ≠ j := by rintro rfl; exact hno h
        exact .inr ⟨i, y, hy, hka, (hL i).2 (.inl h), hpi, by rw [if_neg hij]; exact e⟩
      · exact .inr ⟨j, d, hd, hk, (hL j).2 (.inr rfl), hp, by rw [if_pos rfl]; exact h⟩
    · rintro (h | ⟨i, y, hy, hka, h, hpi, e⟩)
      · exact .inl (.inl h)
      · by_cases hij : i = j
        · rw [if_pos hij] at e; exact .inr e
        · rw [if_neg hij] at e
          exact .inl (.inr ⟨i, y, hy, hka, ((hL i).1 h).resolve_right hij, hpi, e⟩)

end
end Go.Ev
end

section
/- Drawn regions: one operation, whichever comes. -/
namespace Go.Ev

section
variable {P : Program} {w0 : World} {T : Tbl}

theorem compOper_dst {ops : Array Oper} {o : Oper} {oc : Oc} (h : compOper P ops o = some oc) : oc.dst = o.dst ∧ compOp' P o.op = some oc.op := by
  unfold compOper at h
  split at h
  · rename_i op hop _
    cases h; exact ⟨rfl, hop⟩
  · rename_i op j want hop _
    split at h
    · cases h; exact ⟨rfl, hop⟩
    · cases h
  · cases h

theorem ready_not {ops : Array Oper} {ds : List Dc} (_hlk : Look ops ds) {listed : Array Bool} {j : Nat} {d : Dc} (hd : ds[j]? = some d) (hr : d.ix ∈ Region.ready .any ops listed) : ¬ Lst ds listed j := by
  rintro ⟨y, hy, hl⟩
  rw [hd] at hy; cases hy
  have h := (mem_ready.1 hr).1
  cases hg : listed[d.ix]? with
  | none => simp [hg] at hl
  | some b => simp [hg] at hl h; rw [hl] at h; cases h

/-- behind an operation that is no effect -/
theorem DInv.same {ce : Cx} {ops : Array Oper} {ds : List Dc} (hlk : Look ops ds) {s sN : St} {sts : List St} {listed : Array Bool} {p : Nat} {a a' : Act} {w w' : World} (hI : DInv P ce ops ds s sN sts listed p a w)
    {j : Nat} {d : Dc} (hd : ds[j]? = some d) (hk : d.kd ≠ .e) (hdir : ∀ i ∈ direct ops ds d, Lst ds listed i) (htl : a'.tmps.size = a.tmps.size)
    (hctx : ∃ sp m x env β, sts[p]? = some sp ∧ At P ce ds s sN (listed.setIfInBounds d.ix true) p ⟨sp.H, m, sp.clk, w', x⟩ env β a') : DInv P ce ops ds s sN sts (listed.setIfInBounds d.ix true) p a' w' := by
  have hL := lst_set hlk hI.size hd
  refine ⟨by simp [hI.size], ?_, ?_, ?_, hI.front, by rw [htl, hI.tl], hctx⟩
  · intro i y hy h q hq
    rcases (hL i).1 h with h | rfl
    · exact (hL q).2 (.inl (hI.closed i y hy h q hq))
    · rw [hd] at hy; cases hy
      exact (hL q).2 (.inl (hdir q hq))
  · intro i y hy he
    have hij : i ≠ j := by rintro rfl; rw [hd] at hy; cases hy; exact hk he
    rw [hL i, or_iff_left hij]
    exact hI.eff i y hy he
  · intro i y hy hka hp
    exact (hL i).2 (.inl (hI.al i y hy hka hp))

theorem value_step {ce : Cx} (hB : Bs w0 ce) {ops : Array Oper} {ocs : List Oc} {ds : List Dc} (hlk : Look ops ds) (hcomp : compOpers P ops = some ocs) (hds : ds.mapM (fun d => (ocs[d.ix]?).map fun oc => { d with oc := oc }) = some ds)
    {s sN : St} {sts : List St} {n : Nat} (hrun : RunD T n ds s sts) (hN : sts[ds.length]? = some sN) (hst : stable ds sts = true) (hC : CallS P w0 T n) {listed : Array Bool} {p : Nat} {a : Act} {w : World} (hI : DInv P ce ops ds s sN sts listed p a w)
    {j : Nat} {d : Dc} (hd : ds[j]? = some d) (hr : d.ix ∈ Region.ready .any ops listed) (hk : d.kd = .v) {K : Act → World → Prop} {Q : Exit → Act → World → Prop} {r : Option Nat} {N : Nat}
    (hK : ∀ a w, DInv P ce ops ds s sN sts (listed.setIfInBounds d.ix true) p a w → K a w) : wpOpIn (FR r) N P ops Q d.ix K a w := by
  obtain ⟨o, ho, hoper⟩ := dc_oper hcomp hds hd
  obtain ⟨hdst, _⟩ := compOper_dst hoper
  obtain ⟨sp, m, x, env, β, hsp, hat⟩ := hI.ctx
  have hno := ready_not hlk hd hr
  have hdir := ready_direct hlk hd hr
  have hj : j < ds.length := (List.getElem?_eq_some_iff.1 hd).1
  obtain ⟨sj, hsj⟩ := hrun.get (j := j) (by omega)
  obtain ⟨sj1, hsj1⟩ := hrun.get (j := j + 1) (by omega)
  have hlook : ∀ t ∈ d.oc.looks, env[t]? = sj.env[t]? := fun t ht => hat.looks hlk hrun hN hI.closed hd hsj hno hdir (.inl hk) ht
  have hlen : env.length = sj.env.length := by rw [hat.er.1, hI.tl, hrun.envlen _ _ hsj]
  have hgo := looks_goes (oc := d.oc) (s := ⟨env, sp.H, sp.clk⟩) (s' := sj) hlook
  have hstep := hrun.step j d sj sj1 hd hsj hsj1
  have hne : d.kd ≠ .e := by rw [hk]; decide
  have hna : d.kd ≠ .a := by rw [hk]; decide
  have hlast : ∀ t, d.oc.dst = some t → sN.env[t]? = sj1.env[t]? := fun t ht => hrun.last hlk hN hd hsj1 ht
  unfold wpOpIn
  rw [ho]
  simp only []
  cases hg : goes sj d.oc.guard with
  | none => rcases hstep with ⟨h, _⟩ | ⟨h, _⟩ <;> rw [hg] at h <;> cases h
  | some b =>
    have hw : Region.wanted o (yielded ops a.tmps) = b := compOper_guard (s := ⟨env, sp.H, sp.clk⟩) hoper hat.er (by rw [hgo, hg])
    cases b with
    | false =>
      rw [hw, if_neg (by simp)]
      refine ⟨fun _ _ => trivial, hK _ _ (hI.same hlk hd hne hdir (put_size _ _ _) ⟨sp, m, x, (match d.oc.dst with | some t => env.set t .junk | none => env), β, hsp, ?_⟩)⟩
      rw [← hdst]
      have hsj1e : sj1 = putSt sj d.oc.dst .junk sj.H sj.clk := by
        rcases hstep with ⟨_, h⟩ | ⟨h, _⟩
        · exact h
        · rw [hg] at h; cases h
      refine hat.put hlk hI.size (Cx.le.refl _) hat.hr rfl hd hna (v := .junk) (hat.er.put (.junk _) d.oc.dst) fun t ht => ?_
      rw [hlast t ht, hsj1e]
      simp only [putSt, ht, List.getElem?_set, if_true, hlen]
    | true =>
      rw [hw, if_pos rfl]
      obtain ⟨v, hev, hset⟩ := value_now hlk hrun hst hsp hI.closed hI.eff hI.front hd hsj hsj1 hno hdir hk hg
      have hkind := hlk.kind j d hd
      simp only [okKind, hk] at hkind
      refine oper_wp' hC (hB.mono hat.le) hoper (c := ⟨sp.H, m, sp.clk, w, x⟩) (env := env) (v := v) (H' := sp.H) (clk' := sp.clk) hat.hr hat.er ?_ fun val w' m' k1 k2 k3 => ?_
      · split
        · rename_i f args hop
          rw [hop] at hkind; cases hkind
        · simp only []
          rw [looks_map hlook]; exact hev
      · refine hK _ _ (hI.same hlk hd hne hdir (put_size _ _ _) ⟨sp, m', x, (match d.oc.dst with | some t => env.set t v | none => env), β, hsp, ?_⟩)
        refine hat.put hlk hI.size k1 k2 rfl hd hna (v := v) k3 fun t ht => ?_
        rw [hlast t ht]
        exact hset t ht env hlen

theorem alloc_step {ce : Cx} {ops : Array Oper} {ocs : List Oc} {ds : List Dc} (hlk : Look ops ds) (hcomp : compOpers P ops = some ocs) (hds : ds.mapM (fun d => (ocs[d.ix]?).map fun oc => { d with oc := oc }) = some ds)
    {s sN : St} {sts : List St} {n : Nat} (hrun : RunD T n ds s sts) {listed : Array Bool} {p : Nat} {a : Act} {w : World} (hI : DInv P ce ops ds s sN sts listed p a w)
    {j : Nat} {d : Dc} (hd : ds[j]? = some d) (hr : d.ix ∈ Region.ready .any ops listed) (hk : d.kd = .a) {K : Act → World → Prop} {Q : Exit → Act → World → Prop} {r : Option Nat} {N : Nat}
    (hK : ∀ a w, DInv P ce ops ds s sN sts (listed.setIfInBounds d.ix true) p a w → K a w) : wpOpIn (FR r) N P ops Q d.ix K a w := by
  obtain ⟨o, ho, hoper⟩ := dc_oper hcomp hds hd
  obtain ⟨hdst, hcop⟩ := compOper_dst hoper
  obtain ⟨sp, m, x, env, β, hsp, hat⟩ := hI.ctx
  have hno := ready_not hlk hd hr
  have hdir := ready_direct hlk hd hr
  have hj : j < ds.length := (List.getElem?_eq_some_iff.1 hd).1
  obtain ⟨sj, hsj⟩ := hrun.get (j := j) (by omega)
  obtain ⟨sj1, hsj1⟩ := hrun.get (j := j + 1) (by omega)
  have hstep := hrun.step j d sj sj1 hd hsj hsj1
  have hne : d.kd ≠ .e := by rw [hk]; decide
  have hkind := hlk.kind j d hd
  have hkind' := hkind
  simp only [okKind, hk, Bool.and_eq_true] at hkind'
  obtain ⟨⟨hA, hG⟩, hD⟩ := hkind'
  obtain ⟨ty, esz, es, hop⟩ : ∃ ty esz es, d.oc.op = .alloc ty esz es := by
    cases hop : d.oc.op <;> rw [hop] at hA <;> simp [COp.isA] at hA
    exact ⟨_, _, _, rfl⟩
  obtain ⟨t, ht⟩ := Option.isSome_iff_exists.1 hD
  obtain ⟨hz, _⟩ := hstep.alloc hk hkind hop ht
  rw [hop] at hcop
  obtain ⟨t0, ho0, hca⟩ := compOp_alloc ((compOp'_some hcop).resolve_right (by simp))
  obtain ⟨arr, hrun0, hcells⟩ := alloc_fresh (c := ⟨sp.H, m, sp.clk, w, x⟩) hca hz
  have hp : p ≤ j := by
    rcases Nat.lt_or_ge j p with h | h
    · exact absurd (hI.al j d hd hk h) hno
    · exact h
  unfold wpOpIn
  rw [ho]
  simp only []
  have hg : goes (⟨env, sp.H, sp.clk⟩ : St) d.oc.guard = some true := by
    rw [Option.isNone_iff_eq_none] at hG
    rw [hG]; rfl
  have hw : Region.wanted o (yielded ops a.tmps) = true := compOper_guard (s := ⟨env, sp.H, sp.clk⟩) hoper hat.er hg
  rw [hw, if_pos rfl]
  refine ⟨fun _ _ => trivial, ?_⟩
  rw [Oper.semAt_eq _ _ _ (fun c => by rw [ho0]; simp)]
  have hex : (execOp a.eval o).run P w = .ok (.value (.pointer (some ⟨w.heap.size, 0, none⟩))) (w.alloc (.cells arr ty)) := by
    simp only [execOp, ho0]
    simp only [Sem.run_bind, hrun0, Result.andThen_ok, Sem.run_pure]
  rw [hex, Oper.uponIn_value, ← hdst, ht]
  refine hK _ _ (hI.same hlk hd hne hdir (put_size _ _ _) ⟨sp, m, fun y => x y ∨ y = w.heap.size, env.set t .junk, fun i => if i = j then w.heap.size else β i, hsp, ?_⟩)
  exact hat.alloc hlk hI.size hd hk hno hp hop ht hz hcells

theorem effect_step {ce : Cx} (hB : Bs w0 ce) {ops : Array Oper} {ocs : List Oc} {ds : List Dc} (hlk : Look ops ds) (hcomp : compOpers P ops = some ocs) (hds : ds.mapM (fun d => (ocs[d.ix]?).map fun oc => { d with oc := oc }) = some ds)
    {s sN : St} {sts : List St} {n : Nat} (hrun : RunD T n ds s sts) (hN : sts[ds.length]? = some sN) (hC : ∀ k, k ≤ n → CallS P w0 T k) {listed : Array Bool} {p : Nat} {a : Act} {w : World} (hI : DInv P ce ops ds s sN sts listed p a w)
    {j : Nat} {d : Dc} (hd : ds[j]? = some d) (hr : d.ix ∈ Region.ready .any ops listed) (hk : d.kd = .e) {K : Act → World → Prop} {Q : Exit → Act → World → Prop} {r : Option Nat} {N : Nat}
    (hK : ∀ a w, DInv P ce ops ds s sN sts (listed.setIfInBounds d.ix true) (j + 1) a w → K a w) : wpOpIn (FR r) N P ops Q d.ix K a w := by
  obtain ⟨o, ho, hoper⟩ := dc_oper hcomp hds hd
  obtain ⟨hdst, hcop⟩ := compOper_dst hoper
  obtain ⟨sp, m0, x0, env0, β, hsp, hat0⟩ := hI.ctx
  have hno := ready_not hlk hd hr
  have hdir := ready_direct hlk hd hr
  have hj : j < ds.length := (List.getElem?_eq_some_iff.1 hd).1
  have ha := ready_aheads hlk hI.closed hd hdir
  have hp : p ≤ j := by
    rcases Nat.lt_or_ge j p with h | h
    · exact absurd ((hI.eff j d hd hk).2 h) hno
    · exact h
  have hnon : d.kd ≠ .a := by rw [hk]; decide
  -- what stands between
  have hbetween : ∀ (q : Nat) (y : Dc), q < j → ds[q]? = some y → (y.kd = .e → q < p) ∧ (y.kd = .a → Lst ds listed q) := by
    intro q y hqj hy
    have hpair := hlk.pair q j y d hqj hy hd
    simp only [okPair, Bool.and_eq_true] at hpair
    have h1 := hpair.1.1
    constructor
    · intro he
      rw [he, hk] at h1
      simp only [List.contains_iff_mem] at h1
      exact (hI.eff q y hy he).1 (ha q h1)
    · intro hka
      rw [hka, hk] at h1
      simp only [List.contains_iff_mem] at h1
      exact ha q h1
  obtain ⟨sj, m, x, env, hsj, hat⟩ := At.upto hlk hrun hN (p := p) (by rw [hI.tl]) (j - p) (by omega) hsp hat0 (fun q y h1 h2 hy => by
    obtain ⟨g1, g2⟩ := hbetween q y (by omega) hy
    exact ⟨fun he => by have := g1 he; omega, g2⟩)
  rw [show p + (j - p) = j by omega] at hsj hat
  obtain ⟨sj1, hsj1⟩ := hrun.get (j := j + 1) (by omega)
  have hlook : ∀ t ∈ d.oc.looks, env[t]? = sj.env[t]? := fun t ht => hat.looks hlk hrun hN hI.closed hd hsj hno hdir (.inr rfl) ht
  have hlen : env.length = sj.env.length := by rw [hat.er.1, hI.tl, hrun.envlen _ _ hsj]
  have hgo := looks_goes (oc := d.oc) (s := ⟨env, sj.H, sj.clk⟩) (s' := sj) hlook
  have hstep := hrun.step j d sj sj1 hd hsj hsj1
  have hlast : ∀ t, d.oc.dst = some t → sN.env[t]? = sj1.env[t]? := fun t ht => hrun.last hlk hN hd hsj1 ht
  have hL := lst_set hlk hI.size hd
  -- behind it
  have fin : ∀ (a' : Act) (w' : World) (m' : Nat → Nat) (env' : Env), a'.tmps.size = a.tmps.size → At P ce ds s sN (listed.setIfInBounds d.ix true) j ⟨sj1.H, m', sj1.clk, w', x⟩ env' β a' →
      DInv P ce ops ds s sN sts (listed.setIfInBounds d.ix true) (j + 1) a' w' := by
    intro a' w' m' env' htl hat'
    refine ⟨by simp [hI.size], ?_, ?_, ?_, .inr ⟨d, by simpa using hd, hk, Nat.succ_pos _⟩, by rw [htl, hI.tl], ⟨sj1, m', x, env', β, hsj1, hat'.pass hd hnon⟩⟩
    · intro i y hy h q hq
      rcases (hL i).1 h with h | rfl
      · exact (hL q).2 (.inl (hI.closed i y hy h q hq))
      · rw [hd] at hy; cases hy
        exact (hL q).2 (.inl (hdir q hq))
    · intro i y hy he
      rw [hL i, hI.eff i y hy he]
      constructor
      · rintro (h | h) <;> omega
      · intro h
        rcases Nat.lt_or_ge i j with h' | h'
        · exact .inl ((hbetween i y h' hy).1 he)
        · exact .inr (by omega)
    · intro i y hy hka hi
      have hij : i ≠ j := by rintro rfl; rw [hd] at hy; cases hy; exact hnon hka
      exact (hL i).2 (.inl ((hbetween i y (by omega) hy).2 hka))
  unfold wpOpIn
  rw [ho]
  simp only []
  cases hg : goes sj d.oc.guard with
  | none => rcases hstep with ⟨h, _⟩ | ⟨h, _⟩ <;> rw [hg] at h <;> cases h
  | some b =>
    have hw : Region.wanted o (yielded ops a.tmps) = b := compOper_guard (s := ⟨env, sj.H, sj.clk⟩) hoper hat.er (by rw [hgo, hg])
    cases b with
    | false =>
      rw [hw, if_neg (by simp)]
      have hsj1e : sj1 = putSt sj d.oc.dst .junk sj.H sj.clk := by
        rcases hstep with ⟨_, h⟩ | ⟨h, _⟩
        · exact h
        · rw [hg] at h; cases h
      rw [← hdst]
      subst hsj1e
      refine ⟨fun _ _ => trivial, hK _ _ (fin _ _ m (match d.oc.dst with | some t => env.set t .junk | none => env) (put_size _ _ _) ?_)⟩
      refine hat.put hlk hI.size (Cx.le.refl _) hat.hr rfl hd hnon (v := .junk) (hat.er.put (.junk _) d.oc.dst) fun t ht => ?_
      rw [hlast t ht]
      simp only [putSt, ht, List.getElem?_set, if_true, hlen]
    | true =>
      rw [hw, if_pos rfl]
      obtain ⟨v, H', clk', k, hkn, hev, hsj1e⟩ : ∃ v H' clk' k, k ≤ n ∧ stepOp T k d.oc sj = some (v, H', clk') ∧ sj1 = putSt sj d.oc.dst v H' clk' := by
        rcases hstep with ⟨h, _⟩ | ⟨_, ⟨h, _⟩ | ⟨h, _⟩ | ⟨_, v, H', clk', k, h1, h2, h3⟩⟩
        · rw [hg] at h; cases h
        · rw [hk] at h; cases h
        · rw [hk] at h; cases h
        · exact ⟨v, H', clk', k, h1, h2, h3⟩
      subst hsj1e
      have hev' := hev
      rw [← looks_step (oc := d.oc) (s := ⟨env, sj.H, sj.clk⟩) (s' := sj) hlook rfl rfl] at hev'
      unfold stepOp at hev'
      refine oper_wp' (hC k hkn) (hB.mono hat.le) hoper (c := ⟨sj.H, m, sj.clk, w, x⟩) (env := env) hat.hr hat.er hev' fun val w' m' k1 k2 k3 => ?_
      refine hK _ _ (fin _ _ m' (match d.oc.dst with | some t => env.set t v | none => env) (put_size _ _ _) ?_)
      refine hat.put hlk hI.size k1 k2 rfl hd hnon (v := v) k3 fun t ht => ?_
      rw [hlast t ht]
      simp only [putSt, ht, List.getElem?_set, if_true, hlen]

end
end Go.Ev
end

section
/- Drawn regions: every order comes to what the reckoned one comes to. -/
namespace Go.Ev

section
variable {P : Program} {w0 : World} {T : Tbl}

theorem all_listed {ce : Cx} {ops : Array Oper} {ds : List Dc} (hlk : Look ops ds) {s sN : St} {sts : List St} {listed : Array Bool} {p : Nat} {a : Act} {w : World} (hI : DInv P ce ops ds s sN sts listed p a w)
    (hr : Region.ready .any ops listed = []) : ∀ (j : Nat) d, ds[j]? = some d → Lst ds listed j := by
  intro j
  induction j using Nat.strongRecOn with
  | _ j ih =>
    intro d hd
    by_cases h : Lst ds listed j
    · exact h
    · have := direct_ready hlk hI.size hd h (fun i hi => by
        have hlt := hlk.direct j d hd i hi
        have hj : j < ds.length := (List.getElem?_eq_some_iff.1 hd).1
        exact ih i hlt _ (List.getElem?_eq_getElem (by omega)))
      rw [hr] at this; cases this

theorem dinv_done {ce : Cx} {ops : Array Oper} {ds : List Dc} (hlk : Look ops ds) {s sN : St} {sts : List St} {n : Nat} (hrun : RunD T n ds s sts) (hN : sts[ds.length]? = some sN) {listed : Array Bool} {p : Nat} {a : Act} {w : World}
    (hI : DInv P ce ops ds s sN sts listed p a w) (hr : Region.ready .any ops listed = []) : StR P ce sN a w := by
  have hall := all_listed hlk hI hr
  obtain ⟨sp, m0, x0, env0, β, hsp, hat0⟩ := hI.ctx
  have hp : p ≤ ds.length := by have := (List.getElem?_eq_some_iff.1 hsp).1; rw [hrun.len] at this; omega
  obtain ⟨sq, m, x, env, hsq, hat⟩ := At.upto hlk hrun hN (p := p) (by rw [hI.tl]) (ds.length - p) (by omega) hsp hat0 (fun q y h1 h2 hy =>
    ⟨fun he => by have := (hI.eff q y hy he).1 (hall q y hy); omega, fun _ => hall q y hy⟩)
  rw [show p + (ds.length - p) = ds.length by omega] at hsq hat
  rw [hN] at hsq; cases hsq
  have hx : x = ce.x := by
    funext b
    refine propext ⟨fun h => ?_, fun h => (hat.x b).2 (.inl h)⟩
    rcases (hat.x b).1 h with h | ⟨j, d, hd, _, _, hj, _⟩
    · exact h
    · have := (List.getElem?_eq_some_iff.1 hd).1; omega
  have henv : env = sN.env := by
    apply List.ext_getElem?
    intro t
    by_cases hw : ∃ (i : Nat) (y : Dc), ds[i]? = some y ∧ y.oc.dst = some t
    · obtain ⟨i, y, hy, hyt⟩ := hw
      exact hat.done t i y hy hyt (hall i y hy) (fun _ => (List.getElem?_eq_some_iff.1 hy).1)
    · rw [hat.undone t fun i y hy hyt => absurd ⟨i, y, hy, hyt⟩ hw]
      exact (hrun.env (t := t) hrun.head ds.length sN (by rw [Nat.zero_add]; exact hN) (fun q y _ _ hy hyt => hw ⟨q, y, hy, hyt⟩)).symm
  subst hx
  subst henv
  exact ⟨m, hat.le, hat.hr, hat.er, hat.mks⟩

theorem dinv_any {ce : Cx} (hB : Bs w0 ce) {ops : Array Oper} {ocs : List Oc} {ds : List Dc} (hlk : Look ops ds) (hcomp : compOpers P ops = some ocs) (hds : ds.mapM (fun d => (ocs[d.ix]?).map fun oc => { d with oc := oc }) = some ds)
    {s sN : St} {sts : List St} {n : Nat} (hrun : RunD T n ds s sts) (hN : sts[ds.length]? = some sN) (hst : stable ds sts = true) (hC : ∀ k, k ≤ n → CallS P w0 T k) (r : Option Nat) (N : Nat) :
    ∀ (fuel : Nat) (listed : Array Bool) (p : Nat) (a : Act) (w : World), listed.toList.countP (! ·) ≤ fuel → DInv P ce ops ds s sN sts listed p a w → wpAnyIn (FR r) N P .any ops (Post P ce .normal sN) fuel listed a w := by
  intro fuel
  induction fuel with
  | zero =>
    intro listed p a w hc hI
    have hr : Region.ready .any ops listed = [] := by
      rw [List.eq_nil_iff_forall_not_mem]
      intro i hi
      obtain ⟨h1, o, ho, _⟩ := mem_ready.1 hi
      have hlt : i < listed.size := by rw [hI.size]; exact (Array.getElem?_eq_some_iff.1 ho).1
      have h0 : listed.toList.countP (! ·) = 0 := by omega
      rw [List.countP_eq_zero] at h0
      have := h0 listed[i] (by simp)
      simp [hlt] at h1
      rw [h1] at this; simp at this
    exact ⟨hr, rfl, dinv_done hlk hrun hN hI hr⟩
  | succ fuel ih =>
    intro listed p a w hc hI
    refine ⟨fun hr => ⟨rfl, dinv_done hlk hrun hN hI hr⟩, fun i hi => ?_⟩
    obtain ⟨h1, o, ho, _⟩ := mem_ready.1 hi
    have hio : i < ops.size := (Array.getElem?_eq_some_iff.1 ho).1
    have hlt : i < listed.size := by rw [hI.size]; exact hio
    obtain ⟨j, d, hd, rfl⟩ := hlk.onto hio
    have hcount : (listed.setIfInBounds d.ix true).toList.countP (! ·) ≤ fuel := by
      rw [Array.toList_setIfInBounds, List.countP_set (by simpa using hlt)]
      simp [hlt] at h1
      simp only [Array.getElem_toList, h1]
      have hpos : 0 < listed.toList.countP (! ·) := by
        rw [List.countP_pos_iff]
        exact ⟨listed[d.ix], by simp, by simp [h1]⟩
      simp only [Bool.not_false, Bool.not_true, if_true, Bool.false_eq_true, if_false, Nat.add_zero]
      omega
    cases hk : d.kd with
    | v => exact value_step hB hlk hcomp hds hrun hN hst (hC n (Nat.le_refl _)) hI hd hi hk fun a w h => ih _ p a w hcount h
    | a => exact alloc_step hlk hcomp hds hrun hI hd hi hk fun a w h => ih _ p a w hcount h
    | e => exact effect_step hB hlk hcomp hds hrun hN hC hI hd hi hk fun a w h => ih _ (j + 1) a w hcount h

theorem dregS (hm : P.follows .mixedOrders = true) : DregS P w0 T := by
  intro n r N ce id ops ocs ds s sts s' a w hB hC hcomp hds hok hev hstab hlast hst
  have hlk := Look.of hok
  have hrun := RunD.of hev
  have hN : sts[ds.length]? = some s' := by
    rw [List.getLast?_eq_getElem?, hrun.len] at hlast
    simpa using hlast
  obtain ⟨m, hle, hH, he, hmk⟩ := hst
  obtain ⟨k1, k2⟩ := Cx.le.world (c := ⟨s.H, m, s.clk, w, ce.x⟩) hH (w' := { w with drawn := w.drawn + 1 }) ⟨rfl, rfl, rfl⟩ (Nat.le_refl _) (fun _ _ => rfl)
  refine wpIn_region_any hm ?_
  have hno : ∀ i, ¬ Lst ds (Array.replicate ops.size false) i := by
    rintro i ⟨d, _, h⟩
    simp only [Array.getD, Array.size_replicate] at h
    split at h
    · simp at h
    · cases h
  refine dinv_any hB hlk hcomp hds hrun hN hstab hC r N ops.size _ 0 a _ ?_ ⟨by simp, fun j d _ h => absurd h (hno j), fun j d _ _ => ⟨fun h => absurd h (hno j), fun h => absurd h (by omega)⟩, fun j d _ _ h => absurd h (by omega), .inl rfl, he.1.symm, s, m, ce.x, s.env, fun _ => 0, hrun.head, ?_⟩
  · refine Nat.le_trans List.countP_le_length ?_
    simp
  · refine ⟨hle.trans k1, k2, he.mono k1, fun t j d _ _ h _ => absurd h (hno j), fun t _ => rfl, fun j d _ _ h _ => absurd h (hno j), fun i j x y _ _ _ _ h _ _ _ _ => absurd h (hno i), fun b => ⟨.inl, ?_⟩, hmk.mono k1⟩
    rintro (h | ⟨j, d, _, _, h, _⟩)
    · exact h
    · exact absurd h (hno j)

end
end Go.Ev
end

section
/- Ranges over functions: the context between two rounds. -/
namespace Go.Ev

section
variable {P : Program} {T : Tbl}

/-- a block that is no cells, the same one in both, is turned in both -/
theorem Cx.le.put2 {c c' : Cx} (hle : c.le c') (hH' : HR P c') {l : Nat} {r : Loop} (o : Obj) (hl : c.w.heap[l]? = some (.loop r)) (hst : c.Still l) : ({ c with w := c.w.putObj l o } : Cx).le { c' with w := c'.w.putObj l o } := by
  have hl' : c'.w.heap[l]? = some (.loop r) := by rw [hle.still l hst.1 hst.2.1 (fun h => absurd h hst.2.2)]; exact hl
  refine ⟨by simp only [World.putObj_size]; exact hle.size, fun b hb ho hx => ?_, fun b hb => ?_, hle.clk, fun i ep z he h => ?_, fun b hb => ?_, hle.os, hle.tape, hle.output⟩
  · simp only [World.putObj_size] at hb
    by_cases e : b = l
    · subst e
      show (c'.w.putObj b o).heap[b]? = (c.w.putObj b o).heap[b]?
      rw [World.putObj_heap_same (Nat.lt_of_lt_of_le hb hle.size), World.putObj_heap_same hb]
    · show (c'.w.putObj l o).heap[b]? = (c.w.putObj l o).heap[b]?
      rw [World.putObj_heap_other e, World.putObj_heap_other e]
      exact hle.still b hb ho hx
  · simp only [World.putObj_size]; exact hle.own b hb
  · obtain ⟨h1, h2, h3⟩ := hle.live i ep z he h
    refine ⟨h1, h2, ?_⟩
    obtain ⟨r', hi, _, _⟩ := sig_some (show sig c'.H i ep = some z from h)
    obtain ⟨arr, fz, hb, _⟩ := (hH'.var i r' hi).cells
    have hne : c.m i ≠ l := by
      intro e
      rw [h2, e, hl'] at hb; cases hb
    have e1 : bsize (c'.w.putObj l o) (c.m i) = bsize c'.w (c.m i) := by unfold bsize; rw [World.putObj_heap_other hne]
    have e2 : bsize (c.w.putObj l o) (c.m i) = bsize c.w (c.m i) := by unfold bsize; rw [World.putObj_heap_other hne]
    show bsize (c'.w.putObj l o) (c.m i) = bsize (c.w.putObj l o) (c.m i)
    rw [e1, e2]; exact h3
  · simp only [World.putObj_size]; exact hle.x b hb

structure RCtx (P : Program) (ce c1 : Cx) (a : Act) (D : Nat) (W : World) (env : Env) (H : Heap) (clk : Nat) (m : Nat → Nat) : Prop where
  le : ce.le ⟨H, m, clk, W, ce.x⟩
  hr : HR P ⟨H, m, clk, W, ce.x⟩
  er : EnvR P ⟨H, m, clk, W, ce.x⟩ env a.tmps
  mks : Marks ce.w.heap.size ⟨H, m, clk, W, ce.x⟩ a.defers
  st : ∀ b, c1.Still b → (⟨H, m, clk, W, ce.x⟩ : Cx).Still b ∧ W.heap[b]? = c1.w.heap[b]?
  d : (⟨H, m, clk, W, ce.x⟩ : Cx).Still D ∧ W.heap[D]? = some (.deferred (some []))
  l : (⟨H, m, clk, W, ce.x⟩ : Cx).Still (D + 1) ∧ ∃ r, W.heap[D + 1]? = some (.loop r)
  lt : ce.w.heap.size ≤ D
  lt1 : c1.w.heap.size = D

/-- the loop's record is turned; more blocks -/
theorem RCtx.move {ce c1 : Cx} {a : Act} {D : Nat} {W W' : World} {env : Env} {H : Heap} {clk : Nat} {m : Nat → Nat} (h : RCtx P ce c1 a D W env H clk m) (hsz : W.heap.size ≤ W'.heap.size)
    (hb : ∀ b, b < W.heap.size → b ≠ D + 1 → W'.heap[b]? = W.heap[b]?) (hs : Same W W') (hl : ∃ r, W'.heap[D + 1]? = some (.loop r)) : RCtx P ce c1 a D W' env H clk m := by
  obtain ⟨⟨hl1, hl2, hl3⟩, r, hr⟩ := h.l
  have hc : ∀ (b : Nat) arr ty fz, W.heap[b]? = some (Obj.cells arr ty fz) → W'.heap[b]? = W.heap[b]? := by
    intro b arr ty fz hbc
    refine hb b (Array.getElem?_eq_some_iff.1 hbc).1 fun e => ?_
    rw [e, hr] at hbc; cases hbc
  have hst : ∀ b, (⟨H, m, clk, W, ce.x⟩ : Cx).Still b → (⟨H, m, clk, W', ce.x⟩ : Cx).Still b := fun b hb => ⟨Nat.lt_of_lt_of_le hb.1 hsz, hb.2.1, hb.2.2⟩
  refine ⟨Cx.le.turn (c := ⟨H, m, clk, W, ce.x⟩) h.le h.hr hsz hc hs (fun b hb' => hb b (Nat.lt_of_lt_of_le hb' h.le.size) (by have := h.lt; omega)), HR.turn (c := ⟨H, m, clk, W, ce.x⟩) h.hr hsz hc,
    ⟨h.er.1, fun i x v hx hv => Rep.turn (c := ⟨H, m, clk, W, ce.x⟩) h.hr hsz hc (h.er.2 i x v hx hv)⟩, ?_, fun b hb' => ?_, ?_, ⟨hst _ h.l.1, hl⟩, h.lt, h.lt1⟩
  · obtain ⟨rs, g1, g2, g3⟩ := h.mks
    refine ⟨rs, g1, g2, fun q hq => ?_⟩
    obtain ⟨k1, k2, k3⟩ := g3 q hq
    refine ⟨k1, hst q k2, ?_⟩
    show W'.heap[q]? = _
    rw [hb q k2.1 (fun e => by
      have k3' : W.heap[q]? = some (.deferred (some [])) := k3
      rw [e, hr] at k3'; cases k3')]
    exact k3
  · obtain ⟨k1, k2⟩ := h.st b hb'
    refine ⟨hst b k1, ?_⟩
    rw [hb b k1.1 (by have := hb'.1; have := h.lt1; omega)]; exact k2
  · refine ⟨hst _ h.d.1, ?_⟩
    rw [hb D h.d.1.1 (by omega)]; exact h.d.2

theorem RCtx.put {ce c1 : Cx} {a : Act} {D : Nat} {W : World} {env : Env} {H : Heap} {clk : Nat} {m : Nat → Nat} (h : RCtx P ce c1 a D W env H clk m) (r : Loop) : RCtx P ce c1 a D (W.putObj (D + 1) (.loop r)) env H clk m :=
  h.move (by rw [World.putObj_size]; exact Nat.le_refl _) (fun b _ hb => World.putObj_heap_other hb) ⟨rfl, rfl, rfl⟩ ⟨r, World.putObj_heap_same h.l.1.1⟩

/-- code has run -/
theorem RCtx.run {ce c1 : Cx} {a : Act} {D : Nat} {W W' : World} {env : Env} {H H' : Heap} {clk clk' : Nat} {m m' : Nat → Nat} (h : RCtx P ce c1 a D W env H clk m) (hle : (⟨H, m, clk, W, ce.x⟩ : Cx).le ⟨H', m', clk', W', ce.x⟩) (hr : HR P ⟨H', m', clk', W', ce.x⟩) :
    RCtx P ce c1 a D W' env H' clk' m' := by
  have hb : ∀ b, (⟨H, m, clk, W, ce.x⟩ : Cx).Still b → W'.heap[b]? = W.heap[b]? := fun b hb => hle.still b hb.1 hb.2.1 (fun h => absurd h hb.2.2)
  refine ⟨h.le.trans hle, hr, h.er.mono hle, h.mks.mono hle, fun b hb' => ?_, ⟨hle.stillB h.d.1, by rw [hb D h.d.1]; exact h.d.2⟩, ⟨hle.stillB h.l.1, by rw [hb _ h.l.1]; exact h.l.2⟩, h.lt, h.lt1⟩
  obtain ⟨k1, k2⟩ := h.st b hb'
  exact ⟨hle.stillB k1, by rw [hb b k1]; exact k2⟩

theorem RCtx.norm {ce c1 : Cx} {a : Act} {D : Nat} {W : World} {env env' : Env} {H H' : Heap} {clk clk' : Nat} {m : Nat → Nat} (h : RCtx P ce c1 a D W env H clk m) {h0 : Nat} (hn : norm h0 ce.clk env H = (env', H', clk')) : RCtx P ce c1 a D W env' H' clk' m := by
  obtain ⟨k1, k2, k3, k4, k5⟩ := norm_sound' (ce := ce) (c := ⟨H, m, clk, W, ce.x⟩) h.hr h.le hn
  have hst : ∀ b, (⟨H, m, clk, W, ce.x⟩ : Cx).Still b → (⟨H', m, clk', W, ce.x⟩ : Cx).Still b := fun b hb => ⟨hb.1, fun ho => hb.2.1 (k5 b ho), hb.2.2⟩
  refine ⟨k1, k2, ⟨by rw [k3]; exact h.er.1, fun i x v hx hv => ?_⟩, ?_, fun b hb => ⟨hst b (h.st b hb).1, (h.st b hb).2⟩, ⟨hst _ h.d.1, h.d.2⟩, ⟨hst _ h.l.1, h.l.2⟩, h.lt, h.lt1⟩
  · have hil : i < env.length := by rw [h.er.1]; exact (Array.getElem?_eq_some_iff.1 hv).1
    obtain ⟨a', ha', hr'⟩ := k4 i _ v (List.getElem?_eq_getElem hil) (h.er.2 i _ v (List.getElem?_eq_getElem hil) hv)
    rw [hx] at ha'; cases ha'
    exact hr'
  · obtain ⟨rs, g1, g2, g3⟩ := h.mks
    exact ⟨rs, g1, g2, fun q hq => let ⟨a1, a2, a3⟩ := g3 q hq; ⟨a1, hst q a2, a3⟩⟩

end
end Go.Ev
end

section
/- Ranges over functions are sound. -/
namespace Go.Ev

section
variable {P : Program} {w0 : World} {T : Tbl}

theorem evRounds_nil {n h0 c0 : Nat} {ps : List Nat} {ca cb : CC} {env : Env} {H : Heap} {clk : Nat} {r : Ex × St} (h : evRounds T n h0 c0 ps ca cb env [] H clk = some r) : r = (.normal, { env, H, clk }) := by
  cases n with
  | zero => rw [evRounds] at h; cases h
  | succ n => rw [evRounds] at h; cases h; rfl

theorem evRounds_cons {n h0 c0 : Nat} {ps : List Nat} {ca cb : CC} {env : Env} {it : List AV} {its : List (List AV)} {H : Heap} {clk : Nat} {ex : Ex} {s' : St} (h : evRounds T n h0 c0 ps ca cb env (it :: its) H clk = some (ex, s')) :
    ∃ k s1, n = k + 1 ∧ evCode T k H.length clk ca { env := setAll env ps it, H, clk } = some (.normal, s1) ∧
      ((∃ s2 env' H' clk', evCode T k H.length clk cb s1 = some (.normal, s2) ∧ norm h0 c0 env s2.H = (env', H', clk') ∧ evRounds T k h0 c0 ps ca cb env' its H' clk' = some (ex, s')) ∨
       (∃ e s2, e ≠ .normal ∧ evCode T k H.length clk cb s1 = some (e, s2) ∧ ex = e ∧ s' = { env, H := s2.H, clk := s2.clk })) := by
  cases n with
  | zero => rw [evRounds] at h; cases h
  | succ k =>
    rw [evRounds] at h
    split at h
    case h_2 => cases h
    rename_i s1 hs1
    refine ⟨k, s1, rfl, hs1, ?_⟩
    split at h
    · rename_i s2 hs2
      generalize hn : norm h0 c0 env s2.H = t at h
      obtain ⟨env', H', clk'⟩ := t
      exact .inl ⟨s2, env', H', clk', hs2, hn, h⟩
    · rename_i e s2 hne hs2
      cases h
      exact .inr ⟨_, s2, fun e => hne (by rw [e]), hs2, rfl, rfl⟩
    · cases h

/-- the jump that a round leaves by -/
inductive Jump : Ex → Code → Prop
  | ret : Jump .ret .ret
  | exit (id : Nat) : Jump (.exit id) (.exit id)

theorem EnvR.turn {c : Cx} (hH : HR P c) {w' : World} (hsz : c.w.heap.size ≤ w'.heap.size) (hc : ∀ (b : Nat) arr ty fz, c.w.heap[b]? = some (Obj.cells arr ty fz) → w'.heap[b]? = c.w.heap[b]?) {env : Env} {tmps : Array Value} (h : EnvR P c env tmps) :
    EnvR P { c with w := w' } env tmps := ⟨h.1, fun i x v hx hv => (h.2 i x v hx hv).turn hH hsz hc⟩

theorem rfunS (hT : TOK P w0 T) : RfunS P w0 T := by
  intro n N ce f ps x y live ca cb s ex s' a w hB hS hrx hry hps hca hcb h hst
  rw [evCode] at h
  split at h
  case h_2 => cases h
  rename_i fi caps hfi
  split at h
  case h_2 => cases h
  rename_i k hk
  simp only [] at h
  split at h
  case h_2 => cases h
  rename_i its hits
  obtain ⟨m, hle, hH, he, hmk⟩ := hst
  have hfr := evR_rep he f
  rw [hfi] at hfr
  obtain ⟨vs, hfv, hvl, hvr⟩ := hfr.fn_inv
  obtain ⟨g1, g2⟩ := Cx.le.freezes (c := ⟨s.H, m, s.clk, w, ce.x⟩) hH (refsL caps)
  generalize hH1 : freeze s.H (refsL caps) = H1 at h hits
  simp only [hH1] at g1 g2
  have hargs : ArgsR P ⟨H1, m, s.clk, w, ce.x⟩ caps vs := ⟨hvl, fun k a v h1 h2 => (hvr k a v h1 h2).mono g1⟩
  obtain ⟨encs, henc, hent, hiter⟩ := hT.iter fi k hk ⟨H1, m, s.clk, w, ce.x⟩ caps vs its g2 hargs hits
  generalize henv0 : (s.env.zipIdx.map fun (v, i) => if live.contains i then v else .junk) = env0 at h
  have he0 : EnvR P ⟨H1, m, s.clk, w, ce.x⟩ env0 a.tmps := by
    have he' := he.mono g1
    subst henv0
    refine ⟨by simp [he'.1], fun i x v hx hv => ?_⟩
    have hil : i < s.env.length := by rw [he.1]; exact (Array.getElem?_eq_some_iff.1 hv).1
    simp [hil] at hx
    subst hx
    split
    · exact he'.2 i _ v (List.getElem?_eq_getElem hil) hv
    · exact .junk v
  obtain ⟨p0, rfl⟩ : ∃ p0, ps = #[p0] := by
    obtain ⟨l⟩ := ps
    match l, hps with
    | [p0], _ => exact ⟨p0, rfl⟩
  refine wpIn_rangeFunc ?_
  intro fn hfn
  obtain ⟨rec, hrec⟩ : ∃ rec : LoopState → Option Code → Loop, rec = fun st pe => { state := st, pending := pe, fn, tmps := a.tmps, params := #[p0], assign := x, body := y, defers := w.heap.size } := ⟨_, rfl⟩
  obtain ⟨W1, hW1⟩ : ∃ W1, (w.alloc (.deferred (some []))).alloc (.loop (rec .ready none)) = W1 := ⟨_, rfl⟩
  have hW1sz : W1.heap.size = w.heap.size + 2 := by rw [← hW1]; simp
  have hL1 : W1.heap[w.heap.size + 1]? = some (.loop (rec .ready none)) := by
    rw [← hW1]; have := World.alloc_heap_new (w.alloc (.deferred (some []))) (.loop (rec .ready none)); rwa [World.size_alloc] at this
  have hpush : ∀ (w : World) (o : Obj) (b : Nat), b < w.heap.size → (w.alloc o).heap[b]? = w.heap[b]? := fun w o b hb => by show (w.heap.push o)[b]? = _; simp [Array.getElem?_push, Nat.ne_of_lt hb]
  have hD1 : W1.heap[w.heap.size]? = some (.deferred (some [])) := by
    rw [← hW1, hpush _ _ _ (by simp)]; exact World.alloc_heap_new w _
  have hold : ∀ b, b < w.heap.size → W1.heap[b]? = w.heap[b]? := fun b hb => by
    rw [← hW1, hpush _ _ _ (by simp; omega), hpush _ _ _ hb]
  have hsame1 : Same w W1 := by rw [← hW1]; exact ⟨rfl, rfl, rfl⟩
  have hcells1 : ∀ (b : Nat) arr ty fz, w.heap[b]? = some (Obj.cells arr ty fz) → W1.heap[b]? = w.heap[b]? := fun b arr ty fz hb => hold b (Array.getElem?_eq_some_iff.1 hb).1
  have hsz1 : w.heap.size ≤ W1.heap.size := by omega
  -- the context at the start
  have hownlt : ∀ b, (⟨H1, m, s.clk, w, ce.x⟩ : Cx).Own b → b < w.heap.size := fun b hb => HR.own_lt g2 hb
  have hxlt : ∀ b, ce.x b → b < w.heap.size := fun b hb => g2.x b hb
  have hstart : RCtx P ce ⟨H1, m, s.clk, w, ce.x⟩ a w.heap.size W1 env0 H1 s.clk m := by
    refine ⟨Cx.le.turn (c := ⟨H1, m, s.clk, w, ce.x⟩) (hle.trans g1) g2 hsz1 hcells1 hsame1 (fun b hb => hold b (Nat.lt_of_lt_of_le hb hle.size)), HR.turn (c := ⟨H1, m, s.clk, w, ce.x⟩) g2 hsz1 hcells1, EnvR.turn (c := ⟨H1, m, s.clk, w, ce.x⟩) g2 hsz1 hcells1 he0, ?_, fun b hb => ⟨⟨Nat.lt_of_lt_of_le hb.1 hsz1, hb.2.1, hb.2.2⟩, hold b hb.1⟩, ⟨⟨by show _ < W1.heap.size; omega, fun ho => ?_, fun hx => ?_⟩, hD1⟩, ⟨⟨by show _ < W1.heap.size; omega, fun ho => ?_, fun hx => ?_⟩, _, hL1⟩, hle.size, rfl⟩
    · obtain ⟨rs, q1, q2, q3⟩ := hmk.mono g1
      refine ⟨rs, q1, q2, fun r hr => ?_⟩
      obtain ⟨k1, k2, k3⟩ := q3 r hr
      exact ⟨k1, ⟨Nat.lt_of_lt_of_le k2.1 hsz1, k2.2.1, k2.2.2⟩, by show W1.heap[r]? = _; rw [hold r k2.1]; exact k3⟩
    · exact absurd (hownlt _ ho) (Nat.lt_irrefl _)
    · exact absurd (hxlt _ hx) (Nat.lt_irrefl _)
    · have := hownlt _ ho; omega
    · have := hxlt _ hx; omega
  -- between two rounds; behind one that has left
  obtain ⟨J, hJ⟩ : ∃ J : Nat → World → Prop, J = fun j W => ∃ n' env H clk m', n' ≤ n ∧ evRounds T n' ce.H.length ce.clk [p0] ca cb env (its.drop j) H clk = some (ex, s') ∧
      RCtx P ce ⟨H1, m, s.clk, w, ce.x⟩ a w.heap.size W env H clk m' ∧ W.heap[w.heap.size + 1]? = some (.loop (rec .ready none)) := ⟨_, rfl⟩
  obtain ⟨Jx, hJx⟩ : ∃ Jx : Nat → World → Prop, Jx = fun _ W => ∃ env H clk m' code, Jump ex code ∧ s' = { env, H, clk } ∧
      RCtx P ce ⟨H1, m, s.clk, w, ce.x⟩ a w.heap.size W env H clk m' ∧ W.heap[w.heap.size + 1]? = some (.loop (rec .done (some code))) := ⟨_, rfl⟩
  have hlread : ∀ {W : World} {env : Env} {H : Heap} {clk : Nat} {m' : Nat → Nat}, RCtx P ce ⟨H1, m, s.clk, w, ce.x⟩ a w.heap.size W env H clk m' → w.heap.size + 1 < W.heap.size := fun h => h.l.1.1
  refine ⟨w.heap.size + 1, [markOf w.heap.size], W1, { target := .fn (.func fi) vs, args := #[.func (.yield (w.heap.size + 1)) #[] #[]] }, W1, fi, #[.func (.yield (w.heap.size + 1)) #[] #[]] ++ vs, W1, ?_, ?_, fun _ _ => trivial, ?_, fun h => (by cases h), ?_⟩
  · rw [← hW1, hrec]; exact run_enterLoop_outer _ _ _ _ _
  · simp only [resolve, hfv]
    simp [go_sem]
  · simp [invoke, go_sem, hent]
  · refine (hiter (N - 1) (w.heap.size + 1) J Jx W1 (fun b hb => hold b hb.1) ?_ ?_ ?_ ?_).mono ?_
    · -- more blocks
      intro j W W' hj hs hsz hb
      rw [hJ] at hj ⊢
      obtain ⟨n', env, H, clk, m', h1, h2, h3, h4⟩ := hj
      have h4' : W'.heap[w.heap.size + 1]? = some (.loop (rec .ready none)) := by rw [hb _ (hlread h3)]; exact h4
      exact ⟨n', env, H, clk, m', h1, h2, h3.move hsz (fun b hb' _ => hb b hb') hs ⟨_, h4'⟩, h4'⟩
    · intro j W W' hj hs hsz hb
      rw [hJx] at hj ⊢
      obtain ⟨env, H, clk, m', code, h1, h2, h3, h4⟩ := hj
      have h4' : W'.heap[w.heap.size + 1]? = some (.loop (rec .done (some code))) := by rw [hb _ (hlread h3)]; exact h4
      exact ⟨env, H, clk, m', code, h1, h2, h3.move hsz (fun b hb' _ => hb b hb') hs ⟨_, h4'⟩, h4'⟩
    · -- one round
      intro M j W hj hlt
      rw [hJ] at hj
      obtain ⟨n', env, H, clk, m', hn', hev, hcx, hl⟩ := hj
      have hit := List.getElem?_eq_getElem hlt
      obtain ⟨ax, av, hax, hav, hacl, harep⟩ := henc j _ hit
      have hdrop : its.drop j = [ax] :: its.drop (j + 1) := by
        rw [List.drop_eq_getElem_cons hlt, hax]
      rw [hdrop] at hev
      obtain ⟨k', s1, rfl, hev1, hev2⟩ := evRounds_cons hev
      have hk' : k' ≤ n := by omega
      have hset : setAll env [p0] [ax] = env.set p0 ax := by simp [setAll]
      rw [hset] at hev1
      -- the value that is handed out
      have hrep : Rep P ⟨H, m', clk, W, ce.x⟩ ax av := Rep.move (c := ⟨H1, m, s.clk, w, ce.x⟩) (c' := ⟨H, m', clk, W, ce.x⟩) (fun b hb => ⟨(hcx.st b hb).1, fun o => cell?_of_block (hcx.st b hb).2 o⟩) harep hacl
      have hact : EnvR P ⟨H, m', clk, W, ce.x⟩ (env.set p0 ax) (a.tmps.setIfInBounds p0 av) := by
        have := hcx.er.put hrep (some p0)
        exact this
      have hy := run_yield (P := P) (args := encs j) hl (by rw [hrec, hav]; rfl)
      rw [hrec] at hy
      refine ⟨_, _, _, _, hy, ?_⟩
      clear hy
      simp only [hav]
      refine roundIn_of_wpIn (F := Fence.wide) trivial ?_
      have hfold : ((#[p0].zip #[av]).foldl (fun tmps (p : Tmp × Value) => tmps.setIfInBounds p.1 p.2) a.tmps) = a.tmps.setIfInBounds p0 av := by simp
      have hst0 : StR P ⟨H, m', clk, W, ce.x⟩ { env := env.set p0 ax, H, clk } { tmps := a.tmps.setIfInBounds p0 av, defers := [] } W := ⟨m', Cx.le.refl _, hcx.hr, hact, .nil⟩
      have hassign := hS k' hk' (some (w.heap.size + 1)) M ⟨H, m', clk, W, ce.x⟩ x ca _ .normal s1 _ _ (hB.mono hcx.le) (.inr hrx) hca hev1 hst0
      have hassign' : x.wpIn (Fence.wide.inRound (w.heap.size + 1)) M P (Post P ⟨H, m', clk, W, ce.x⟩ .normal s1) { tmps := ((#[p0].zip #[av]).foldl (fun tmps (p : Tmp × Value) => tmps.setIfInBounds p.1 p.2) a.tmps), defers := [] } W := by
        rw [hfold]; exact hassign
      refine wpIn_mono hassign' fun e1 a1 Wa hp1 => ?_
      obtain ⟨rfl, m1, hle1, hH1', he1, hmk1⟩ := hp1
      have hla : Wa.heap[w.heap.size + 1]? = some (.loop (rec .ready none)) := by
        rw [hle1.still _ hcx.l.1.1 hcx.l.1.2.1 (fun h => absurd h hcx.l.1.2.2)]; exact hl
      refine ⟨_, run_beginRound hla (by rw [hrec]), ?_⟩
      -- the record is busy
      have hcb0 := hcx.put { rec .ready none with state := .busy }
      have hput := Cx.le.put2 hle1 hH1' (.loop { rec .ready none with state := .busy }) hl hcx.l.1
      have hltW := hlread hcx
      have hltWa : w.heap.size + 1 < Wa.heap.size := Nat.lt_of_lt_of_le hltW hle1.size
      have hcellsA : ∀ (b : Nat) arr ty fz, Wa.heap[b]? = some (Obj.cells arr ty fz) → (Wa.putObj (w.heap.size + 1) (.loop { rec .ready none with state := .busy })).heap[b]? = Wa.heap[b]? := by
        intro b arr ty fz hb
        refine World.putObj_heap_other fun e => ?_
        rw [e, hla] at hb; cases hb
      have hstb : StR P ⟨H, m', clk, W.putObj (w.heap.size + 1) (.loop { rec .ready none with state := .busy }), ce.x⟩ s1 a1 (Wa.putObj (w.heap.size + 1) (.loop { rec .ready none with state := .busy })) := by
        refine ⟨m1, hput, HR.turn (c := ⟨s1.H, m1, s1.clk, Wa, ce.x⟩) hH1' (by rw [World.putObj_size]; exact Nat.le_refl _) hcellsA, EnvR.turn (c := ⟨s1.H, m1, s1.clk, Wa, ce.x⟩) hH1' (by rw [World.putObj_size]; exact Nat.le_refl _) hcellsA he1, ?_⟩
        obtain ⟨rs, q1, q2, q3⟩ := hmk1
        refine ⟨rs, q1, q2, fun q hq => ?_⟩
        obtain ⟨z1, z2, z3⟩ := q3 q hq
        refine ⟨by show (W.putObj _ _).heap.size ≤ q; rw [World.putObj_size]; exact z1, ⟨by show q < (Wa.putObj _ _).heap.size; rw [World.putObj_size]; exact z2.1, z2.2.1, z2.2.2⟩, ?_⟩
        show (Wa.putObj _ _).heap[q]? = _
        rw [World.putObj_heap_other (by have : W.heap.size ≤ q := z1; omega)]
        exact z3
      -- the body
      have hbusy : (W.putObj (w.heap.size + 1) (.loop { rec .ready none with state := .busy })).heap[w.heap.size + 1]? = some (.loop { rec .ready none with state := .busy }) := World.putObj_heap_same hltW
      have fin : ∀ (s2 : St) (Wb : World), (∃ m2, (⟨H, m', clk, W.putObj (w.heap.size + 1) (.loop { rec .ready none with state := .busy }), ce.x⟩ : Cx).le ⟨s2.H, m2, s2.clk, Wb, ce.x⟩ ∧ HR P ⟨s2.H, m2, s2.clk, Wb, ce.x⟩) →
          Wb.heap[w.heap.size + 1]? = some (.loop { rec .ready none with state := .busy }) ∧ (∃ m2, RCtx P ce ⟨H1, m, s.clk, w, ce.x⟩ a w.heap.size Wb env s2.H s2.clk m2) := by
        rintro s2 Wb ⟨m2, z1, z2⟩
        refine ⟨?_, m2, hcb0.run z1 z2⟩
        rw [z1.still _ hcb0.l.1.1 hcb0.l.1.2.1 (fun h => absurd h hcb0.l.1.2.2)]; exact hbusy
      rcases hev2 with ⟨s2, env', H', clk', hb2, hnorm, hrest⟩ | ⟨e2, s2, hne2, hb2, rfl, rfl⟩
      · have hbody := hS k' hk' (some (w.heap.size + 1)) M ⟨H, m', clk, W.putObj (w.heap.size + 1) (.loop { rec .ready none with state := .busy }), ce.x⟩ y cb s1 .normal s2 a1 _ (hB.mono (hcx.put _).le) (.inr hry) hcb hb2 hstb
        refine wpIn_mono hbody fun e3 a3 Wb hp3 => ?_
        obtain ⟨rfl, m2, z1, z2, z3, z4⟩ := hp3
        obtain ⟨hlb, m3, hcx3⟩ := fin s2 Wb ⟨m2, z1, z2⟩
        refine ⟨_, _, run_endRound none hlb, .inl ⟨rfl, ?_, fun b hb => ?_⟩⟩
        · rw [hJ]
          refine ⟨k', env', H', clk', m3, hk', hrest, (hcx3.norm hnorm).put _, ?_⟩
          rw [World.putObj_heap_same (hlread hcx3)]
          rw [hrec]; rfl
        · have hne : b ≠ w.heap.size + 1 := by have : b < w.heap.size := hb.1; omega
          rw [World.putObj_heap_other hne, (hcx3.st b hb).2, (hcx.st b hb).2]
      · have hbody := hS k' hk' (some (w.heap.size + 1)) M ⟨H, m', clk, W.putObj (w.heap.size + 1) (.loop { rec .ready none with state := .busy }), ce.x⟩ y cb s1 ex s2 a1 _ (hB.mono (hcx.put _).le) (.inr hry) hcb hb2 hstb
        refine wpIn_mono hbody fun e3 a3 Wb hp3 => ?_
        obtain ⟨rfl, m2, z1, z2, z3, z4⟩ := hp3
        obtain ⟨hlb, m3, hcx3⟩ := fin s2 Wb ⟨m2, z1, z2⟩
        cases ex with
        | normal => exact absurd rfl hne2
        | ret =>
          refine ⟨_, _, run_endRound (some .ret) hlb, .inr ⟨rfl, ?_⟩⟩
          rw [hJx]
          refine ⟨env, s2.H, s2.clk, m3, .ret, .ret, rfl, hcx3.put _, ?_⟩
          rw [World.putObj_heap_same (hlread hcx3)]
          rw [hrec]; rfl
        | exit id =>
          refine ⟨_, _, run_endRound (some (.exit id)) hlb, .inr ⟨rfl, ?_⟩⟩
          rw [hJx]
          refine ⟨env, s2.H, s2.clk, m3, .exit id, .exit id, rfl, hcx3.put _, ?_⟩
          rw [World.putObj_heap_same (hlread hcx3)]
          rw [hrec]; rfl
    · -- at the start
      rw [hJ]
      refine ⟨n, env0, H1, s.clk, m, Nat.le_refl _, ?_, hstart, hL1⟩
      rw [List.drop_zero]; exact h
    · -- behind the iterator
      have out : ∀ {W : World} {env : Env} {H : Heap} {clk : Nat} {m' : Nat → Nat} (r : Loop), RCtx P ce ⟨H1, m, s.clk, w, ce.x⟩ a w.heap.size W env H clk m' →
          StR P ce { env, H, clk } { a with defers := [markOf w.heap.size] ++ a.defers } (W.putObj (w.heap.size + 1) (.loop r)) := by
        intro W env H clk m' r hcx
        have hcx' := hcx.put r
        refine ⟨m', hcx'.le, hcx'.hr, hcx'.er, ?_⟩
        obtain ⟨rs, q1, q2, q3⟩ := hcx'.mks
        obtain ⟨rs0, p1, p2, p3⟩ := hmk
        have hinj : rs = rs0 := by
          have : rs.map markOf = rs0.map markOf := by rw [← q1, p1]
          exact (List.map_inj_right (fun x y hxy => by simpa [markOf] using hxy)).1 this
        subst hinj
        refine ⟨w.heap.size :: rs, by show markOf _ :: a.defers = _; rw [q1]; rfl, ?_, fun q hq => ?_⟩
        · rw [List.nodup_cons]
          refine ⟨fun hm => ?_, q2⟩
          have := (p3 _ hm).2.1.1
          exact absurd this (Nat.lt_irrefl _)
        · rcases List.mem_cons.1 hq with rfl | hq
          · exact ⟨hle.size, hcx'.d.1, hcx'.d.2⟩
          · exact q3 q hq
      rintro e W ⟨⟨v, rfl⟩, hj | ⟨j, hj⟩⟩
      · rw [hJ] at hj
        obtain ⟨n', env, H, clk, m', _, hev, hcx, hl⟩ := hj
        rw [List.drop_length] at hev
        have := evRounds_nil hev
        cases this
        have hpend : (rec .ready none).pending = none := by rw [hrec]
        have hrun := run_endLoop (P := P) hl (by rw [hrec]; simp)
        rw [hpend] at hrun
        exact ⟨none, _, hrun, rfl, out _ hcx⟩
      · rw [hJx] at hj
        obtain ⟨env, H, clk, m', code, hjump, rfl, hcx, hl⟩ := hj
        have hpend : (rec .done (some code)).pending = some code := by rw [hrec]
        have hrun := run_endLoop (P := P) hl (by rw [hrec]; simp)
        rw [hpend] at hrun
        refine ⟨some code, _, hrun, ?_⟩
        cases hjump with
        | ret => exact wpIn_ret ⟨rfl, out _ hcx⟩
        | exit id => exact wpIn_exit ⟨rfl, out _ hcx⟩

end
end Go.Ev
end
