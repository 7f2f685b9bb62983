/- MemberMost answers true for every list and every turn, and its arguments read as they did: the statement Rows.MemberMostCardSaid, with no condition of its own. -/
import Derived.Test.YtgnjkigknenkgaaGreatDoorMostRun
import Derived.Test.YtgnjkigknenkgaaGreatDoorSeat
section
/- MemberMost: the row and the card. -/
namespace Go.Ev

theorem closedL_ints : ∀ l : List Int, closedL (ints l) = true
  | [] => rfl
  | x :: l => by simp only [ints, List.map_cons, closedL, closed, Bool.true_and]; exact closedL_ints l

open Go.ChangeShapes Go.WideShapes

/-- a slice of numbers that came in -/
theorem rep_ints {P : Program} {W : World} {a : Addr} {len cap : Nat} {zs : List Int} (h1 : len ≤ cap) (h2 : len ≤ zs.length) (h3 : ∀ i, i < zs.length → W.cell? (a.add i) = some (.int .i64 (zs.getD i 0))) :
    Rep P (cx0 W) (.sl (ints (zs.take len)) .unk) (.slice (some a) len cap) := by
  cases len with
  | zero => rw [List.take_zero]; exact .slE trivial
  | succ n =>
    have h0 := h3 0 (by omega)
    obtain ⟨b, off, spot⟩ := a
    have hs : spot = none := by
      cases spot with
      | none => rfl
      | some x =>
        simp only [Addr.add, if_true, World.cell?] at h0
        split at h0 <;> simp at h0
    subst hs
    have hb : b < W.heap.size := by
      simp only [Addr.add, if_true, World.cell?] at h0
      split at h0
      · rename_i hx; exact (Array.getElem?_eq_some_iff.1 hx).1
      · cases h0
    have hl : (ints (zs.take (n + 1))).length = n + 1 := by simp [ints]; omega
    have key := Rep.sl (P := P) (c := cx0 W) (es := ints (zs.take (n + 1))) (cap := .unk) (b := b) (off := off) (n := cap) 1 (fun k _ => .int .i64 (zs.getD k 0)) (by intro e; rw [e] at hl; simp at hl) (by rw [hl]; exact h1) trivial (cx0_still hb)
      (closedL_ints _) (by intro e he; obtain ⟨x, _, rfl⟩ := List.mem_map.1 he; rfl) ?_ ?_
    · rw [hl] at key; exact key
    · intro k e j x hk hj
      obtain ⟨hk', he⟩ := List.getElem?_eq_some_iff.1 hk
      rw [hl] at hk'
      have hj0 : j = 0 := by
        simp only [ints, List.getElem_map] at he
        subst he
        simp only [flat] at hj
        cases j with | zero => rfl | succ j => simp at hj
      subst hj0
      have := h3 k (by omega)
      simp only [Nat.mul_one, Nat.add_zero]
      show W.cell? _ = _
      rw [← this]
      unfold Addr.add
      by_cases hz : k = 0
      · subst hz; simp
      · simp [hz]
    · intro k e j x hk hj
      obtain ⟨hk', he⟩ := List.getElem?_eq_some_iff.1 hk
      rw [hl] at hk'
      simp only [ints, List.getElem_map, List.getElem_take] at he
      subst he
      simp only [flat] at hj
      cases j with
      | zero =>
        simp at hj
        subst hj
        have : zs.getD k 0 = zs[k]'(by omega) := by simp [show k < zs.length by omega]
        rw [this]
        exact .int _ _
      | succ j => simp at hj

end Go.Ev

namespace Go.Proofs.YtgnjkigknenkgaaGreatDoor
open Go.ChangeShapes Go.WideShapes Go.ChangeAt Go.RowKit Go.Ev Go.Ev.P

set_option maxRecDepth 100000 in
theorem most_contract (H : Type) (enc : TypeId × Value → H) (W : World) (base : Nat) (args : Array Value) (ds gs : List (DataW H)) (before : List MemPlace)
    (hval : ∀ (j : Nat) t v, Tryz.f7.params[j]? = some t → args[j]? = some v → Value.okWide Tryz.prog W .any base t v)
    (hW : DataW.Whole enc Tryz.prog Tryz.f7.params.toList Rows.memberMostSpec.vars false W args.toList ds gs before) (hL : laidMetH Tryz.prog seatLaid W) :
    Calls Tryz.prog 7 args W fun e W' => ∃ v, e = .returned v ∧ Rows.memberMostSpec.post enc Tryz.prog Tryz.f7 false true false false W args v W' := by
  have hW' := hW
  obtain ⟨p, q, hA, hV, rfl, hfz, hnd⟩ := hW
  rw [Tryz.params7] at hA hval
  obtain ⟨v0, vs0, d0, ds0, p0, q0, hargs, rfl, rfl, h0, r0⟩ := trodAll_cons hA
  obtain ⟨v1, vs1, d1, ds1, p1, q1, rfl, rfl, rfl, h1, r1⟩ := trodAll_cons r0
  obtain ⟨rfl, rfl, rfl⟩ := trodAll_nil r1
  obtain rfl : args = #[v0, v1] := by cases args; simp_all
  obtain ⟨rfl, rfl⟩ := trodVars_none hV
  obtain ⟨a0, len, cap, rfl⟩ := okWide_slice Tryz.underlying29 (hval 0 29 v0 rfl rfl)
  obtain ⟨k, rfl, rfl, rfl, hk⟩ := open_int Tryz.underlying3 (hval 1 3 v1 rfl rfl) h1
  obtain ⟨fuel, hf⟩ := h0
  obtain ⟨l, hrep⟩ : ∃ l : List Int, Rep Tryz.prog (cx0 W) (.sl (ints l) .unk) (.slice a0 len cap) := by
    rcases open_ints Tryz.underlying29 Tryz.underlying2 (show Tryz.prog.cellsOf 2 = 1 by kernel_rfl) hf with ⟨hc, _⟩ | ⟨a, n, c, zs, hc, hb, hn, hm, hlen, _, hcell, _⟩
    · simp only [Value.cells] at hc
      simp at hc
      obtain ⟨rfl, rfl, rfl⟩ := hc
      exact ⟨[], .slE trivial⟩
    · simp only [Value.cells] at hc
      simp at hc
      obtain ⟨rfl, rfl, rfl⟩ := hc
      exact ⟨zs.take len, rep_ints hn (by rw [hlen]; split <;> omega) hcell⟩
  obtain ⟨n, hev⟩ := most_all l k [] 0 (.sl (ints l) .unk) rfl
  have hargsR : ArgsR Tryz.prog (cx0 W) [.sl (ints l) .unk, .int .i64 k] #[.slice a0 len cap, .int .i64 k] := by
    refine ⟨rfl, fun j a v h1 h2 => ?_⟩
    rcases j with _ | _ | j
    · simp at h1 h2; subst h1 h2; exact hrep
    · simp at h1 h2; subst h1 h2; exact .int _ _
    · simp at h1
  refine (ev_law (tokW hL) mixed hargsR hev Tryz.func7 (by kernel_rfl)).mono fun e W' ⟨he, hb⟩ => ?_
  subst he
  exact ⟨_, rfl, post_law laidOut hW' rfl rfl (t := 4) (by kernel_rfl) (by kernel_rfl) (by kernel_rfl) hb⟩


def mostArgs : Array Value := #[.slice none 0 0, .int .i64 0]

theorem most_reads (os : Os) {H : Type} (enc : TypeId × Value → H) : ∃ ds places, DataW.whole enc Tryz.prog ((World.doorLaid Tryz.prog 400 os).forCall (fun _ _ => 0) ⟨#[], mostArgs, []⟩).memory Tryz.f7.params.toList Rows.memberMostSpec.vars false mostArgs.toList 8 = some (ds, [], places) :=
  ⟨[.nil, .lit (.int .i64 0)], [], by kernel_rfl⟩

set_option maxRecDepth 100000 in
theorem most_ok (os : Os) : Input.okWideB Tryz.checked.prog ((World.doorLaid Tryz.prog 400 os).forCall (fun _ _ => 0) ⟨#[], mostArgs, []⟩) 7 ⟨#[], mostArgs, []⟩ = true := by kernel_rfl
set_option maxRecDepth 100000 in
theorem most_sized (os : Os) {H : Type} (enc : TypeId × Value → H) : (OpenSpec.ofChange Rows.memberMostSpec).bare.sizedB enc Tryz.prog Tryz.f7 false ((World.doorLaid Tryz.prog 400 os).forCall (fun _ _ => 0) ⟨#[], mostArgs, []⟩).memory mostArgs 8 = true := by kernel_rfl

set_option maxRecDepth 100000 in
theorem most_pre (os : Os) (H : Type) (enc : TypeId × Value → H) :
    (OpenSpec.ofChange Rows.memberMostSpec).preRow enc Tryz.prog Tryz.f7 Rows.memberMostRow.domain false Rows.memberMostRow.laid ((World.doorLaid Tryz.prog 400 os).forCall (fun _ _ => 0) ⟨#[], mostArgs, []⟩).memory mostArgs := by
  obtain ⟨ds, places, hx⟩ := most_reads os enc
  exact OpenSpec.preRow_of_cond 8 hx rfl (fun k hk => by cases hk) (most_sized os enc) (door_met os mostArgs)

set_option maxRecDepth 100000 in
theorem most_lifted (os : Os) (started : os.Started) (H : Type) (enc : TypeId × Value → H) (F : Stop.Interp) :
    ReturnsInHanded {} Tryz.checked os 7 .any ((OpenSpec.ofChange Rows.memberMostSpec).preRow enc Tryz.prog Tryz.f7 Rows.memberMostRow.domain false Rows.memberMostRow.laid) (((OpenSpec.ofChange Rows.memberMostSpec).at F).post enc Tryz.prog Tryz.f7 false true false false) := by
  refine returnsInHanded_of_row (C := Tryz.checked) (s := OpenSpec.ofChange Rows.memberMostSpec) own started (by kernel_rfl) Tryz.func7
    (witness_row_atRef (enc := enc) (C := Tryz.checked) false (World.doorLaid Tryz.prog 400 os) mostArgs (door_os os) (door_vars os mostArgs) (door_rest os mostArgs) (most_ok os) (most_pre os H enc)) ?_
  intro W base args ds gs before hval hW _ _ _ hL _ _
  exact most_contract H enc W base args ds gs before hval hW hL

set_option maxRecDepth 100000 in
theorem most_name : Tryz.pinned.checked.prog.funcNamed Rows.memberMostRow.func = some 7 := by kernel_rfl
set_option maxRecDepth 100000 in
theorem most_joined : joinedFacts Tryz.pinned.checked.prog 7 Tryz.f7 (OpenSpec.ofChange Rows.memberMostSpec).bare Rows.memberMostRow = true := by kernel_rfl
theorem most_inst : Tryz.f7.isInstance Tryz.pinned.checked.prog Rows.memberMostRow.origin Rows.memberMostRow.targs := of_decide_eq_true (by kernel_rfl)
theorem most_wrap : Tryz.f7.isWrapper Tryz.pinned.checked.prog Rows.memberMostRow.wrapper Rows.memberMostRow.mainSum := by
  unfold Func.isWrapper
  first
    | (rw [if_pos (by decide +kernel)]; kernel_rfl)
    | (rw [if_neg (by decide +kernel)]; exact ⟨rfl, rfl⟩)

theorem most_said : Rows.MemberMostSaid :=
  OpenClaim.holds_of_cond 7 Tryz.f7 rfl rfl rfl rfl rfl rfl rfl ⟨rfl, rfl, rfl, rfl, rfl⟩ rfl rfl rfl rfl rfl most_name Tryz.func7 most_joined most_inst most_wrap
    (fun os started H enc _ F => by rw [OpenClaim.pre_eq_preRow]; exact most_lifted os started H enc F)

theorem most_plain (f : FuncId) (fn : Func) (hf : Tryz.pinned.checked.prog.funcNamed "furlong/furlonglaw12.MemberMost" = some f) (hfn : Tryz.pinned.checked.prog.funcs[f]? = some fn) :
    true = Tryz.pinned.checked.prog.looks [] ∧ ∀ (j : Nat) t, fn.params[j]? = some t → Tryz.pinned.checked.prog.wantsStandIn t = false := by
  obtain rfl : f = 7 := Option.some.inj (most_name.symm.trans hf) |>.symm
  obtain rfl : fn = Tryz.f7 := (Option.some.inj (Tryz.func7.symm.trans hfn)).symm
  refine ⟨by kernel_rfl, fun j t ht => ?_⟩
  rw [Tryz.params7] at ht
  have := Array.mem_of_getElem? ht
  simp at this
  rcases this with rfl | rfl
  · exact (show Tryz.prog.wantsStandIn 29 = false by kernel_rfl)
  · exact (show Tryz.prog.wantsStandIn 3 = false by kernel_rfl)

theorem memberMost_card : Rows.MemberMostCardSaid :=
  Claim7.holds_tied_plain_at .later [] _ _ _ _ most_said (fun _ h => by cases h) (by kernel_rfl) (fun _ h => by cases h) memberMost_row_tie rfl ⟨rfl, rfl⟩ (by kernel_rfl) rfl most_plain (by kernel_rfl)

end Go.Proofs.YtgnjkigknenkgaaGreatDoor
end
