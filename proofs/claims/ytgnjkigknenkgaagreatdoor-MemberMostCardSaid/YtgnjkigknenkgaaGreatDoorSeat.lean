/- The functions of Go's library that the statements come to are as the evaluator has them; under the rows' list of variables. -/
import Derived.Shelf.SlGeneric
import Derived.Ground.SlgmProg
import Derived.Shelf.SortM.Plain
import Derived.Shelf.SortM.SortNone
import Derived.Test.YtgnjkigknenkgaaGreatDoorProg
import Derived.RangeFuncNested
import Derived.RangeFuncLeaves
import Derived.Shelf.Abstract
import Derived.WalkKit
import Derived.OwnWalkIn
import Derived.TacticsInMore
import Derived.LoopNIn
import Derived.LoopIn
import Derived.Test.YtgnjkigknenkgaaGreatDoorEvThree
import Derived.KernelRfl
import Derived.Test.YtgnjkigknenkgaaGreatDoorTable
import Derived.Test.YtgnjkigknenkgaaGreatDoorRow
import Derived.Test.YtgnjkigknenkgaaGreatDoorShelf
section
/-
  DERIVED: THE SHELF's CONTRACTS AT THIS DUMP, IN PLAIN WORDS (tools/lay-plain.mjs out of 'TryzSort.lean', which tools/lay-shelf.mjs wrote): THE SAME DECLARATIONS UNDER THE SAME NAMES: 'import', 'namespace', 'open', 'def', 'theorem' AND NOTHING ELSE: no command of the shelf's: FOR A HAND-IN. Each laying: the table of numbers ('.._ren') and one theorem, a field a fact of the dump's own or the kernel's comparison; each contract: ONE APPLICATION.
-/
namespace Go.Proofs
open Go.Shelf
def Tryz.sort128_ren : Go.Shelf.Ren := ⟨fun | 5 => 128 | 8 => 180 | 7 => 179 | 19 => 226 | 20 => 227 | 10 => 217 | 11 => 218 | 12 => 219 | 13 => 220 | 14 => 221 | 15 => 222 | 16 => 223 | 17 => 224 | 18 => 225 | 30 => 264 | 31 => 265 | 32 => 266 | 33 => 267 | 34 => 268 | 35 => 205 | 40 => 292 | n => n, fun | 23 => 29 | 25 => 2 | 3 => 3 | 32 => 190 | 22 => 29 | 0 => 0 | 44 => 264 | 46 => 168 | 4 => 4 | 36 => 257 | 35 => 256 | 41 => 100 | 5 => 5 | 9 => 9 | 53 => 307 | 57 => 311 | 63 => 338 | 64 => 339 | n => n, fun | n => n⟩
theorem Tryz.sort128 : Go.Proofs.SlLaysM.n5 Tryz.prog Tryz.sort128_ren := {
  mixed := by kernel_rfl
  f5 := ⟨Tryz.f128.name, by decide, Tryz.func128.trans (congrArg some (by kernel_rfl))⟩
  f7 := ⟨Tryz.f179.name, by decide, Tryz.func179.trans (congrArg some (by kernel_rfl))⟩
  f8 := Tryz.func180.trans (congrArg some (by kernel_rfl))
  f10 := ⟨Tryz.f217.name, by decide, Tryz.func217.trans (congrArg some (by kernel_rfl))⟩
  f11 := ⟨Tryz.f218.name, by decide, Tryz.func218.trans (congrArg some (by kernel_rfl))⟩
  f12 := ⟨Tryz.f219.name, by decide, Tryz.func219.trans (congrArg some (by kernel_rfl))⟩
  f13 := ⟨Tryz.f220.name, by decide, Tryz.func220.trans (congrArg some (by kernel_rfl))⟩
  f14 := ⟨Tryz.f221.name, by decide, Tryz.func221.trans (congrArg some (by kernel_rfl))⟩
  f15 := ⟨Tryz.f222.name, by decide, Tryz.func222.trans (congrArg some (by kernel_rfl))⟩
  f16 := ⟨Tryz.f223.name, by decide, Tryz.func223.trans (congrArg some (by kernel_rfl))⟩
  f17 := ⟨Tryz.f224.name, by decide, Tryz.func224.trans (congrArg some (by kernel_rfl))⟩
  f18 := ⟨Tryz.f225.name, by decide, Tryz.func225.trans (congrArg some (by kernel_rfl))⟩
  f19 := Tryz.func226.trans (congrArg some (by kernel_rfl))
  f20 := Tryz.func227.trans (congrArg some (by kernel_rfl))
  f30 := ⟨Tryz.f264.name, by decide, Tryz.func264.trans (congrArg some (by kernel_rfl))⟩
  f31 := Tryz.func265.trans (congrArg some (by kernel_rfl))
  f32 := Tryz.func266.trans (congrArg some (by kernel_rfl))
  f33 := ⟨Tryz.f267.name, by decide, Tryz.func267.trans (congrArg some (by kernel_rfl))⟩
  f34 := ⟨Tryz.f268.name, by decide, Tryz.func268.trans (congrArg some (by kernel_rfl))⟩
  f35 := ⟨Tryz.f205.name, by decide, Tryz.func205.trans (congrArg some (by kernel_rfl))⟩
  f40 := ⟨Tryz.f292.name, by decide, Tryz.func292.trans (congrArg some (by kernel_rfl))⟩
  t0 := Tryz.underlying0
  a0 := Tryz.isAgg0
  z0 := Tryz.sizeOf0
  v0 := Tryz.zeroValue0
  t3 := Tryz.underlying3
  a3 := Tryz.isAgg3
  z3 := Tryz.sizeOf3
  v3 := Tryz.zeroValue3
  t4 := Tryz.underlying4
  a4 := Tryz.isAgg4
  z4 := Tryz.sizeOf4
  v4 := Tryz.zeroValue4
  t5 := Tryz.underlying5
  a5 := Tryz.isAgg5
  z5 := Tryz.sizeOf5
  v5 := Tryz.zeroValue5
  t9 := Tryz.underlying9
  a9 := Tryz.isAgg9
  z9 := Tryz.sizeOf9
  v9 := Tryz.zeroValue9
  t22 := Tryz.underlying29
  a22 := Tryz.isAgg29
  z22 := Tryz.sizeOf29
  v22 := Tryz.zeroValue29
  t23 := Tryz.underlying29
  a23 := Tryz.isAgg29
  z23 := Tryz.sizeOf29
  v23 := Tryz.zeroValue29
  t25 := Tryz.underlying2
  a25 := Tryz.isAgg2
  z25 := Tryz.sizeOf2
  v25 := Tryz.zeroValue2
  t32 := Tryz.underlying190
  a32 := Tryz.isAgg190
  z32 := Tryz.sizeOf190
  v32 := Tryz.zeroValue190
  t35 := Tryz.underlying256
  a35 := Tryz.isAgg256
  z35 := Tryz.sizeOf256
  v35 := Tryz.zeroValue256
  t36 := Tryz.underlying257
  a36 := Tryz.isAgg257
  z36 := Tryz.sizeOf257
  v36 := Tryz.zeroValue257
  t41 := Tryz.underlying100
  a41 := Tryz.isAgg100
  z41 := Tryz.sizeOf100
  v41 := Tryz.zeroValue100
  t44 := Tryz.underlying264
  a44 := Tryz.isAgg264
  z44 := Tryz.sizeOf264
  v44 := Tryz.zeroValue264
  t46 := Tryz.underlying168
  a46 := Tryz.isAgg168
  z46 := Tryz.sizeOf168
  v46 := Tryz.zeroValue168
  t53 := Tryz.underlying307
  a53 := Tryz.isAgg307
  z53 := Tryz.sizeOf307
  v53 := Tryz.zeroValue307
  t57 := Tryz.underlying311
  a57 := Tryz.isAgg311
  z57 := Tryz.sizeOf311
  v57 := Tryz.zeroValue311
  t63 := Tryz.underlying338
  a63 := Tryz.isAgg338
  z63 := Tryz.sizeOf338
  v63 := Tryz.zeroValue338
  t64 := Tryz.underlying339
  a64 := Tryz.isAgg339
  z64 := Tryz.sizeOf339
  v64 := Tryz.zeroValue339 }
end Go.Proofs
end

section
/- slices.Values of numbers: its rounds. -/
namespace Go.Proofs
open Go.RowKit Go.Shelf

def Kept (Ro : Nat → Prop) (W W' : World) : Prop := ∀ b, Ro b → W'.heap[b]? = W.heap[b]?
theorem Kept.refl (Ro : Nat → Prop) (W : World) : Kept Ro W W := fun _ _ => rfl
theorem Kept.trans {Ro : Nat → Prop} {A B C : World} (h : Kept Ro A B) (k : Kept Ro B C) : Kept Ro A C := fun b hb => (k b hb).trans (h b hb)
theorem Kept.cell {Ro : Nat → Prop} {A B : World} (h : Kept Ro A B) {b o : Nat} (hb : Ro b) : B.cell? ⟨b, o, none⟩ = A.cell? ⟨b, o, none⟩ := by
  unfold World.cell?
  rw [h b hb]

set_option maxRecDepth 100000 in
set_option maxHeartbeats 2000000 in
theorem Tryz.values129 (N l Bx b off len cap : Nat) (vs : Nat → Int) (hreach : len * 8 ≤ 140737488351232) (Ro : Nat → Prop) (_hB : Ro Bx) (hb : Ro b) (J Jx : Nat → World → Prop)
    (hY : ∀ j W, J j W → j < len → YieldAt Fence.wide (N - 1) Tryz.prog l #[.int .i64 (vs j)] W fun e W' =>
      (e = .returned (.bool true) ∧ J (j + 1) W' ∧ Kept Ro W W') ∨ (e = .returned (.bool false) ∧ Jx (j + 1) W'))
    (W : World) (hBs : W.cell? ⟨Bx, 0, none⟩ = some (.slice (some ⟨b, off, none⟩) len cap)) (hc : ∀ j, j < len → W.cell? ⟨b, off + j, none⟩ = some (.int .i64 (vs j))) (h0 : J 0 W) :
    CallsIn Fence.wide N Tryz.prog 129 #[.func (.yield l) #[] #[], .pointer (some ⟨Bx, 0, none⟩)] W fun e W' => (∃ v, e = .returned v) ∧ (J len W' ∨ ∃ j, Jx j W') := by
  have hro : Fence.wide.round = none := rfl
  refine callsIn_of_wp Tryz.func129 rfl trivial ?_ hro
  simp only [Tryz.ntmps129, List.size_toArray, List.length_cons, List.length_nil, Nat.reduceAdd, Nat.reduceSub, Array.replicate_succ, Array.replicate_zero, List.push_toArray, List.append_toArray, List.nil_append, List.cons_append]
  gi_wp2
  gi_loopw [7] (fun i wr => ∃ k : Nat, k ≤ len ∧ i = .int .i64 k ∧ J k wr ∧ Kept Ro W wr)
    (fun i _ => len - (intOf i).toNat)
  case atStart => exact ⟨0, Nat.zero_le _, rfl, h0, Kept.refl _ _⟩
  case round =>
    obtain ⟨k, hk, rfl, hJs, hnx⟩ := hrel
    by_cases hlt : k < len
    · obtain ⟨fn, tmps, assign, body, hy, hR⟩ := hY k wr hJs hlt
      have hcx' : wr.cell? ⟨b, off + k, none⟩ = some (.int .i64 (vs k)) := (hnx.cell hb).trans (hc k hlt)
      gi_wp2
      refine ⟨fun h => (by cases h), hR.mono ?_⟩
      rintro e W3 (⟨rfl, hJ3, hk3⟩ | ⟨rfl, hJx3⟩)
      · gi_wp2
        go_roundw
        case rel => exact ⟨k + 1, by omega, by simp, hJ3, hnx.trans hk3⟩
        case measure => simp [intOf]; omega
      · gi_wp2
        refine bodyPost_ret (results_none rfl _ _ _) rfl ?_
        exact ⟨⟨_, rfl⟩, .inr ⟨k + 1, hJx3⟩⟩
    · obtain rfl : k = len := by omega
      gi_wp2
      go_end0
      exact ⟨⟨_, rfl⟩, .inl hJs⟩

set_option maxRecDepth 100000 in
set_option maxHeartbeats 1000000 in
theorem Tryz.values129_none (N l Bx cap : Nat) (a : Option Addr) (J : Nat → World → Prop) (W : World) (hBs : W.cell? ⟨Bx, 0, none⟩ = some (.slice a 0 cap)) (h0 : J 0 W) :
    CallsIn Fence.wide N Tryz.prog 129 #[.func (.yield l) #[] #[], .pointer (some ⟨Bx, 0, none⟩)] W fun e W' => (∃ v, e = .returned v) ∧ J 0 W' := by
  have hro : Fence.wide.round = none := rfl
  refine callsIn_of_wp Tryz.func129 rfl trivial ?_ hro
  simp only [Tryz.ntmps129, List.size_toArray, List.length_cons, List.length_nil, Nat.reduceAdd, Nat.reduceSub, Array.replicate_succ, Array.replicate_zero, List.push_toArray, List.append_toArray, List.nil_append, List.cons_append]
  gi_wp2
  gi_loopw [7] (fun i wr => i = .int .i64 0 ∧ J 0 wr) (fun _ _ => 0)
  case atStart => exact ⟨rfl, h0⟩
  case round =>
    obtain ⟨rfl, hJs⟩ := hrel
    gi_wp2
    go_end0
    exact ⟨⟨_, rfl⟩, hJs⟩
end Go.Proofs
end

section
namespace Go.Ev
open Go.Proofs Go.Shelf Go.RowKit
theorem iter129 : IterOK Tryz.prog 129 .ints :=
  ints_ok (enters_of Tryz.func129 (by kernel_rfl) rfl) (fun N l Bx b off len cap vs h Ro h1 h2 J Jx hY W h3 h4 h0 => Tryz.values129 N l Bx b off len cap vs h Ro h1 h2 J Jx hY W h3 h4 h0) (fun N l Bx cap a J W h h0 => Tryz.values129_none N l Bx cap a J W h h0)
end Go.Ev
end

section
/- The functions of the library that the statement comes to. -/
namespace Go.Ev.P
open Go.Proofs Go.Proofs.YtgnjkigknenkgaaGreatDoor
set_option maxRecDepth 100000

theorem mixed : Tryz.prog.follows .mixedOrders = true := by kernel_rfl

theorem okClone72 : CodeOK Tryz.prog 72 (cloneCF 70 2 (.agg [.int .i64 0, .int .i64 0])) Tryz.f72 (Tryz.f72.body.getD .skip) := ⟨Tryz.func72, by kernel_rfl, by kernel_rfl, by kernel_rfl, by kernel_rfl, by kernel_rfl⟩
theorem okClone103 : CodeOK Tryz.prog 103 (cloneCF 99 7 (.agg [.int .i64 0, .int .i64 0, .int .i64 0, .int .i64 0, .bool false, .str [], .sl [] .nil])) Tryz.f103 (Tryz.f103.body.getD .skip) := ⟨Tryz.func103, by kernel_rfl, by kernel_rfl, by kernel_rfl, by kernel_rfl, by kernel_rfl⟩

theorem tokW {W : World} (hL : laidMetH Tryz.prog seatLaid W) : TOK Tryz.prog W T := by
  obtain ⟨htab, ⟨u1, v1, h1⟩, u2, v2, h2⟩ := of_laid hL
  refine tok ?_ ?_ ?_ ?_ ?_ ?_ ?_ ?_
  · exact clone_ok mixed okClone72 rfl
  · exact clone_ok mixed okClone103 rfl
  · exact sort_ok Tryz.func128 (by kernel_rfl) (by kernel_rfl) (fun blk off cap zs w h1 h2 h3 => AnyM.slices_Sort_int Tryz.sort128 blk off cap zs w h1 h2 h3) (fun p cap w => AnyM.slices_Sort_int_none Tryz.sort128 p cap w)
  · exact parseInt_ok Tryz.func161 (by kernel_rfl) (by kernel_rfl) (fun s hs v hv w => Tryz.strconv_ParseInt_10_at64_ok s hs v hv w) (fun s hs h1 h2 ev w hv hev => by
        cases h : Lib.parseIntB 64 s.data.toList with
        | ok v => exact absurd h (h1 v)
        | range => exact absurd h h2
        | _ => exact Any.strconv_ParseInt_10_at64_syntax Tryz.laysC174 s hs h ev w hv hev)
      
      (fun s hs h ev w hv hev => Tryz.strconv_ParseInt_10_at64_range s hs h ev w hv hev) h1 (.inr ⟨_, _, rfl⟩) h2 (.inr ⟨_, _, rfl⟩)
  · exact fmtInt_ok Tryz.func183 (by kernel_rfl) (by kernel_rfl) (fun n a b w h => Tryz.strconv_FormatInt_10 n a b w h) htab
  · exact same_ok Tryz.func273 (by kernel_rfl) (by kernel_rfl) (by kernel_rfl) (by kernel_rfl)
  · exact idxByte_ok Tryz.func317 (by kernel_rfl) (by kernel_rfl) (by kernel_rfl) (by kernel_rfl)
  · exact iter129

end Go.Ev.P
end
