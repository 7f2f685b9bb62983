/- The functions of the given program in the evaluator's language: definitions alone. -/
import Derived.Test.YtgnjkigknenkgaaGreatDoorEvOne
section
/- The functions that the statement comes to, in the evaluator's language: part 0. -/
namespace Go.Ev.P
set_option maxRecDepth 100000
/-- furlong/furlonglaw12.MemberAgreed -/
def c6 : CF := ⟨3, 42, [.tmp 6],
 .seq (.reg [
  ⟨some 3, .box 26 6 (.t 0), none⟩,
  ⟨some 6, .mv (.c (.bool false)), none⟩]) (
  .seq (.seq (.reg [
  ⟨some 7, .load (some 6) (.t 3), none⟩,
  ⟨some 8, .call (.c (.fn 19 [])) [.t 7], none⟩,
  ⟨some 9, .un .not (.t 8), none⟩,
  ⟨some 10, .mv (.t 9), none⟩,
  ⟨some 11, .mv (.t 1), (some (10, false))⟩,
  ⟨some 12, .len .l (.t 11), (some (10, false))⟩,
  ⟨some 13, .bin .gtr (.t 12) (.c (.int .i64 40)), (some (10, false))⟩,
  ⟨some 14, .pick (.t 10) (.c (.bool true)) (.t 13), none⟩,
  ⟨some 15, .mv (.t 14), none⟩,
  ⟨some 16, .mv (.t 2), (some (15, false))⟩,
  ⟨some 17, .len .l (.t 16), (some (15, false))⟩,
  ⟨some 18, .bin .gtr (.t 17) (.c (.int .i64 40)), (some (15, false))⟩,
  ⟨some 19, .pick (.t 15) (.c (.bool true)) (.t 18), none⟩]) (
  .cond (.t 19) (.seq (.reg [
   ⟨some 20, .call (.c (.fn 20 [])) [], none⟩,
   ⟨some 6, .mv (.t 20), none⟩]) (
   .ret)) (.skip))) (
  .seq (.dreg [
  ⟨.e, 0, 1, 0, ⟨some 21, .mkSl 2 1 (.int .i64 0) 0 [], none⟩⟩,
  ⟨.v, 0, 1, 1, ⟨some 22, .mv (.t 1), none⟩⟩,
  ⟨.e, 1, 2, 2, ⟨some 23, .app 2 1 (.t 21) (.t 22), none⟩⟩,
  ⟨.e, 2, 3, 3, ⟨some 24, .call (.c (.fn 28 [])) [.t 23], none⟩⟩,
  ⟨.v, 0, 3, 4, ⟨some 25, .mv (.t 1), none⟩⟩,
  ⟨.e, 3, 4, 5, ⟨some 26, .call (.c (.fn 29 [])) [.t 25], none⟩⟩,
  ⟨.v, 4, 4, 6, ⟨some 27, .bin .eql (.t 24) (.t 26), none⟩⟩,
  ⟨.v, 4, 4, 7, ⟨some 28, .mv (.t 27), none⟩⟩,
  ⟨.v, 4, 6, 8, ⟨some 29, .load (some 6) (.t 3), (some (28, true))⟩⟩,
  ⟨.e, 4, 5, 9, ⟨some 30, .mkSl 2 1 (.int .i64 0) 0 [], (some (28, true))⟩⟩,
  ⟨.v, 4, 5, 10, ⟨some 31, .mv (.t 2), (some (28, true))⟩⟩,
  ⟨.e, 5, 6, 11, ⟨some 32, .app 2 1 (.t 30) (.t 31), (some (28, true))⟩⟩,
  ⟨.e, 6, 7, 12, ⟨some 33, .call (.c (.fn 30 [])) [.t 29, .t 32], (some (28, true))⟩⟩,
  ⟨.v, 4, 7, 13, ⟨some 34, .load (some 6) (.t 3), (some (28, true))⟩⟩,
  ⟨.v, 4, 7, 14, ⟨some 35, .mv (.t 2), (some (28, true))⟩⟩,
  ⟨.e, 7, 8, 15, ⟨some 36, .call (.c (.fn 31 [])) [.t 34, .t 35], (some (28, true))⟩⟩,
  ⟨.v, 8, 8, 16, ⟨some 37, .bin .eql (.t 33) (.t 36), (some (28, true))⟩⟩,
  ⟨.v, 8, 8, 17, ⟨some 38, .pick (.t 28) (.t 37) (.c (.bool false)), none⟩⟩,
  ⟨.v, 8, 8, 18, ⟨some 39, .mv (.t 38), none⟩⟩,
  ⟨.e, 8, 9, 19, ⟨some 40, .call (.c (.fn 20 [])) [], (some (39, true))⟩⟩,
  ⟨.v, 9, 9, 20, ⟨some 41, .pick (.t 39) (.t 40) (.c (.bool false)), none⟩⟩,
  ⟨.v, 9, 9, 21, ⟨some 6, .mv (.t 41), none⟩⟩]) (
  .ret))), false⟩

/-- furlong/furlonglaw12.MemberMost -/
def c7 : CF := ⟨2, 88, [.tmp 4],
 .seq (.reg [
  ⟨some 4, .mv (.c (.bool false)), none⟩]) (
  .seq (.seq (.reg [
  ⟨some 10, .mv (.t 0), none⟩,
  ⟨some 11, .len .l (.t 10), none⟩,
  ⟨some 12, .bin .gtr (.t 11) (.c (.int .i64 40)), none⟩,
  ⟨some 13, .mv (.t 12), none⟩,
  ⟨some 14, .mv (.t 0), (some (13, false))⟩,
  ⟨some 15, .len .l (.t 14), (some (13, false))⟩,
  ⟨some 16, .bin .eql (.t 15) (.c (.int .i64 0)), (some (13, false))⟩,
  ⟨some 17, .pick (.t 13) (.c (.bool true)) (.t 16), none⟩,
  ⟨some 18, .mv (.t 17), none⟩,
  ⟨some 19, .mv (.t 1), (some (18, false))⟩,
  ⟨some 20, .bin .lss (.t 19) (.c (.int .i64 0)), (some (18, false))⟩,
  ⟨some 21, .pick (.t 18) (.c (.bool true)) (.t 20), none⟩]) (
  .cond (.t 21) (.seq (.reg [
   ⟨some 22, .call (.c (.fn 20 [])) [], none⟩,
   ⟨some 4, .mv (.t 22), none⟩]) (
   .ret)) (.skip))) (
  .seq (.reg [
  ⟨some 23, .mv (.t 0), none⟩,
  ⟨some 24, .call (.c (.fn 28 [])) [.t 23], none⟩,
  ⟨some 5, .mv (.t 24), none⟩]) (
  .seq (.reg [
  ⟨some 6, .mv (.c (.sl [] .nil)), none⟩]) (
  .seq (.reg [
  ⟨some 7, .mv (.c (.int .i64 0)), none⟩,
  ⟨some 8, .mv (.c (.int .i64 0)), none⟩]) (
  .seq (.seq (.reg [
  ⟨some 9, .mv (.c (.int .i64 0)), none⟩]) (
  .block 0 (.loop [0, 1, 5, 6, 7, 8, 9] (.seq (.seq (.reg [
   ⟨some 25, .mv (.t 9), none⟩,
   ⟨some 26, .mv (.t 0), none⟩,
   ⟨some 27, .len .l (.t 26), none⟩,
   ⟨some 28, .bin .lss (.t 25) (.t 27), none⟩]) (
   .cond (.t 28) (.skip) (.exit 0))) (
   .seq (.block 1 (.seq (.reg [
   ⟨some 31, .mv (.t 6), none⟩,
   ⟨some 32, .mv (.t 0), none⟩,
   ⟨some 33, .mv (.t 9), none⟩,
   ⟨some 34, .mv (.t 1), none⟩,
   ⟨some 35, .mv (.t 0), none⟩,
   ⟨some 36, .len .l (.t 35), none⟩,
   ⟨some 37, .bin .rem (.t 34) (.t 36), none⟩,
   ⟨some 38, .bin .add (.t 33) (.t 37), none⟩,
   ⟨some 39, .mv (.t 0), none⟩,
   ⟨some 40, .len .l (.t 39), none⟩,
   ⟨some 41, .bin .rem (.t 38) (.t 40), none⟩,
   ⟨some 42, .idxA none 1 (.t 32) (.t 41), none⟩,
   ⟨some 43, .load none (.t 42), none⟩,
   ⟨some 44, .mkSl 2 1 (.int .i64 0) 1 [(0, .t 43)], none⟩,
   ⟨some 45, .app 2 1 (.t 31) (.t 44), none⟩,
   ⟨some 6, .mv (.t 45), none⟩]) (
   .seq (.seq (.reg [
   ⟨some 46, .mv (.t 0), none⟩,
   ⟨some 47, .mv (.t 9), none⟩,
   ⟨some 48, .idxA none 1 (.t 46) (.t 47), none⟩,
   ⟨some 49, .load none (.t 48), none⟩,
   ⟨some 50, .mv (.t 5), none⟩,
   ⟨some 51, .bin .geq (.t 49) (.t 50), none⟩]) (
   .cond (.t 51) (.reg [
    ⟨some 52, .mv (.t 7), none⟩,
    ⟨some 53, .bin .add (.t 52) (.c (.int .i64 1)), none⟩,
    ⟨some 7, .mv (.t 53), none⟩]) (.skip))) (
   .seq (.reg [
   ⟨some 54, .mv (.t 0), none⟩,
   ⟨some 55, .mv (.t 9), none⟩,
   ⟨some 56, .idxA none 1 (.t 54) (.t 55), none⟩,
   ⟨some 57, .load none (.t 56), none⟩,
   ⟨some 58, .mv (.t 5), none⟩,
   ⟨some 59, .bin .gtr (.t 57) (.t 58), none⟩]) (
   .cond (.t 59) (.reg [
    ⟨some 60, .mv (.t 8), none⟩,
    ⟨some 61, .bin .add (.t 60) (.c (.int .i64 1)), none⟩,
    ⟨some 8, .mv (.t 61), none⟩]) (.skip)))))) (
   .reg [
   ⟨some 29, .mv (.t 9), none⟩,
   ⟨some 30, .bin .add (.t 29) (.c (.int .i64 1)), none⟩,
   ⟨some 9, .mv (.t 30), none⟩])))))) (
  .seq (.reg [
  ⟨some 62, .mv (.t 7), none⟩,
  ⟨some 63, .bin .mul (.c (.int .i64 2)) (.t 62), none⟩,
  ⟨some 64, .mv (.t 0), none⟩,
  ⟨some 65, .len .l (.t 64), none⟩,
  ⟨some 66, .bin .gtr (.t 63) (.t 65), none⟩,
  ⟨some 67, .mv (.t 66), none⟩,
  ⟨some 68, .mv (.t 8), (some (67, true))⟩,
  ⟨some 69, .bin .mul (.c (.int .i64 2)) (.t 68), (some (67, true))⟩,
  ⟨some 70, .mv (.t 0), (some (67, true))⟩,
  ⟨some 71, .len .l (.t 70), (some (67, true))⟩,
  ⟨some 72, .bin .leq (.t 69) (.t 71), (some (67, true))⟩,
  ⟨some 73, .pick (.t 67) (.t 72) (.c (.bool false)), none⟩,
  ⟨some 74, .mv (.t 73), none⟩,
  ⟨some 75, .mv (.t 0), (some (74, true))⟩,
  ⟨some 76, .mv (.t 5), (some (74, true))⟩,
  ⟨some 77, .call (.c (.fn 32 [])) [.t 75, .t 76], (some (74, true))⟩,
  ⟨some 78, .pick (.t 74) (.t 77) (.c (.bool false)), none⟩,
  ⟨some 79, .mv (.t 78), none⟩,
  ⟨some 80, .mv (.t 6), (some (79, true))⟩,
  ⟨some 81, .call (.c (.fn 28 [])) [.t 80], (some (79, true))⟩,
  ⟨some 82, .mv (.t 5), (some (79, true))⟩,
  ⟨some 83, .bin .eql (.t 81) (.t 82), (some (79, true))⟩,
  ⟨some 84, .pick (.t 79) (.t 83) (.c (.bool false)), none⟩,
  ⟨some 85, .mv (.t 84), none⟩,
  ⟨some 86, .call (.c (.fn 20 [])) [], (some (85, true))⟩,
  ⟨some 87, .pick (.t 85) (.t 86) (.c (.bool false)), none⟩,
  ⟨some 4, .mv (.t 87), none⟩]) (
  .ret))))))), false⟩

/-- furlong/plot.Apply -/
def c15 : CF := ⟨2, 149, [.cell 4 (some 11), .cell 5 (some 5), .cell 6 (some 13)],
 .seq (.reg [
  ⟨some 2, .box 31 11 (.t 0), none⟩,
  ⟨some 3, .box 38 11 (.t 1), none⟩,
  ⟨some 4, .alloc 31 11 [.agg [.int .i64 0, .str [], .str [], .int .i64 0, .sl [] .nil, .int .i64 0, .sl [] .nil, .sl [] .nil, .bool false, .sl [] .nil, .int .i64 0]], none⟩,
  ⟨some 5, .alloc 42 5 [.agg [.int .i64 0, .int .i64 0, .bool false, .str [], .sl [] .nil]], none⟩,
  ⟨some 6, .alloc 44 13 [.agg [.bool false, .int .i64 0, .str [], .str [], .int .i64 0, .sl [] .nil, .int .i64 0, .sl [] .nil, .sl [] .nil, .bool false, .sl [] .nil, .int .i64 0, .int .i64 0]], none⟩]) (
  .seq (.reg [
  ⟨some 7, .alloc 44 13 [.agg [.bool false, .int .i64 0, .str [], .str [], .int .i64 0, .sl [] .nil, .int .i64 0, .sl [] .nil, .sl [] .nil, .bool false, .sl [] .nil, .int .i64 0, .int .i64 0]], none⟩]) (
  .seq (.seq (.reg [
  ⟨some 14, .fldA 7 none (.t 2), none⟩,
  ⟨some 15, .load none (.t 14), none⟩,
  ⟨some 16, .fldA 1 none (.t 3), none⟩,
  ⟨some 17, .load none (.t 16), none⟩,
  ⟨some 18, .fldA 2 none (.t 3), none⟩,
  ⟨some 19, .load none (.t 18), none⟩,
  ⟨some 20, .call (.c (.fn 46 [])) [.t 15, .t 17, .t 19], none⟩,
  ⟨some 13, .mv (.t 20), none⟩,
  ⟨some 21, .ext (.t 13) 0, none⟩,
  ⟨some 22, .ext (.t 13) 1, none⟩,
  ⟨some 8, .alloc 42 5 [.agg [.int .i64 0, .int .i64 0, .bool false, .str [], .sl [] .nil]], none⟩,
  ⟨none, .store 5 (.t 8) (.t 21), none⟩,
  ⟨some 9, .mv (.t 22), none⟩]) (
  .block 0 (.seq (.reg [
  ⟨some 24, .load (some 11) (.t 3), none⟩,
  ⟨some 25, .call (.c (.fn 47 [])) [.t 24], none⟩,
  ⟨some 26, .bin .neq (.t 25) (.c (.int .i64 0)), none⟩,
  ⟨some 23, .mv (.t 26), none⟩]) (
  .cond (.t 23) (.seq (.dreg [
   ⟨.v, 0, 1, 0, ⟨some 27, .load (some 11) (.t 2), none⟩⟩,
   ⟨.e, 0, 1, 1, ⟨some 28, .call (.c (.fn 48 [])) [.c (.int .i64 70)], none⟩⟩,
   ⟨.v, 0, 3, 2, ⟨some 29, .load (some 13) (.t 7), none⟩⟩,
   ⟨.e, 1, 2, 3, ⟨none, .store 11 (.t 4) (.t 27), none⟩⟩,
   ⟨.e, 2, 3, 4, ⟨none, .store 5 (.t 5) (.t 28), none⟩⟩,
   ⟨.e, 3, 4, 5, ⟨none, .store 13 (.t 6) (.t 29), none⟩⟩]) (
   .ret)) (.seq (.reg [
   ⟨some 31, .fldA 0 none (.t 3), none⟩,
   ⟨some 32, .load none (.t 31), none⟩,
   ⟨some 33, .bin .eql (.t 32) (.c (.int .i64 0)), none⟩,
   ⟨some 30, .mv (.t 33), none⟩]) (
   .cond (.t 30) (.seq (.dreg [
    ⟨.v, 0, 0, 0, ⟨some 34, .load (some 11) (.t 2), none⟩⟩,
    ⟨.v, 0, 1, 1, ⟨some 35, .build [.int .i64 0, .int .i64 0, .bool false, .str [], .sl [] .nil] [], none⟩⟩,
    ⟨.v, 0, 2, 2, ⟨some 36, .load (some 13) (.t 7), none⟩⟩,
    ⟨.e, 0, 1, 3, ⟨none, .store 11 (.t 4) (.t 34), none⟩⟩,
    ⟨.e, 1, 2, 4, ⟨none, .store 5 (.t 5) (.t 35), none⟩⟩,
    ⟨.e, 2, 3, 5, ⟨none, .store 13 (.t 6) (.t 36), none⟩⟩]) (
    .ret)) (.seq (.reg [
    ⟨some 38, .mv (.t 9), none⟩,
    ⟨some 37, .mv (.t 38), none⟩]) (
    .cond (.t 37) (.seq (.dreg [
     ⟨.v, 0, 0, 0, ⟨some 39, .load (some 11) (.t 2), none⟩⟩,
     ⟨.v, 0, 1, 1, ⟨some 40, .load (some 5) (.t 8), none⟩⟩,
     ⟨.v, 0, 2, 2, ⟨some 41, .load (some 13) (.t 7), none⟩⟩,
     ⟨.e, 0, 1, 3, ⟨none, .store 11 (.t 4) (.t 39), none⟩⟩,
     ⟨.e, 1, 2, 4, ⟨none, .store 5 (.t 5) (.t 40), none⟩⟩,
     ⟨.e, 2, 3, 5, ⟨none, .store 13 (.t 6) (.t 41), none⟩⟩]) (
     .ret)) (.seq (.reg [
     ⟨some 43, .fldA 0 none (.t 3), none⟩,
     ⟨some 44, .load none (.t 43), none⟩,
     ⟨some 45, .call (.c (.fn 49 [])) [.t 44], none⟩,
     ⟨some 46, .mv (.t 45), none⟩,
     ⟨some 47, .fldA 0 (some 6) (.t 2), (some (46, true))⟩,
     ⟨some 48, .fldA 1 (some 2) (.t 47), (some (46, true))⟩,
     ⟨some 49, .load (some 2) (.t 48), (some (46, true))⟩,
     ⟨some 50, .fldA 3 none (.t 3), (some (46, true))⟩,
     ⟨some 51, .load none (.t 50), (some (46, true))⟩,
     ⟨some 52, .call (.c (.fn 50 [])) [.t 49, .t 51], (some (46, true))⟩,
     ⟨some 53, .un .not (.t 52), (some (46, true))⟩,
     ⟨some 54, .pick (.t 46) (.t 53) (.c (.bool false)), none⟩,
     ⟨some 42, .mv (.t 54), none⟩]) (
     .cond (.t 42) (.seq (.dreg [
      ⟨.v, 0, 1, 0, ⟨some 55, .load (some 11) (.t 2), none⟩⟩,
      ⟨.v, 0, 0, 1, ⟨some 56, .load (some 11) (.t 2), none⟩⟩,
      ⟨.e, 0, 1, 2, ⟨some 57, .call (.c (.fn 51 [])) [.t 56], none⟩⟩,
      ⟨.v, 0, 3, 3, ⟨some 58, .load (some 13) (.t 7), none⟩⟩,
      ⟨.e, 1, 2, 4, ⟨none, .store 11 (.t 4) (.t 55), none⟩⟩,
      ⟨.e, 2, 3, 5, ⟨none, .store 5 (.t 5) (.t 57), none⟩⟩,
      ⟨.e, 3, 4, 6, ⟨none, .store 13 (.t 6) (.t 58), none⟩⟩]) (
      .ret)) (.seq (.reg [
      ⟨some 60, .fldA 8 none (.t 2), none⟩,
      ⟨some 61, .load none (.t 60), none⟩,
      ⟨some 59, .mv (.t 61), none⟩]) (
      .cond (.t 59) (.seq (.dreg [
       ⟨.v, 0, 1, 0, ⟨some 62, .load (some 11) (.t 2), none⟩⟩,
       ⟨.v, 0, 0, 1, ⟨some 63, .load (some 11) (.t 2), none⟩⟩,
       ⟨.v, 0, 0, 2, ⟨some 64, .fldA 0 none (.t 3), none⟩⟩,
       ⟨.v, 0, 0, 3, ⟨some 65, .load none (.t 64), none⟩⟩,
       ⟨.e, 0, 1, 4, ⟨some 66, .call (.c (.fn 52 [])) [.t 63, .t 65], none⟩⟩,
       ⟨.v, 0, 3, 5, ⟨some 67, .load (some 13) (.t 7), none⟩⟩,
       ⟨.e, 1, 2, 6, ⟨none, .store 11 (.t 4) (.t 62), none⟩⟩,
       ⟨.e, 2, 3, 7, ⟨none, .store 5 (.t 5) (.t 66), none⟩⟩,
       ⟨.e, 3, 4, 8, ⟨none, .store 13 (.t 6) (.t 67), none⟩⟩]) (
       .ret)) (.skip))))))))))))) (
  .seq (.reg [
  ⟨some 68, .load (some 11) (.t 2), none⟩,
  ⟨some 69, .load (some 11) (.t 3), none⟩,
  ⟨some 70, .build [.int .i64 0, .str [], .str [], .int .i64 0, .sl [] .nil, .int .i64 0, .sl [] .nil, .sl [] .nil, .bool false, .sl [] .nil, .int .i64 0, .int .i64 0, .int .i64 0, .int .i64 0, .str [], .str [], .str [], .str [], .bool false, .int .i64 0, .int .i64 0, .int .i64 0, .int .i64 0, .int .i64 0, .bool false, .str [], .sl [] .nil, .bool false, .int .i64 0, .str [], .str [], .int .i64 0, .sl [] .nil, .int .i64 0, .sl [] .nil, .sl [] .nil, .bool false, .sl [] .nil, .int .i64 0, .int .i64 0] [(0, 11, .t 68), (11, 11, .t 69)], none⟩,
  ⟨some 71, .box 95 40 (.t 70), none⟩,
  ⟨some 10, .mv (.t 71), none⟩]) (
  .seq (.reg [
  ⟨some 72, .mv (.t 10), none⟩,
  ⟨some 73, .call (.c (.fn 53 [])) [.t 72], none⟩]) (
  .seq (.seq (.reg [
  ⟨some 74, .fldA 0 none (.t 3), none⟩,
  ⟨some 75, .load none (.t 74), none⟩,
  ⟨some 76, .call (.c (.fn 54 [])) [.t 75], none⟩,
  ⟨some 77, .mv (.t 76), none⟩,
  ⟨some 78, .mv (.t 10), (some (77, false))⟩,
  ⟨some 79, .nilchk (.t 78), (some (77, false))⟩,
  ⟨some 80, .fldA 22 (some 5) (.t 79), (some (77, false))⟩,
  ⟨some 81, .fldA 0 none (.t 80), (some (77, false))⟩,
  ⟨some 82, .load none (.t 81), (some (77, false))⟩,
  ⟨some 83, .bin .eql (.t 82) (.c (.int .i64 1)), (some (77, false))⟩,
  ⟨some 84, .pick (.t 77) (.c (.bool true)) (.t 83), none⟩]) (
  .cond (.t 84) (.seq (.dreg [
   ⟨.v, 0, 0, 0, ⟨some 85, .mv (.t 10), none⟩⟩,
   ⟨.v, 0, 0, 1, ⟨some 86, .nilchk (.t 85), none⟩⟩,
   ⟨.v, 0, 0, 2, ⟨some 87, .fldA 0 (some 11) (.t 86), none⟩⟩,
   ⟨.v, 0, 0, 3, ⟨some 88, .load (some 11) (.t 87), none⟩⟩,
   ⟨.v, 0, 1, 4, ⟨some 89, .mv (.t 10), none⟩⟩,
   ⟨.v, 0, 1, 5, ⟨some 90, .nilchk (.t 89), none⟩⟩,
   ⟨.v, 0, 1, 6, ⟨some 91, .fldA 22 (some 5) (.t 90), none⟩⟩,
   ⟨.v, 0, 1, 7, ⟨some 92, .load (some 5) (.t 91), none⟩⟩,
   ⟨.v, 0, 2, 8, ⟨some 93, .mv (.t 10), none⟩⟩,
   ⟨.v, 0, 2, 9, ⟨some 94, .nilchk (.t 93), none⟩⟩,
   ⟨.v, 0, 2, 10, ⟨some 95, .fldA 27 (some 13) (.t 94), none⟩⟩,
   ⟨.v, 0, 2, 11, ⟨some 96, .load (some 13) (.t 95), none⟩⟩,
   ⟨.e, 0, 1, 12, ⟨none, .store 11 (.t 4) (.t 88), none⟩⟩,
   ⟨.e, 1, 2, 13, ⟨none, .store 5 (.t 5) (.t 92), none⟩⟩,
   ⟨.e, 2, 3, 14, ⟨none, .store 13 (.t 6) (.t 96), none⟩⟩]) (
   .ret)) (.skip))) (
  .seq (.dreg [
  ⟨.v, 0, 0, 0, ⟨some 98, .mv (.t 10), none⟩⟩,
  ⟨.v, 0, 0, 1, ⟨some 99, .nilchk (.t 98), none⟩⟩,
  ⟨.v, 0, 0, 2, ⟨some 100, .fldA 0 (some 11) (.t 99), none⟩⟩,
  ⟨.v, 0, 0, 3, ⟨some 101, .fldA 7 none (.t 100), none⟩⟩,
  ⟨.v, 0, 0, 4, ⟨some 102, .load none (.t 101), none⟩⟩,
  ⟨.v, 0, 0, 5, ⟨some 103, .fldA 1 none (.t 3), none⟩⟩,
  ⟨.v, 0, 0, 6, ⟨some 104, .load none (.t 103), none⟩⟩,
  ⟨.v, 0, 0, 7, ⟨some 105, .fldA 2 none (.t 3), none⟩⟩,
  ⟨.v, 0, 0, 8, ⟨some 106, .load none (.t 105), none⟩⟩,
  ⟨.v, 0, 0, 9, ⟨some 107, .mv (.t 10), none⟩⟩,
  ⟨.v, 0, 0, 10, ⟨some 108, .nilchk (.t 107), none⟩⟩,
  ⟨.v, 0, 0, 11, ⟨some 109, .fldA 22 (some 5) (.t 108), none⟩⟩,
  ⟨.v, 0, 0, 12, ⟨some 110, .load (some 5) (.t 109), none⟩⟩,
  ⟨.v, 0, 0, 13, ⟨some 111, .build [.int .i64 0, .int .i64 0, .int .i64 0, .int .i64 0, .bool false, .str [], .sl [] .nil] [(0, 1, .t 104), (1, 1, .t 106), (2, 5, .t 110)], none⟩⟩,
  ⟨.e, 0, 1, 14, ⟨some 112, .call (.c (.fn 55 [])) [.t 102, .t 111], none⟩⟩,
  ⟨.v, 1, 1, 15, ⟨some 97, .mv (.t 112), none⟩⟩,
  ⟨.v, 1, 1, 16, ⟨some 113, .ext (.t 97) 0, none⟩⟩,
  ⟨.v, 1, 1, 17, ⟨some 114, .ext (.t 97) 1, none⟩⟩,
  ⟨.v, 1, 1, 18, ⟨some 11, .mv (.t 113), none⟩⟩,
  ⟨.v, 1, 1, 19, ⟨some 12, .mv (.t 114), none⟩⟩]) (
  .seq (.seq (.reg [
  ⟨some 115, .mv (.t 12), none⟩,
  ⟨some 116, .bin .neq (.t 115) (.c (.int .i64 0)), none⟩]) (
  .cond (.t 116) (.seq (.dreg [
   ⟨.v, 0, 1, 0, ⟨some 117, .load (some 11) (.t 2), none⟩⟩,
   ⟨.v, 0, 0, 1, ⟨some 118, .mv (.t 12), none⟩⟩,
   ⟨.e, 0, 1, 2, ⟨some 119, .call (.c (.fn 48 [])) [.t 118], none⟩⟩,
   ⟨.v, 0, 3, 3, ⟨some 120, .load (some 13) (.t 7), none⟩⟩,
   ⟨.e, 1, 2, 4, ⟨none, .store 11 (.t 4) (.t 117), none⟩⟩,
   ⟨.e, 2, 3, 5, ⟨none, .store 5 (.t 5) (.t 119), none⟩⟩,
   ⟨.e, 3, 4, 6, ⟨none, .store 13 (.t 6) (.t 120), none⟩⟩]) (
   .ret)) (.skip))) (
  .seq (.reg [
  ⟨some 121, .mv (.t 10), none⟩,
  ⟨some 122, .mv (.t 11), none⟩,
  ⟨some 123, .nilchk (.t 121), none⟩,
  ⟨some 124, .fldA 0 (some 11) (.t 123), none⟩,
  ⟨some 125, .fldA 7 none (.t 124), none⟩,
  ⟨none, .store 1 (.t 125) (.t 122), none⟩]) (
  .seq (.seq (.reg [
  ⟨some 126, .mv (.t 10), none⟩,
  ⟨some 127, .nilchk (.t 126), none⟩,
  ⟨some 128, .fldA 27 (some 13) (.t 127), none⟩,
  ⟨some 129, .fldA 0 none (.t 128), none⟩,
  ⟨some 130, .load none (.t 129), none⟩]) (
  .cond (.t 130) (.reg [
   ⟨some 131, .mv (.t 10), none⟩,
   ⟨some 132, .mv (.t 11), none⟩,
   ⟨some 133, .nilchk (.t 131), none⟩,
   ⟨some 134, .fldA 27 (some 13) (.t 133), none⟩,
   ⟨some 135, .fldA 1 (some 11) (.t 134), none⟩,
   ⟨some 136, .fldA 7 none (.t 135), none⟩,
   ⟨none, .store 1 (.t 136) (.t 132), none⟩]) (.skip))) (
  .seq (.dreg [
  ⟨.v, 0, 0, 0, ⟨some 137, .mv (.t 10), none⟩⟩,
  ⟨.v, 0, 0, 1, ⟨some 138, .nilchk (.t 137), none⟩⟩,
  ⟨.v, 0, 0, 2, ⟨some 139, .fldA 0 (some 11) (.t 138), none⟩⟩,
  ⟨.v, 0, 0, 3, ⟨some 140, .load (some 11) (.t 139), none⟩⟩,
  ⟨.v, 0, 1, 4, ⟨some 141, .mv (.t 10), none⟩⟩,
  ⟨.v, 0, 1, 5, ⟨some 142, .nilchk (.t 141), none⟩⟩,
  ⟨.v, 0, 1, 6, ⟨some 143, .fldA 22 (some 5) (.t 142), none⟩⟩,
  ⟨.v, 0, 1, 7, ⟨some 144, .load (some 5) (.t 143), none⟩⟩,
  ⟨.v, 0, 2, 8, ⟨some 145, .mv (.t 10), none⟩⟩,
  ⟨.v, 0, 2, 9, ⟨some 146, .nilchk (.t 145), none⟩⟩,
  ⟨.v, 0, 2, 10, ⟨some 147, .fldA 27 (some 13) (.t 146), none⟩⟩,
  ⟨.v, 0, 2, 11, ⟨some 148, .load (some 13) (.t 147), none⟩⟩,
  ⟨.e, 0, 1, 12, ⟨none, .store 11 (.t 4) (.t 140), none⟩⟩,
  ⟨.e, 1, 2, 13, ⟨none, .store 5 (.t 5) (.t 144), none⟩⟩,
  ⟨.e, 2, 3, 14, ⟨none, .store 13 (.t 6) (.t 148), none⟩⟩]) (
  .ret))))))))))), false⟩

/-- furlong/deed.Get -/
def c17 : CF := ⟨2, 22, [.tmp 4, .tmp 5],
 .seq (.reg [
  ⟨some 2, .box 31 11 (.t 0), none⟩,
  ⟨some 4, .mv (.c (.str [])), none⟩,
  ⟨some 5, .mv (.c (.bool false)), none⟩]) (
  .seq (.seq (.reg [
  ⟨some 9, .fldA 6 none (.t 2), none⟩,
  ⟨some 10, .load none (.t 9), none⟩,
  ⟨some 11, .mv (.t 1), none⟩,
  ⟨some 12, .call (.c (.fn 56 [])) [.t 10, .t 11], none⟩,
  ⟨some 8, .mv (.t 12), none⟩,
  ⟨some 13, .ext (.t 8) 0, none⟩,
  ⟨some 14, .ext (.t 8) 1, none⟩,
  ⟨some 6, .mv (.t 13), none⟩,
  ⟨some 7, .mv (.t 14), none⟩]) (
  .seq (.reg [
  ⟨some 15, .mv (.t 7), none⟩]) (
  .cond (.t 15) (.seq (.reg [
   ⟨some 16, .fldA 6 none (.t 2), none⟩,
   ⟨some 17, .load none (.t 16), none⟩,
   ⟨some 18, .mv (.t 6), none⟩,
   ⟨some 19, .idxA none 2 (.t 17) (.t 18), none⟩,
   ⟨some 20, .fldA 1 none (.t 19), none⟩,
   ⟨some 21, .load none (.t 20), none⟩,
   ⟨some 4, .mv (.t 21), none⟩,
   ⟨some 5, .mv (.c (.bool true)), none⟩]) (
   .ret)) (.skip)))) (
  .seq (.reg [
  ⟨some 4, .mv (.c (.str [])), none⟩,
  ⟨some 5, .mv (.c (.bool false)), none⟩]) (
  .ret))), false⟩

/-- furlong/furlongref06.Is -/
def c19 : CF := ⟨1, 102, [.tmp 2],
 .seq (.reg [
  ⟨some 1, .box 26 6 (.t 0), none⟩,
  ⟨some 2, .mv (.c (.bool false)), none⟩]) (
  .seq (.seq (.reg [
  ⟨some 6, .fldA 0 none (.t 1), none⟩,
  ⟨some 7, .load none (.t 6), none⟩,
  ⟨some 8, .call (.c (.fn 57 [])) [.t 7], none⟩,
  ⟨some 9, .un .not (.t 8), none⟩,
  ⟨some 10, .mv (.t 9), none⟩,
  ⟨some 11, .fldA 3 none (.t 1), (some (10, false))⟩,
  ⟨some 12, .load none (.t 11), (some (10, false))⟩,
  ⟨some 13, .call (.c (.fn 57 [])) [.t 12], (some (10, false))⟩,
  ⟨some 14, .un .not (.t 13), (some (10, false))⟩,
  ⟨some 15, .pick (.t 10) (.c (.bool true)) (.t 14), none⟩,
  ⟨some 16, .mv (.t 15), none⟩,
  ⟨some 17, .fldA 5 none (.t 1), (some (16, false))⟩,
  ⟨some 18, .load none (.t 17), (some (16, false))⟩,
  ⟨some 19, .call (.c (.fn 57 [])) [.t 18], (some (16, false))⟩,
  ⟨some 20, .un .not (.t 19), (some (16, false))⟩,
  ⟨some 21, .pick (.t 16) (.c (.bool true)) (.t 20), none⟩,
  ⟨some 22, .mv (.t 21), none⟩,
  ⟨some 23, .fldA 1 (some 2) (.t 1), (some (22, false))⟩,
  ⟨some 24, .load (some 2) (.t 23), (some (22, false))⟩,
  ⟨some 25, .call (.c (.fn 41 [])) [.t 24], (some (22, false))⟩,
  ⟨some 26, .un .not (.t 25), (some (22, false))⟩,
  ⟨some 27, .pick (.t 22) (.c (.bool true)) (.t 26), none⟩,
  ⟨some 28, .mv (.t 27), none⟩,
  ⟨some 29, .fldA 4 none (.t 1), (some (28, false))⟩,
  ⟨some 30, .load none (.t 29), (some (28, false))⟩,
  ⟨some 31, .len .l (.t 30), (some (28, false))⟩,
  ⟨some 32, .bin .lss (.t 31) (.c (.int .i64 1)), (some (28, false))⟩,
  ⟨some 33, .pick (.t 28) (.c (.bool true)) (.t 32), none⟩,
  ⟨some 34, .mv (.t 33), none⟩,
  ⟨some 35, .fldA 4 none (.t 1), (some (34, false))⟩,
  ⟨some 36, .load none (.t 35), (some (34, false))⟩,
  ⟨some 37, .len .l (.t 36), (some (34, false))⟩,
  ⟨some 38, .bin .gtr (.t 37) (.c (.int .i64 5)), (some (34, false))⟩,
  ⟨some 39, .pick (.t 34) (.c (.bool true)) (.t 38), none⟩]) (
  .cond (.t 39) (.seq (.reg [
   ⟨some 2, .mv (.c (.bool false)), none⟩]) (
   .ret)) (.skip))) (
  .seq (.seq (.reg [
  ⟨some 3, .mv (.c (.int .i64 0)), none⟩]) (
  .block 0 (.loop [1, 3] (.seq (.seq (.reg [
   ⟨some 40, .mv (.t 3), none⟩,
   ⟨some 41, .fldA 4 none (.t 1), none⟩,
   ⟨some 42, .load none (.t 41), none⟩,
   ⟨some 43, .len .l (.t 42), none⟩,
   ⟨some 44, .bin .lss (.t 40) (.t 43), none⟩]) (
   .cond (.t 44) (.skip) (.exit 0))) (
   .seq (.block 1 (.seq (.reg [
   ⟨some 47, .fldA 4 none (.t 1), none⟩,
   ⟨some 48, .load none (.t 47), none⟩,
   ⟨some 49, .mv (.t 3), none⟩,
   ⟨some 50, .idxA none 2 (.t 48) (.t 49), none⟩,
   ⟨some 51, .load (some 2) (.t 50), none⟩,
   ⟨some 4, .alloc 70 2 [.agg [.int .i64 0, .int .i64 0]], none⟩,
   ⟨none, .store 2 (.t 4) (.t 51), none⟩]) (
   .seq (.seq (.dreg [
   ⟨.v, 0, 0, 0, ⟨some 52, .fldA 0 none (.t 4), none⟩⟩,
   ⟨.v, 0, 0, 1, ⟨some 53, .load none (.t 52), none⟩⟩,
   ⟨.v, 0, 0, 2, ⟨some 54, .bin .lss (.t 53) (.c (.int .i64 1)), none⟩⟩,
   ⟨.v, 0, 0, 3, ⟨some 55, .mv (.t 54), none⟩⟩,
   ⟨.v, 0, 0, 4, ⟨some 56, .fldA 0 none (.t 4), (some (55, false))⟩⟩,
   ⟨.v, 0, 0, 5, ⟨some 57, .load none (.t 56), (some (55, false))⟩⟩,
   ⟨.v, 0, 0, 6, ⟨some 58, .bin .gtr (.t 57) (.c (.int .i64 7)), (some (55, false))⟩⟩,
   ⟨.v, 0, 0, 7, ⟨some 59, .pick (.t 55) (.c (.bool true)) (.t 58), none⟩⟩,
   ⟨.v, 0, 0, 8, ⟨some 60, .mv (.t 59), none⟩⟩,
   ⟨.v, 0, 0, 9, ⟨some 61, .fldA 1 none (.t 4), (some (60, false))⟩⟩,
   ⟨.v, 0, 0, 10, ⟨some 62, .load none (.t 61), (some (60, false))⟩⟩,
   ⟨.v, 0, 0, 11, ⟨some 63, .bin .lss (.t 62) (.c (.int .i64 1)), (some (60, false))⟩⟩,
   ⟨.v, 0, 0, 12, ⟨some 64, .pick (.t 60) (.c (.bool true)) (.t 63), none⟩⟩,
   ⟨.v, 0, 0, 13, ⟨some 65, .mv (.t 64), none⟩⟩,
   ⟨.v, 0, 0, 14, ⟨some 66, .fldA 1 none (.t 4), (some (65, false))⟩⟩,
   ⟨.v, 0, 0, 15, ⟨some 67, .load none (.t 66), (some (65, false))⟩⟩,
   ⟨.v, 0, 0, 16, ⟨some 68, .fldA 5 none (.t 1), (some (65, false))⟩⟩,
   ⟨.v, 0, 0, 17, ⟨some 69, .load none (.t 68), (some (65, false))⟩⟩,
   ⟨.v, 0, 0, 18, ⟨some 70, .bin .geq (.t 67) (.t 69), (some (65, false))⟩⟩,
   ⟨.v, 0, 0, 19, ⟨some 71, .pick (.t 65) (.c (.bool true)) (.t 70), none⟩⟩,
   ⟨.v, 0, 0, 20, ⟨some 72, .mv (.t 71), none⟩⟩,
   ⟨.v, 0, 0, 21, ⟨some 73, .mv (.t 3), (some (72, false))⟩⟩,
   ⟨.v, 0, 0, 22, ⟨some 74, .bin .gtr (.t 73) (.c (.int .i64 0)), (some (72, false))⟩⟩,
   ⟨.v, 0, 0, 23, ⟨some 75, .mv (.t 74), (some (72, false))⟩⟩,
   ⟨.v, 0, 0, 24, ⟨some 76, .fldA 1 none (.t 4), (some (75, true))⟩⟩,
   ⟨.v, 0, 0, 25, ⟨some 77, .load none (.t 76), (some (75, true))⟩⟩,
   ⟨.v, 0, 0, 26, ⟨some 78, .fldA 4 none (.t 1), (some (75, true))⟩⟩,
   ⟨.v, 0, 0, 27, ⟨some 79, .load none (.t 78), (some (75, true))⟩⟩,
   ⟨.v, 0, 0, 28, ⟨some 80, .mv (.t 3), (some (75, true))⟩⟩,
   ⟨.v, 0, 0, 29, ⟨some 81, .bin .sub (.t 80) (.c (.int .i64 1)), (some (75, true))⟩⟩,
   ⟨.v, 0, 0, 30, ⟨some 82, .idxA none 2 (.t 79) (.t 81), (some (75, true))⟩⟩,
   ⟨.v, 0, 0, 31, ⟨some 83, .fldA 1 none (.t 82), (some (75, true))⟩⟩,
   ⟨.v, 0, 0, 32, ⟨some 84, .load none (.t 83), (some (75, true))⟩⟩,
   ⟨.v, 0, 0, 33, ⟨some 85, .bin .leq (.t 77) (.t 84), (some (75, true))⟩⟩,
   ⟨.v, 0, 0, 34, ⟨some 86, .pick (.t 75) (.t 85) (.c (.bool false)), (some (72, false))⟩⟩,
   ⟨.v, 0, 0, 35, ⟨some 87, .pick (.t 72) (.c (.bool true)) (.t 86), none⟩⟩]) (
   .cond (.t 87) (.seq (.reg [
    ⟨some 2, .mv (.c (.bool false)), none⟩]) (
    .ret)) (.skip))) (
   .seq (.reg [
   ⟨some 5, .mv (.c (.int .i64 0)), none⟩]) (
   .block 2 (.loop [1, 3, 4, 5] (.seq (.seq (.reg [
    ⟨some 88, .mv (.t 5), none⟩,
    ⟨some 89, .mv (.t 3), none⟩,
    ⟨some 90, .bin .lss (.t 88) (.t 89), none⟩]) (
    .cond (.t 90) (.skip) (.exit 2))) (
    .seq (.block 3 (.seq (.dreg [
    ⟨.v, 0, 0, 0, ⟨some 93, .fldA 4 none (.t 1), none⟩⟩,
    ⟨.v, 0, 0, 1, ⟨some 94, .load none (.t 93), none⟩⟩,
    ⟨.v, 0, 0, 2, ⟨some 95, .mv (.t 5), none⟩⟩,
    ⟨.v, 0, 0, 3, ⟨some 96, .idxA none 2 (.t 94) (.t 95), none⟩⟩,
    ⟨.v, 0, 0, 4, ⟨some 97, .fldA 0 none (.t 96), none⟩⟩,
    ⟨.v, 0, 0, 5, ⟨some 98, .load none (.t 97), none⟩⟩,
    ⟨.v, 0, 0, 6, ⟨some 99, .fldA 0 none (.t 4), none⟩⟩,
    ⟨.v, 0, 0, 7, ⟨some 100, .load none (.t 99), none⟩⟩,
    ⟨.v, 0, 0, 8, ⟨some 101, .bin .eql (.t 98) (.t 100), none⟩⟩]) (
    .cond (.t 101) (.seq (.reg [
     ⟨some 2, .mv (.c (.bool false)), none⟩]) (
     .ret)) (.skip)))) (
    .reg [
    ⟨some 91, .mv (.t 5), none⟩,
    ⟨some 92, .bin .add (.t 91) (.c (.int .i64 1)), none⟩,
    ⟨some 5, .mv (.t 92), none⟩]))))))))) (
   .reg [
   ⟨some 45, .mv (.t 3), none⟩,
   ⟨some 46, .bin .add (.t 45) (.c (.int .i64 1)), none⟩,
   ⟨some 3, .mv (.t 46), none⟩])))))) (
  .seq (.reg [
  ⟨some 2, .mv (.c (.bool true)), none⟩]) (
  .ret)))), false⟩

/-- furlong/furlonglaw12.live -/
def c20 : CF := ⟨0, 37, [.tmp 0],
 .seq (.reg [
  ⟨some 0, .mv (.c (.bool false)), none⟩]) (
  .seq (.reg [
  ⟨some 3, .call (.c (.fn 58 [])) [], none⟩,
  ⟨some 4, .build [.int .i64 0, .str []] [(1, 1, .c (.str [120]))], none⟩,
  ⟨some 5, .build [.int .i64 0, .int .i64 0, .int .i64 0, .str [], .str [], .str [], .str [], .bool false, .int .i64 0, .int .i64 0, .int .i64 0] [(0, 1, .c (.int .i64 10)), (1, 1, .c (.int .i64 1)), (2, 1, .c (.int .i64 1)), (3, 1, .c (.str [107])), (10, 1, .c (.int .i64 4))], none⟩,
  ⟨some 6, .call (.c (.fn 33 [])) [.t 5], none⟩,
  ⟨some 7, .build [.int .i64 0, .str []] [(1, 1, .t 6)], none⟩,
  ⟨some 8, .mkSl 67 2 (.agg [.int .i64 0, .str []]) 2 [(0, .t 4), (1, .t 7)], none⟩,
  ⟨some 9, .call (.c (.fn 22 [])) [.t 3, .t 8], none⟩,
  ⟨some 1, .alloc 26 6 [.agg [.int .i64 0, .str [], .str [], .int .i64 0, .sl [] .nil, .int .i64 0]], none⟩,
  ⟨none, .store 6 (.t 1) (.t 9), none⟩]) (
  .seq (.reg [
  ⟨some 10, .mkSl 2 1 (.int .i64 0) 3 [(0, .c (.int .i64 5)), (1, .c (.int .i64 9)), (2, .c (.int .i64 7))], none⟩,
  ⟨some 11, .call (.c (.fn 28 [])) [.t 10], none⟩,
  ⟨some 2, .mv (.t 11), none⟩]) (
  .seq (.reg [
  ⟨some 12, .fldA 4 none (.t 1), none⟩,
  ⟨some 13, .load none (.t 12), none⟩,
  ⟨some 14, .len .l (.t 13), none⟩,
  ⟨some 15, .bin .eql (.t 14) (.c (.int .i64 4)), none⟩,
  ⟨some 16, .mv (.t 15), none⟩,
  ⟨some 17, .fldA 5 none (.t 1), (some (16, true))⟩,
  ⟨some 18, .load none (.t 17), (some (16, true))⟩,
  ⟨some 19, .bin .eql (.t 18) (.c (.int .i64 5)), (some (16, true))⟩,
  ⟨some 20, .pick (.t 16) (.t 19) (.c (.bool false)), none⟩,
  ⟨some 21, .mv (.t 20), none⟩,
  ⟨some 22, .mv (.t 2), (some (21, true))⟩,
  ⟨some 23, .bin .eql (.t 22) (.c (.int .i64 7)), (some (21, true))⟩,
  ⟨some 24, .pick (.t 21) (.t 23) (.c (.bool false)), none⟩,
  ⟨some 25, .mv (.t 24), none⟩,
  ⟨some 26, .load (some 6) (.t 1), (some (25, true))⟩,
  ⟨some 27, .mkSl 2 1 (.int .i64 0) 3 [(0, .c (.int .i64 2)), (1, .c (.int .i64 4)), (2, .c (.int .i64 9))], (some (25, true))⟩,
  ⟨some 28, .call (.c (.fn 30 [])) [.t 26, .t 27], (some (25, true))⟩,
  ⟨some 29, .bin .eql (.t 28) (.c (.int .i64 2)), (some (25, true))⟩,
  ⟨some 30, .pick (.t 25) (.t 29) (.c (.bool false)), none⟩,
  ⟨some 31, .mv (.t 30), none⟩,
  ⟨some 32, .call (.c (.fn 58 [])) [], (some (31, true))⟩,
  ⟨some 33, .build [.int .i64 0, .str [], .str [], .int .i64 0, .sl [] .nil, .int .i64 0, .sl [] .nil, .sl [] .nil, .bool false, .sl [] .nil, .int .i64 0] [(0, 6, .t 32)], (some (31, true))⟩,
  ⟨some 34, .build [.int .i64 0, .int .i64 0, .int .i64 0, .str [], .str [], .str [], .str [], .bool false, .int .i64 0, .int .i64 0, .int .i64 0] [(0, 1, .c (.int .i64 11)), (1, 1, .c (.int .i64 1)), (2, 1, .c (.int .i64 1)), (3, 1, .c (.str [107])), (9, 1, .c (.int .i64 2))], (some (31, true))⟩,
  ⟨some 35, .call (.c (.fn 26 [])) [.t 33, .t 34], (some (31, true))⟩,
  ⟨some 36, .pick (.t 31) (.t 35) (.c (.bool false)), none⟩,
  ⟨some 0, .mv (.t 36), none⟩]) (
  .ret)))), false⟩

/-- furlong/member.Of -/
def c22 : CF := ⟨2, 50, [.cell 4 (some 6)],
 .seq (.reg [
  ⟨some 2, .box 26 6 (.t 0), none⟩,
  ⟨some 4, .alloc 26 6 [.agg [.int .i64 0, .str [], .str [], .int .i64 0, .sl [] .nil, .int .i64 0]], none⟩]) (
  .seq (.seq (.reg [
  ⟨some 10, .mv (.t 1), none⟩,
  ⟨some 11, .len .l (.t 10), none⟩,
  ⟨some 12, .mv (.c (.int .i64 0)), none⟩]) (
  .block 0 (.loop [2, 4, 10, 11, 12] (.seq (.reg [
   ⟨some 13, .bin .lss (.t 12) (.t 11), none⟩]) (
   .seq (.cond (.t 13) (.skip) (.exit 0)) (
   .seq (.block 1 (.seq (.reg [
   ⟨some 14, .idxA none 2 (.t 10) (.t 12), none⟩,
   ⟨some 15, .load (some 2) (.t 14), none⟩,
   ⟨some 6, .alloc 67 2 [.agg [.int .i64 0, .str []]], none⟩,
   ⟨none, .store 2 (.t 6) (.t 15), none⟩]) (
   .seq (.reg [
   ⟨some 17, .fldA 1 none (.t 6), none⟩,
   ⟨some 18, .load none (.t 17), none⟩,
   ⟨some 19, .call (.c (.fn 60 [])) [.t 18], none⟩,
   ⟨some 16, .mv (.t 19), none⟩,
   ⟨some 20, .ext (.t 16) 0, none⟩,
   ⟨some 21, .ext (.t 16) 1, none⟩,
   ⟨some 7, .alloc 38 11 [.agg [.int .i64 0, .int .i64 0, .int .i64 0, .str [], .str [], .str [], .str [], .bool false, .int .i64 0, .int .i64 0, .int .i64 0]], none⟩,
   ⟨none, .store 11 (.t 7) (.t 20), none⟩,
   ⟨some 8, .mv (.t 21), none⟩]) (
   .seq (.seq (.reg [
   ⟨some 22, .mv (.t 8), none⟩,
   ⟨some 23, .bin .neq (.t 22) (.c (.int .i64 0)), none⟩]) (
   .cond (.t 23) (.exit 1) (.skip))) (
   .seq (.reg [
   ⟨some 24, .load (some 6) (.t 2), none⟩,
   ⟨some 9, .alloc 26 6 [.agg [.int .i64 0, .str [], .str [], .int .i64 0, .sl [] .nil, .int .i64 0]], none⟩,
   ⟨none, .store 6 (.t 9) (.t 24), none⟩]) (
   .seq (.seq (.reg [
   ⟨some 25, .fldA 0 none (.t 7), none⟩,
   ⟨some 26, .load none (.t 25), none⟩]) (
   .block 2 (.seq (.reg [
   ⟨some 28, .bin .eql (.t 26) (.c (.int .i64 10)), none⟩,
   ⟨some 27, .mv (.t 28), none⟩]) (
   .cond (.t 27) (.reg [
    ⟨some 30, .load (some 6) (.t 2), none⟩,
    ⟨some 31, .fldA 10 none (.t 7), none⟩,
    ⟨some 32, .load none (.t 31), none⟩,
    ⟨some 33, .call (.c (.fn 61 [])) [.t 30, .t 32], none⟩,
    ⟨some 29, .mv (.t 33), none⟩,
    ⟨some 34, .ext (.t 29) 0, none⟩,
    ⟨some 35, .ext (.t 29) 1, none⟩,
    ⟨none, .store 6 (.t 9) (.t 34), none⟩,
    ⟨some 8, .mv (.t 35), none⟩]) (.seq (.reg [
    ⟨some 37, .bin .eql (.t 26) (.c (.int .i64 11)), none⟩,
    ⟨some 36, .mv (.t 37), none⟩]) (
    .cond (.t 36) (.reg [
     ⟨some 39, .load (some 6) (.t 2), none⟩,
     ⟨some 40, .fldA 9 none (.t 7), none⟩,
     ⟨some 41, .load none (.t 40), none⟩,
     ⟨some 42, .call (.c (.fn 62 [])) [.t 39, .t 41], none⟩,
     ⟨some 38, .mv (.t 42), none⟩,
     ⟨some 43, .ext (.t 38) 0, none⟩,
     ⟨some 44, .ext (.t 38) 1, none⟩,
     ⟨none, .store 6 (.t 9) (.t 43), none⟩,
     ⟨some 8, .mv (.t 44), none⟩]) (.skip))))))) (
   .seq (.reg [
   ⟨some 45, .mv (.t 8), none⟩,
   ⟨some 46, .bin .eql (.t 45) (.c (.int .i64 0)), none⟩]) (
   .cond (.t 46) (.reg [
    ⟨some 47, .load (some 6) (.t 9), none⟩,
    ⟨none, .store 6 (.t 2) (.t 47), none⟩]) (.skip))))))))) (
   .reg [
   ⟨some 48, .bin .add (.t 12) (.c (.int .i64 1)), none⟩,
   ⟨some 12, .mv (.t 48), none⟩]))))))) (
  .seq (.reg [
  ⟨some 49, .load (some 6) (.t 2), none⟩,
  ⟨none, .store 6 (.t 4) (.t 49), none⟩]) (
  .ret))), false⟩

/-- furlong/member.May -/
def c26 : CF := ⟨2, 34, [.tmp 4],
 .seq (.reg [
  ⟨some 2, .box 31 11 (.t 0), none⟩,
  ⟨some 3, .box 38 11 (.t 1), none⟩,
  ⟨some 4, .mv (.c (.bool false)), none⟩]) (
  .seq (.seq (.reg [
  ⟨some 8, .fldA 0 none (.t 3), none⟩,
  ⟨some 9, .load none (.t 8), none⟩,
  ⟨some 10, .bin .neq (.t 9) (.c (.int .i64 10)), none⟩,
  ⟨some 11, .mv (.t 10), none⟩,
  ⟨some 12, .fldA 0 none (.t 3), (some (11, true))⟩,
  ⟨some 13, .load none (.t 12), (some (11, true))⟩,
  ⟨some 14, .bin .neq (.t 13) (.c (.int .i64 11)), (some (11, true))⟩,
  ⟨some 15, .pick (.t 11) (.t 14) (.c (.bool false)), none⟩]) (
  .cond (.t 15) (.seq (.reg [
   ⟨some 4, .mv (.c (.bool false)), none⟩]) (
   .ret)) (.skip))) (
  .seq (.reg [
  ⟨some 17, .load (some 11) (.t 2), none⟩,
  ⟨some 18, .load (some 11) (.t 3), none⟩,
  ⟨some 19, .call (.c (.fn 15 [])) [.t 17, .t 18], none⟩,
  ⟨some 16, .mv (.t 19), none⟩,
  ⟨some 20, .ext (.t 16) 0, none⟩,
  ⟨some 21, .ext (.t 16) 1, none⟩,
  ⟨some 22, .ext (.t 16) 2, none⟩,
  ⟨some 5, .alloc 31 11 [.agg [.int .i64 0, .str [], .str [], .int .i64 0, .sl [] .nil, .int .i64 0, .sl [] .nil, .sl [] .nil, .bool false, .sl [] .nil, .int .i64 0]], none⟩,
  ⟨some 6, .alloc 42 5 [.agg [.int .i64 0, .int .i64 0, .bool false, .str [], .sl [] .nil]], none⟩,
  ⟨some 7, .alloc 44 13 [.agg [.bool false, .int .i64 0, .str [], .str [], .int .i64 0, .sl [] .nil, .int .i64 0, .sl [] .nil, .sl [] .nil, .bool false, .sl [] .nil, .int .i64 0, .int .i64 0]], none⟩,
  ⟨none, .store 11 (.t 5) (.t 20), none⟩,
  ⟨none, .store 5 (.t 6) (.t 21), none⟩,
  ⟨none, .store 13 (.t 7) (.t 22), none⟩]) (
  .seq (.reg [
  ⟨some 23, .fldA 0 none (.t 6), none⟩,
  ⟨some 24, .load none (.t 23), none⟩,
  ⟨some 25, .bin .eql (.t 24) (.c (.int .i64 0)), none⟩,
  ⟨some 26, .mv (.t 25), none⟩,
  ⟨some 27, .fldA 0 (some 6) (.t 2), (some (26, true))⟩,
  ⟨some 28, .load (some 6) (.t 27), (some (26, true))⟩,
  ⟨some 29, .fldA 0 (some 6) (.t 5), (some (26, true))⟩,
  ⟨some 30, .load (some 6) (.t 29), (some (26, true))⟩,
  ⟨some 31, .call (.c (.fn 67 [])) [.t 28, .t 30], (some (26, true))⟩,
  ⟨some 32, .un .not (.t 31), (some (26, true))⟩,
  ⟨some 33, .pick (.t 26) (.t 32) (.c (.bool false)), none⟩,
  ⟨some 4, .mv (.t 33), none⟩]) (
  .ret)))), false⟩

/-- furlong/member.Agreed -/
def c28 : CF := ⟨1, 17, [.tmp 2],
 .seq (.reg [
  ⟨some 2, .mv (.c (.int .i64 0)), none⟩]) (
  .seq (.seq (.reg [
  ⟨some 3, .mv (.t 0), none⟩,
  ⟨some 4, .len .l (.t 3), none⟩,
  ⟨some 5, .bin .eql (.t 4) (.c (.int .i64 0)), none⟩]) (
  .cond (.t 5) (.seq (.reg [
   ⟨some 2, .mv (.c (.int .i64 0)), none⟩]) (
   .ret)) (.skip))) (
  .seq (.reg [
  ⟨some 6, .mv (.t 0), none⟩,
  ⟨some 7, .call (.c (.fn 70 [])) [.t 6], none⟩,
  ⟨some 8, .call (.c (.fn 69 [])) [.t 7], none⟩,
  ⟨some 9, .mv (.t 0), none⟩,
  ⟨some 10, .len .l (.t 9), none⟩,
  ⟨some 11, .mv (.t 0), none⟩,
  ⟨some 12, .len .l (.t 11), none⟩,
  ⟨some 13, .call (.c (.fn 34 [])) [.t 12], none⟩,
  ⟨some 14, .bin .sub (.t 10) (.t 13), none⟩,
  ⟨some 15, .idxA none 1 (.t 8) (.t 14), none⟩,
  ⟨some 16, .load none (.t 15), none⟩,
  ⟨some 2, .mv (.t 16), none⟩]) (
  .ret))), false⟩

/-- furlong/furlongref12.Agreed -/
def c29 : CF := ⟨1, 45, [.tmp 2],
 .seq (.reg [
  ⟨some 2, .mv (.c (.int .i64 0)), none⟩]) (
  .seq (.seq (.reg [
  ⟨some 7, .mv (.t 0), none⟩,
  ⟨some 8, .len .l (.t 7), none⟩,
  ⟨some 9, .bin .eql (.t 8) (.c (.int .i64 0)), none⟩]) (
  .cond (.t 9) (.seq (.reg [
   ⟨some 2, .mv (.c (.int .i64 0)), none⟩]) (
   .ret)) (.skip))) (
  .seq (.reg [
  ⟨some 3, .mv (.c (.int .i64 (-9223372036854775808))), none⟩]) (
  .seq (.seq (.reg [
  ⟨some 4, .mv (.c (.int .i64 0)), none⟩]) (
  .block 0 (.loop [0, 3, 4] (.seq (.seq (.reg [
   ⟨some 10, .mv (.t 4), none⟩,
   ⟨some 11, .mv (.t 0), none⟩,
   ⟨some 12, .len .l (.t 11), none⟩,
   ⟨some 13, .bin .lss (.t 10) (.t 12), none⟩]) (
   .cond (.t 13) (.skip) (.exit 0))) (
   .seq (.block 1 (.seq (.reg [
   ⟨some 5, .mv (.c (.int .i64 0)), none⟩]) (
   .seq (.seq (.reg [
   ⟨some 6, .mv (.c (.int .i64 0)), none⟩]) (
   .block 2 (.loop [0, 3, 4, 5, 6] (.seq (.seq (.reg [
    ⟨some 16, .mv (.t 6), none⟩,
    ⟨some 17, .mv (.t 0), none⟩,
    ⟨some 18, .len .l (.t 17), none⟩,
    ⟨some 19, .bin .lss (.t 16) (.t 18), none⟩]) (
    .cond (.t 19) (.skip) (.exit 2))) (
    .seq (.block 3 (.seq (.dreg [
    ⟨.v, 0, 0, 0, ⟨some 22, .mv (.t 0), none⟩⟩,
    ⟨.v, 0, 0, 1, ⟨some 23, .mv (.t 6), none⟩⟩,
    ⟨.v, 0, 0, 2, ⟨some 24, .idxA none 1 (.t 22) (.t 23), none⟩⟩,
    ⟨.v, 0, 0, 3, ⟨some 25, .load none (.t 24), none⟩⟩,
    ⟨.v, 0, 0, 4, ⟨some 26, .mv (.t 0), none⟩⟩,
    ⟨.v, 0, 0, 5, ⟨some 27, .mv (.t 4), none⟩⟩,
    ⟨.v, 0, 0, 6, ⟨some 28, .idxA none 1 (.t 26) (.t 27), none⟩⟩,
    ⟨.v, 0, 0, 7, ⟨some 29, .load none (.t 28), none⟩⟩,
    ⟨.v, 0, 0, 8, ⟨some 30, .bin .geq (.t 25) (.t 29), none⟩⟩]) (
    .cond (.t 30) (.reg [
     ⟨some 31, .mv (.t 5), none⟩,
     ⟨some 32, .bin .add (.t 31) (.c (.int .i64 1)), none⟩,
     ⟨some 5, .mv (.t 32), none⟩]) (.skip)))) (
    .reg [
    ⟨some 20, .mv (.t 6), none⟩,
    ⟨some 21, .bin .add (.t 20) (.c (.int .i64 1)), none⟩,
    ⟨some 6, .mv (.t 21), none⟩])))))) (
   .seq (.reg [
   ⟨some 33, .mv (.t 5), none⟩,
   ⟨some 34, .bin .mul (.c (.int .i64 2)) (.t 33), none⟩,
   ⟨some 35, .mv (.t 0), none⟩,
   ⟨some 36, .len .l (.t 35), none⟩,
   ⟨some 37, .bin .gtr (.t 34) (.t 36), none⟩]) (
   .cond (.t 37) (.reg [
    ⟨some 38, .mv (.t 3), none⟩,
    ⟨some 39, .mv (.t 0), none⟩,
    ⟨some 40, .mv (.t 4), none⟩,
    ⟨some 41, .idxA none 1 (.t 39) (.t 40), none⟩,
    ⟨some 42, .load none (.t 41), none⟩,
    ⟨some 43, .mnx true [.t 38, .t 42], none⟩,
    ⟨some 3, .mv (.t 43), none⟩]) (.skip)))))) (
   .reg [
   ⟨some 14, .mv (.t 4), none⟩,
   ⟨some 15, .bin .add (.t 14) (.c (.int .i64 1)), none⟩,
   ⟨some 4, .mv (.t 15), none⟩])))))) (
  .seq (.reg [
  ⟨some 44, .mv (.t 3), none⟩,
  ⟨some 2, .mv (.t 44), none⟩]) (
  .ret))))), false⟩

/-- furlong/member.Count -/
def c30 : CF := ⟨2, 11, [.tmp 4],
 .seq (.reg [
  ⟨some 2, .box 26 6 (.t 0), none⟩,
  ⟨some 3, .box 29 1 (.t 1), none⟩,
  ⟨some 4, .mv (.c (.int .i64 0)), none⟩]) (
  .seq (.reg [
  ⟨some 5, .fldA 4 none (.t 2), none⟩,
  ⟨some 6, .load none (.t 5), none⟩,
  ⟨some 7, .call (.c (.fn 72 [])) [.t 6], none⟩,
  ⟨some 8, .mkFn 73 [.t 3], none⟩,
  ⟨some 9, .call (.c (.fn 71 [])) [.t 7, .t 8], none⟩,
  ⟨some 10, .len .l (.t 9), none⟩,
  ⟨some 4, .mv (.t 10), none⟩]) (
  .ret)), false⟩

/-- furlong/furlongref12.Count -/
def c31 : CF := ⟨2, 25, [.tmp 4],
 .seq (.reg [
  ⟨some 2, .box 26 6 (.t 0), none⟩,
  ⟨some 4, .mv (.c (.int .i64 0)), none⟩]) (
  .seq (.reg [
  ⟨some 5, .mv (.c (.int .i64 0)), none⟩]) (
  .seq (.seq (.reg [
  ⟨some 6, .mv (.c (.int .i64 0)), none⟩]) (
  .block 0 (.loop [1, 2, 5, 6] (.seq (.seq (.reg [
   ⟨some 7, .mv (.t 6), none⟩,
   ⟨some 8, .fldA 4 none (.t 2), none⟩,
   ⟨some 9, .load none (.t 8), none⟩,
   ⟨some 10, .len .l (.t 9), none⟩,
   ⟨some 11, .bin .lss (.t 7) (.t 10), none⟩]) (
   .cond (.t 11) (.skip) (.exit 0))) (
   .seq (.block 1 (.seq (.reg [
   ⟨some 14, .mv (.t 1), none⟩,
   ⟨some 15, .fldA 4 none (.t 2), none⟩,
   ⟨some 16, .load none (.t 15), none⟩,
   ⟨some 17, .mv (.t 6), none⟩,
   ⟨some 18, .idxA none 2 (.t 16) (.t 17), none⟩,
   ⟨some 19, .fldA 1 none (.t 18), none⟩,
   ⟨some 20, .load none (.t 19), none⟩,
   ⟨some 21, .call (.c (.fn 32 [])) [.t 14, .t 20], none⟩]) (
   .cond (.t 21) (.reg [
    ⟨some 22, .mv (.t 5), none⟩,
    ⟨some 23, .bin .add (.t 22) (.c (.int .i64 1)), none⟩,
    ⟨some 5, .mv (.t 23), none⟩]) (.skip)))) (
   .reg [
   ⟨some 12, .mv (.t 6), none⟩,
   ⟨some 13, .bin .add (.t 12) (.c (.int .i64 1)), none⟩,
   ⟨some 6, .mv (.t 13), none⟩])))))) (
  .seq (.reg [
  ⟨some 24, .mv (.t 5), none⟩,
  ⟨some 4, .mv (.t 24), none⟩]) (
  .ret)))), false⟩

/-- furlong/furlongref12.In -/
def c32 : CF := ⟨2, 18, [.tmp 4],
 .seq (.reg [
  ⟨some 4, .mv (.c (.bool false)), none⟩]) (
  .seq (.seq (.reg [
  ⟨some 5, .mv (.c (.int .i64 0)), none⟩]) (
  .block 0 (.loop [0, 1, 5] (.seq (.seq (.reg [
   ⟨some 6, .mv (.t 5), none⟩,
   ⟨some 7, .mv (.t 0), none⟩,
   ⟨some 8, .len .l (.t 7), none⟩,
   ⟨some 9, .bin .lss (.t 6) (.t 8), none⟩]) (
   .cond (.t 9) (.skip) (.exit 0))) (
   .seq (.block 1 (.seq (.reg [
   ⟨some 12, .mv (.t 0), none⟩,
   ⟨some 13, .mv (.t 5), none⟩,
   ⟨some 14, .idxA none 1 (.t 12) (.t 13), none⟩,
   ⟨some 15, .load none (.t 14), none⟩,
   ⟨some 16, .mv (.t 1), none⟩,
   ⟨some 17, .bin .eql (.t 15) (.t 16), none⟩]) (
   .cond (.t 17) (.seq (.reg [
    ⟨some 4, .mv (.c (.bool true)), none⟩]) (
    .ret)) (.skip)))) (
   .reg [
   ⟨some 10, .mv (.t 5), none⟩,
   ⟨some 11, .bin .add (.t 10) (.c (.int .i64 1)), none⟩,
   ⟨some 5, .mv (.t 11), none⟩])))))) (
  .seq (.reg [
  ⟨some 4, .mv (.c (.bool false)), none⟩]) (
  .ret))), false⟩

/-- furlong/furlongref07.Put -/
def c33 : CF := ⟨1, 34, [.tmp 2],
 .seq (.reg [
  ⟨some 1, .box 38 11 (.t 0), none⟩,
  ⟨some 2, .mv (.c (.str [])), none⟩]) (
  .seq (.dreg [
  ⟨.v, 0, 0, 0, ⟨some 3, .fldA 0 none (.t 1), none⟩⟩,
  ⟨.v, 0, 0, 1, ⟨some 4, .load none (.t 3), none⟩⟩,
  ⟨.e, 0, 1, 2, ⟨some 5, .call (.c (.fn 76 [])) [.t 4], none⟩⟩,
  ⟨.v, 0, 1, 3, ⟨some 6, .fldA 1 none (.t 1), none⟩⟩,
  ⟨.v, 0, 1, 4, ⟨some 7, .load none (.t 6), none⟩⟩,
  ⟨.e, 1, 2, 5, ⟨some 8, .call (.c (.fn 76 [])) [.t 7], none⟩⟩,
  ⟨.v, 0, 2, 6, ⟨some 9, .fldA 2 none (.t 1), none⟩⟩,
  ⟨.v, 0, 2, 7, ⟨some 10, .load none (.t 9), none⟩⟩,
  ⟨.e, 2, 3, 8, ⟨some 11, .call (.c (.fn 76 [])) [.t 10], none⟩⟩,
  ⟨.v, 0, 7, 9, ⟨some 12, .fldA 3 none (.t 1), none⟩⟩,
  ⟨.v, 0, 7, 10, ⟨some 13, .load none (.t 12), none⟩⟩,
  ⟨.v, 0, 7, 11, ⟨some 14, .fldA 4 none (.t 1), none⟩⟩,
  ⟨.v, 0, 7, 12, ⟨some 15, .load none (.t 14), none⟩⟩,
  ⟨.v, 0, 7, 13, ⟨some 16, .fldA 5 none (.t 1), none⟩⟩,
  ⟨.v, 0, 7, 14, ⟨some 17, .load none (.t 16), none⟩⟩,
  ⟨.v, 0, 7, 15, ⟨some 18, .fldA 6 none (.t 1), none⟩⟩,
  ⟨.v, 0, 7, 16, ⟨some 19, .load none (.t 18), none⟩⟩,
  ⟨.v, 0, 3, 17, ⟨some 20, .fldA 7 none (.t 1), none⟩⟩,
  ⟨.v, 0, 3, 18, ⟨some 21, .load none (.t 20), none⟩⟩,
  ⟨.e, 3, 4, 19, ⟨some 22, .call (.c (.fn 77 [])) [.t 21], none⟩⟩,
  ⟨.v, 0, 4, 20, ⟨some 23, .fldA 8 none (.t 1), none⟩⟩,
  ⟨.v, 0, 4, 21, ⟨some 24, .load none (.t 23), none⟩⟩,
  ⟨.e, 4, 5, 22, ⟨some 25, .call (.c (.fn 76 [])) [.t 24], none⟩⟩,
  ⟨.v, 0, 5, 23, ⟨some 26, .fldA 9 none (.t 1), none⟩⟩,
  ⟨.v, 0, 5, 24, ⟨some 27, .load none (.t 26), none⟩⟩,
  ⟨.e, 5, 6, 25, ⟨some 28, .call (.c (.fn 76 [])) [.t 27], none⟩⟩,
  ⟨.v, 0, 6, 26, ⟨some 29, .fldA 10 none (.t 1), none⟩⟩,
  ⟨.v, 0, 6, 27, ⟨some 30, .load none (.t 29), none⟩⟩,
  ⟨.e, 6, 7, 28, ⟨some 31, .call (.c (.fn 76 [])) [.t 30], none⟩⟩,
  ⟨.e, 7, 8, 29, ⟨some 32, .mkSl 9 1 (.str []) 11 [(0, .t 5), (1, .t 8), (2, .t 11), (3, .t 13), (4, .t 15), (5, .t 17), (6, .t 19), (7, .t 22), (8, .t 25), (9, .t 28), (10, .t 31)], none⟩⟩,
  ⟨.e, 8, 9, 30, ⟨some 33, .call (.c (.fn 75 [])) [.t 32], none⟩⟩,
  ⟨.v, 9, 9, 31, ⟨some 2, .mv (.t 33), none⟩⟩]) (
  .ret)), false⟩

/-- furlong/desc.Quorum -/
def c34 : CF := ⟨1, 6, [.tmp 2],
 .seq (.reg [
  ⟨some 2, .mv (.c (.int .i64 0)), none⟩]) (
  .seq (.reg [
  ⟨some 3, .mv (.t 0), none⟩,
  ⟨some 4, .bin .quo (.t 3) (.c (.int .i64 2)), none⟩,
  ⟨some 5, .bin .add (.t 4) (.c (.int .i64 1)), none⟩,
  ⟨some 2, .mv (.t 5), none⟩]) (
  .ret)), false⟩

/-- furlong/desc.Has -/
def c35 : CF := ⟨2, 11, [.cell 4 (some 2), .tmp 5],
 .seq (.reg [
  ⟨some 2, .box 26 6 (.t 0), none⟩,
  ⟨some 3, .box 2 1 (.t 1), none⟩,
  ⟨some 4, .alloc 70 2 [.agg [.int .i64 0, .int .i64 0]], none⟩,
  ⟨some 5, .mv (.c (.bool false)), none⟩]) (
  .seq (.reg [
  ⟨some 6, .load (some 6) (.t 2), none⟩,
  ⟨some 7, .mkFn 79 [.t 3], none⟩,
  ⟨some 8, .call (.c (.fn 78 [])) [.t 6, .t 7], none⟩,
  ⟨some 9, .ext (.t 8) 0, none⟩,
  ⟨some 10, .ext (.t 8) 1, none⟩,
  ⟨none, .store 2 (.t 4) (.t 9), none⟩,
  ⟨some 5, .mv (.t 10), none⟩]) (
  .ret)), false⟩

/-- furlong/furlongref02.Is -/
def c41 : CF := ⟨1, 25, [.tmp 2],
 .seq (.reg [
  ⟨some 1, .box 23 2 (.t 0), none⟩,
  ⟨some 2, .mv (.c (.bool false)), none⟩]) (
  .seq (.reg [
  ⟨some 3, .fldA 0 none (.t 1), none⟩,
  ⟨some 4, .load none (.t 3), none⟩,
  ⟨some 5, .len .s (.t 4), none⟩,
  ⟨some 6, .bin .leq (.t 5) (.c (.int .i64 33)), none⟩,
  ⟨some 7, .mv (.t 6), none⟩,
  ⟨some 8, .fldA 1 none (.t 1), (some (7, true))⟩,
  ⟨some 9, .load none (.t 8), (some (7, true))⟩,
  ⟨some 10, .len .s (.t 9), (some (7, true))⟩,
  ⟨some 11, .bin .leq (.t 10) (.c (.int .i64 33)), (some (7, true))⟩,
  ⟨some 12, .pick (.t 7) (.t 11) (.c (.bool false)), none⟩,
  ⟨some 13, .mv (.t 12), none⟩,
  ⟨some 14, .fldA 1 none (.t 1), (some (13, true))⟩,
  ⟨some 15, .load none (.t 14), (some (13, true))⟩,
  ⟨some 16, .bin .eql (.t 15) (.c (.str [])), (some (13, true))⟩,
  ⟨some 17, .mv (.t 16), (some (13, true))⟩,
  ⟨some 18, .fldA 1 none (.t 1), (some (17, false))⟩,
  ⟨some 19, .load none (.t 18), (some (17, false))⟩,
  ⟨some 20, .fldA 0 none (.t 1), (some (17, false))⟩,
  ⟨some 21, .load none (.t 20), (some (17, false))⟩,
  ⟨some 22, .bin .gtr (.t 19) (.t 21), (some (17, false))⟩,
  ⟨some 23, .pick (.t 17) (.c (.bool true)) (.t 22), (some (13, true))⟩,
  ⟨some 24, .pick (.t 13) (.t 23) (.c (.bool false)), none⟩,
  ⟨some 2, .mv (.t 24), none⟩]) (
  .ret)), false⟩

/-- furlong/session.Ask -/
def c46 : CF := ⟨3, 34, [.cell 6 (some 5), .tmp 7],
 .seq (.reg [
  ⟨some 6, .alloc 42 5 [.agg [.int .i64 0, .int .i64 0, .bool false, .str [], .sl [] .nil]], none⟩,
  ⟨some 7, .mv (.c (.bool false)), none⟩]) (
  .seq (.reg [
  ⟨some 11, .mv (.t 0), none⟩,
  ⟨some 12, .mv (.t 1), none⟩,
  ⟨some 13, .call (.c (.fn 87 [])) [.t 11, .t 12], none⟩,
  ⟨some 10, .mv (.t 13), none⟩,
  ⟨some 14, .ext (.t 10) 0, none⟩,
  ⟨some 15, .ext (.t 10) 1, none⟩,
  ⟨some 8, .alloc 99 7 [.agg [.int .i64 0, .int .i64 0, .int .i64 0, .int .i64 0, .bool false, .str [], .sl [] .nil]], none⟩,
  ⟨none, .store 7 (.t 8) (.t 14), none⟩,
  ⟨some 9, .mv (.t 15), none⟩]) (
  .block 0 (.seq (.reg [
  ⟨some 19, .mv (.t 9), none⟩,
  ⟨some 20, .un .not (.t 19), none⟩,
  ⟨some 21, .mv (.t 20), none⟩,
  ⟨some 22, .fldA 1 none (.t 8), (some (21, false))⟩,
  ⟨some 23, .load none (.t 22), (some (21, false))⟩,
  ⟨some 24, .mv (.t 2), (some (21, false))⟩,
  ⟨some 25, .bin .lss (.t 23) (.t 24), (some (21, false))⟩,
  ⟨some 26, .pick (.t 21) (.c (.bool true)) (.t 25), none⟩,
  ⟨some 18, .mv (.t 26), none⟩]) (
  .cond (.t 18) (.seq (.reg [
   ⟨some 27, .build [.int .i64 0, .int .i64 0, .bool false, .str [], .sl [] .nil] [], none⟩,
   ⟨none, .store 5 (.t 6) (.t 27), none⟩,
   ⟨some 7, .mv (.c (.bool false)), none⟩]) (
   .ret)) (.seq (.reg [
   ⟨some 29, .fldA 1 none (.t 8), none⟩,
   ⟨some 30, .load none (.t 29), none⟩,
   ⟨some 31, .mv (.t 2), none⟩,
   ⟨some 32, .bin .gtr (.t 30) (.t 31), none⟩,
   ⟨some 28, .mv (.t 32), none⟩]) (
   .cond (.t 28) (.seq (.reg [
    ⟨some 33, .build [.int .i64 0, .int .i64 0, .bool false, .str [], .sl [] .nil] [(0, 1, .c (.int .i64 3))], none⟩,
    ⟨none, .store 5 (.t 6) (.t 33), none⟩,
    ⟨some 7, .mv (.c (.bool true)), none⟩]) (
    .ret)) (.seq (.reg [
    ⟨some 16, .fldA 2 (some 5) (.t 8), none⟩,
    ⟨some 17, .load (some 5) (.t 16), none⟩,
    ⟨none, .store 5 (.t 6) (.t 17), none⟩,
    ⟨some 7, .mv (.c (.bool true)), none⟩]) (
    .ret)))))))), false⟩

/-- furlong/order.Check -/
def c47 : CF := ⟨1, 38, [.tmp 2],
 .seq (.reg [
  ⟨some 1, .box 38 11 (.t 0), none⟩,
  ⟨some 2, .mv (.c (.int .i64 0)), none⟩]) (
  .seq (.reg [
  ⟨some 8, .load (some 11) (.t 1), none⟩,
  ⟨some 9, .call (.c (.fn 88 [])) [.t 8], none⟩,
  ⟨some 7, .mv (.t 9), none⟩,
  ⟨some 10, .ext (.t 7) 0, none⟩,
  ⟨some 11, .ext (.t 7) 1, none⟩,
  ⟨some 3, .alloc 38 11 [.agg [.int .i64 0, .int .i64 0, .int .i64 0, .str [], .str [], .str [], .str [], .bool false, .int .i64 0, .int .i64 0, .int .i64 0]], none⟩,
  ⟨none, .store 11 (.t 3) (.t 10), none⟩,
  ⟨some 4, .mv (.t 11), none⟩]) (
  .seq (.reg [
  ⟨some 5, .mv (.c (.int .i64 1)), none⟩]) (
  .seq (.reg [
  ⟨some 6, .mv (.c (.int .i64 1099511627776)), none⟩]) (
  .seq (.seq (.reg [
  ⟨some 12, .fldA 0 none (.t 1), none⟩,
  ⟨some 13, .load none (.t 12), none⟩,
  ⟨some 14, .bin .eql (.t 13) (.c (.int .i64 0)), none⟩]) (
  .cond (.t 14) (.reg [
   ⟨some 5, .mv (.c (.int .i64 0)), none⟩,
   ⟨some 6, .mv (.c (.int .i64 0)), none⟩]) (.skip))) (
  .seq (.seq (.reg [
  ⟨some 15, .mv (.t 4), none⟩,
  ⟨some 16, .un .not (.t 15), none⟩,
  ⟨some 17, .mv (.t 16), none⟩,
  ⟨some 18, .load (some 11) (.t 3), (some (17, false))⟩,
  ⟨some 19, .load (some 11) (.t 1), (some (17, false))⟩,
  ⟨some 20, .eqv true (.a [.i, .i, .i, .s, .s, .s, .s, .b, .i, .i, .i]) (.t 18) (.t 19), (some (17, false))⟩,
  ⟨some 21, .pick (.t 17) (.c (.bool true)) (.t 20), none⟩,
  ⟨some 22, .mv (.t 21), none⟩,
  ⟨some 23, .fldA 1 none (.t 1), (some (22, false))⟩,
  ⟨some 24, .load none (.t 23), (some (22, false))⟩,
  ⟨some 25, .mv (.t 5), (some (22, false))⟩,
  ⟨some 26, .mv (.t 6), (some (22, false))⟩,
  ⟨some 27, .call (.c (.fn 89 [])) [.t 24, .t 25, .t 26], (some (22, false))⟩,
  ⟨some 28, .un .not (.t 27), (some (22, false))⟩,
  ⟨some 29, .pick (.t 22) (.c (.bool true)) (.t 28), none⟩,
  ⟨some 30, .mv (.t 29), none⟩,
  ⟨some 31, .fldA 2 none (.t 1), (some (30, false))⟩,
  ⟨some 32, .load none (.t 31), (some (30, false))⟩,
  ⟨some 33, .mv (.t 5), (some (30, false))⟩,
  ⟨some 34, .mv (.t 6), (some (30, false))⟩,
  ⟨some 35, .call (.c (.fn 89 [])) [.t 32, .t 33, .t 34], (some (30, false))⟩,
  ⟨some 36, .un .not (.t 35), (some (30, false))⟩,
  ⟨some 37, .pick (.t 30) (.c (.bool true)) (.t 36), none⟩]) (
  .cond (.t 37) (.seq (.reg [
   ⟨some 2, .mv (.c (.int .i64 70)), none⟩]) (
   .ret)) (.skip))) (
  .seq (.reg [
  ⟨some 2, .mv (.c (.int .i64 0)), none⟩]) (
  .ret))))))), false⟩

/-- furlong/order.Keyed -/
def c49 : CF := ⟨1, 14, [.tmp 2],
 .seq (.reg [
  ⟨some 2, .mv (.c (.bool false)), none⟩]) (
  .seq (.seq (.reg [
  ⟨some 3, .mv (.t 0), none⟩]) (
  .block 0 (.seq (.seq (.reg [
  ⟨some 5, .bin .eql (.t 3) (.c (.int .i64 0)), none⟩,
  ⟨some 4, .mv (.t 5), none⟩]) (
  .cond (.t 4) (.skip) (.seq (.reg [
   ⟨some 6, .bin .eql (.t 3) (.c (.int .i64 6)), none⟩,
   ⟨some 4, .mv (.t 6), none⟩]) (
   .cond (.t 4) (.skip) (.reg [
    ⟨some 7, .bin .eql (.t 3) (.c (.int .i64 13)), none⟩,
    ⟨some 4, .mv (.t 7), none⟩]))))) (
  .cond (.t 4) (.seq (.reg [
   ⟨some 2, .mv (.c (.bool false)), none⟩]) (
   .ret)) (.skip))))) (
  .seq (.reg [
  ⟨some 8, .mv (.t 0), none⟩,
  ⟨some 9, .bin .gtr (.t 8) (.c (.int .i64 0)), none⟩,
  ⟨some 10, .mv (.t 9), none⟩,
  ⟨some 11, .mv (.t 0), (some (10, true))⟩,
  ⟨some 12, .bin .lss (.t 11) (.c (.int .i64 13)), (some (10, true))⟩,
  ⟨some 13, .pick (.t 10) (.t 12) (.c (.bool false)), none⟩,
  ⟨some 2, .mv (.t 13), none⟩]) (
  .ret))), false⟩

/-- furlong/bound.Has -/
def c50 : CF := ⟨2, 14, [.tmp 4],
 .seq (.reg [
  ⟨some 2, .box 23 2 (.t 0), none⟩,
  ⟨some 4, .mv (.c (.bool false)), none⟩]) (
  .seq (.reg [
  ⟨some 5, .mv (.t 1), none⟩,
  ⟨some 6, .fldA 0 none (.t 2), none⟩,
  ⟨some 7, .load none (.t 6), none⟩,
  ⟨some 8, .bin .geq (.t 5) (.t 7), none⟩,
  ⟨some 9, .mv (.t 8), none⟩,
  ⟨some 10, .load (some 2) (.t 2), (some (9, true))⟩,
  ⟨some 11, .mv (.t 1), (some (9, true))⟩,
  ⟨some 12, .call (.c (.fn 90 [])) [.t 10, .t 11], (some (9, true))⟩,
  ⟨some 13, .pick (.t 9) (.t 12) (.c (.bool false)), none⟩,
  ⟨some 4, .mv (.t 13), none⟩]) (
  .ret)), false⟩

/-- (*furlong/plot.work).do -/
def c53 : CF := ⟨1, 157, [],
 .seq (.reg [
  ⟨some 6, .mv (.t 0), none⟩,
  ⟨some 7, .nilchk (.t 6), none⟩,
  ⟨some 8, .fldA 11 (some 11) (.t 7), none⟩,
  ⟨some 9, .load (some 11) (.t 8), none⟩,
  ⟨some 2, .alloc 38 11 [.agg [.int .i64 0, .int .i64 0, .int .i64 0, .str [], .str [], .str [], .str [], .bool false, .int .i64 0, .int .i64 0, .int .i64 0]], none⟩,
  ⟨none, .store 11 (.t 2) (.t 9), none⟩]) (
  .seq (.dreg [
  ⟨.v, 0, 0, 0, ⟨some 11, .mv (.t 0), none⟩⟩,
  ⟨.v, 0, 0, 1, ⟨some 12, .nilchk (.t 11), none⟩⟩,
  ⟨.v, 0, 0, 2, ⟨some 13, .fldA 0 (some 11) (.t 12), none⟩⟩,
  ⟨.v, 0, 0, 3, ⟨some 14, .load (some 11) (.t 13), none⟩⟩,
  ⟨.v, 0, 0, 4, ⟨some 15, .fldA 3 none (.t 2), none⟩⟩,
  ⟨.v, 0, 0, 5, ⟨some 16, .load none (.t 15), none⟩⟩,
  ⟨.e, 0, 1, 6, ⟨some 17, .call (.c (.fn 17 [])) [.t 14, .t 16], none⟩⟩,
  ⟨.v, 1, 1, 7, ⟨some 10, .mv (.t 17), none⟩⟩,
  ⟨.v, 1, 1, 8, ⟨some 18, .ext (.t 10) 0, none⟩⟩,
  ⟨.v, 1, 1, 9, ⟨some 19, .ext (.t 10) 1, none⟩⟩,
  ⟨.v, 1, 1, 10, ⟨some 3, .mv (.t 18), none⟩⟩,
  ⟨.v, 1, 1, 11, ⟨some 4, .mv (.t 19), none⟩⟩]) (
  .seq (.reg [
  ⟨some 20, .fldA 3 none (.t 2), none⟩,
  ⟨some 21, .load none (.t 20), none⟩,
  ⟨some 22, .fldA 5 none (.t 2), none⟩,
  ⟨some 23, .load none (.t 22), none⟩,
  ⟨some 24, .build [.str [], .str [], .bool false] [(0, 1, .t 21), (1, 1, .t 23)], none⟩,
  ⟨some 5, .alloc 143 3 [.agg [.str [], .str [], .bool false]], none⟩,
  ⟨none, .store 3 (.t 5) (.t 24), none⟩]) (
  .seq (.reg [
  ⟨some 25, .fldA 0 none (.t 2), none⟩,
  ⟨some 26, .load none (.t 25), none⟩]) (
  .block 0 (.seq (.block 13 (.seq (.block 12 (.seq (.block 11 (.seq (.block 10 (.seq (.block 9 (.seq (.block 8 (.seq (.block 7 (.seq (.block 6 (.seq (.block 5 (.seq (.block 4 (.seq (.block 3 (.seq (.block 2 (.seq (.block 1 (.seq (.seq (.seq (.reg [
  ⟨some 28, .bin .eql (.t 26) (.c (.int .i64 1)), none⟩,
  ⟨some 27, .mv (.t 28), none⟩]) (
  .cond (.t 27) (.exit 1) (.skip))) (
  .seq (.seq (.reg [
  ⟨some 30, .bin .eql (.t 26) (.c (.int .i64 3)), none⟩,
  ⟨some 29, .mv (.t 30), none⟩]) (
  .cond (.t 29) (.exit 2) (.skip))) (
  .seq (.seq (.reg [
  ⟨some 32, .bin .eql (.t 26) (.c (.int .i64 2)), none⟩,
  ⟨some 31, .mv (.t 32), none⟩]) (
  .cond (.t 31) (.exit 3) (.skip))) (
  .seq (.seq (.reg [
  ⟨some 34, .bin .eql (.t 26) (.c (.int .i64 4)), none⟩,
  ⟨some 33, .mv (.t 34), none⟩]) (
  .cond (.t 33) (.exit 4) (.skip))) (
  .seq (.seq (.reg [
  ⟨some 36, .bin .eql (.t 26) (.c (.int .i64 5)), none⟩,
  ⟨some 35, .mv (.t 36), none⟩]) (
  .cond (.t 35) (.exit 5) (.skip))) (
  .seq (.seq (.reg [
  ⟨some 38, .bin .eql (.t 26) (.c (.int .i64 6)), none⟩,
  ⟨some 37, .mv (.t 38), none⟩]) (
  .cond (.t 37) (.exit 6) (.skip))) (
  .seq (.seq (.reg [
  ⟨some 40, .bin .eql (.t 26) (.c (.int .i64 7)), none⟩,
  ⟨some 39, .mv (.t 40), none⟩]) (
  .cond (.t 39) (.exit 7) (.skip))) (
  .seq (.seq (.reg [
  ⟨some 42, .bin .eql (.t 26) (.c (.int .i64 8)), none⟩,
  ⟨some 41, .mv (.t 42), none⟩]) (
  .cond (.t 41) (.exit 8) (.skip))) (
  .seq (.seq (.reg [
  ⟨some 44, .bin .eql (.t 26) (.c (.int .i64 9)), none⟩,
  ⟨some 43, .mv (.t 44), none⟩]) (
  .cond (.t 43) (.exit 9) (.skip))) (
  .seq (.seq (.reg [
  ⟨some 46, .bin .eql (.t 26) (.c (.int .i64 10)), none⟩,
  ⟨some 45, .mv (.t 46), none⟩]) (
  .cond (.t 45) (.exit 10) (.skip))) (
  .seq (.seq (.reg [
  ⟨some 48, .bin .eql (.t 26) (.c (.int .i64 11)), none⟩,
  ⟨some 47, .mv (.t 48), none⟩]) (
  .cond (.t 47) (.exit 11) (.skip))) (
  .seq (.seq (.reg [
  ⟨some 50, .bin .eql (.t 26) (.c (.int .i64 12)), none⟩,
  ⟨some 49, .mv (.t 50), none⟩]) (
  .cond (.t 49) (.exit 12) (.skip))) (
  .seq (.reg [
  ⟨some 52, .bin .eql (.t 26) (.c (.int .i64 13)), none⟩,
  ⟨some 51, .mv (.t 52), none⟩]) (
  .cond (.t 51) (.exit 13) (.skip))))))))))))))) (
  .exit 0))) (
  .seq (.reg [
  ⟨some 53, .mv (.t 0), none⟩,
  ⟨some 54, .mv (.t 0), none⟩,
  ⟨some 55, .mv (.t 4), none⟩,
  ⟨some 56, .mv (.t 3), none⟩,
  ⟨some 57, .nilchk (.t 53), none⟩,
  ⟨some 58, .fldA 22 (some 5) (.t 57), none⟩,
  ⟨some 59, .fldA 2 none (.t 58), none⟩,
  ⟨none, .store 1 (.t 59) (.t 55), none⟩,
  ⟨some 60, .nilchk (.t 54), none⟩,
  ⟨some 61, .fldA 22 (some 5) (.t 60), none⟩,
  ⟨some 62, .fldA 3 none (.t 61), none⟩,
  ⟨none, .store 1 (.t 62) (.t 56), none⟩]) (
  .exit 0)))) (
  .reg [
  ⟨some 63, .mv (.t 0), none⟩,
  ⟨some 64, .mv (.t 4), none⟩,
  ⟨some 65, .nilchk (.t 63), none⟩,
  ⟨some 66, .fldA 22 (some 5) (.t 65), none⟩,
  ⟨some 67, .fldA 2 none (.t 66), none⟩,
  ⟨none, .store 1 (.t 67) (.t 64), none⟩,
  ⟨some 68, .fldA 2 none (.t 5), none⟩,
  ⟨none, .store 1 (.t 68) (.c (.bool true)), none⟩]))) (
  .seq (.dreg [
  ⟨.v, 0, 1, 0, ⟨some 69, .mv (.t 0), none⟩⟩,
  ⟨.v, 0, 0, 1, ⟨some 70, .mv (.t 0), none⟩⟩,
  ⟨.v, 0, 0, 2, ⟨some 71, .nilchk (.t 70), none⟩⟩,
  ⟨.v, 0, 0, 3, ⟨some 72, .fldA 0 (some 11) (.t 71), none⟩⟩,
  ⟨.v, 0, 0, 4, ⟨some 73, .load (some 11) (.t 72), none⟩⟩,
  ⟨.v, 0, 0, 5, ⟨some 74, .load (some 3) (.t 5), none⟩⟩,
  ⟨.e, 0, 1, 6, ⟨some 75, .call (.c (.fn 93 [])) [.t 73, .t 74], none⟩⟩,
  ⟨.v, 1, 1, 7, ⟨some 76, .nilchk (.t 69), none⟩⟩,
  ⟨.v, 1, 1, 8, ⟨some 77, .fldA 0 (some 11) (.t 76), none⟩⟩,
  ⟨.e, 1, 2, 9, ⟨none, .store 11 (.t 77) (.t 75), none⟩⟩]) (
  .exit 0)))) (
  .seq (.seq (.reg [
  ⟨some 78, .mv (.t 0), none⟩,
  ⟨some 79, .mv (.t 4), none⟩,
  ⟨some 80, .fldA 7 none (.t 2), none⟩,
  ⟨some 81, .load none (.t 80), none⟩,
  ⟨some 82, .eqv false .b (.t 79) (.t 81), none⟩,
  ⟨some 83, .mv (.t 82), none⟩,
  ⟨some 84, .mv (.t 3), (some (83, true))⟩,
  ⟨some 85, .fldA 6 none (.t 2), (some (83, true))⟩,
  ⟨some 86, .load none (.t 85), (some (83, true))⟩,
  ⟨some 87, .bin .eql (.t 84) (.t 86), (some (83, true))⟩,
  ⟨some 88, .pick (.t 83) (.t 87) (.c (.bool false)), none⟩,
  ⟨some 89, .nilchk (.t 78), none⟩,
  ⟨some 90, .fldA 22 (some 5) (.t 89), none⟩,
  ⟨some 91, .fldA 2 none (.t 90), none⟩,
  ⟨none, .store 1 (.t 91) (.t 88), none⟩]) (
  .seq (.reg [
  ⟨some 92, .mv (.t 0), none⟩,
  ⟨some 93, .nilchk (.t 92), none⟩,
  ⟨some 94, .fldA 22 (some 5) (.t 93), none⟩,
  ⟨some 95, .fldA 2 none (.t 94), none⟩,
  ⟨some 96, .load none (.t 95), none⟩]) (
  .cond (.t 96) (.dreg [
   ⟨.v, 0, 1, 0, ⟨some 97, .mv (.t 0), none⟩⟩,
   ⟨.v, 0, 0, 1, ⟨some 98, .mv (.t 0), none⟩⟩,
   ⟨.v, 0, 0, 2, ⟨some 99, .nilchk (.t 98), none⟩⟩,
   ⟨.v, 0, 0, 3, ⟨some 100, .fldA 0 (some 11) (.t 99), none⟩⟩,
   ⟨.v, 0, 0, 4, ⟨some 101, .load (some 11) (.t 100), none⟩⟩,
   ⟨.v, 0, 0, 5, ⟨some 102, .load (some 3) (.t 5), none⟩⟩,
   ⟨.e, 0, 1, 6, ⟨some 103, .call (.c (.fn 93 [])) [.t 101, .t 102], none⟩⟩,
   ⟨.v, 1, 1, 7, ⟨some 104, .nilchk (.t 97), none⟩⟩,
   ⟨.v, 1, 1, 8, ⟨some 105, .fldA 0 (some 11) (.t 104), none⟩⟩,
   ⟨.e, 1, 2, 9, ⟨none, .store 11 (.t 105) (.t 103), none⟩⟩]) (.reg [
   ⟨some 106, .mv (.t 0), none⟩,
   ⟨some 107, .mv (.t 3), none⟩,
   ⟨some 108, .nilchk (.t 106), none⟩,
   ⟨some 109, .fldA 22 (some 5) (.t 108), none⟩,
   ⟨some 110, .fldA 3 none (.t 109), none⟩,
   ⟨none, .store 1 (.t 110) (.t 107), none⟩])))) (
  .exit 0)))) (
  .seq (.reg [
  ⟨some 111, .mv (.t 0), none⟩,
  ⟨some 112, .call (.c (.fn 94 [])) [.t 111], none⟩]) (
  .exit 0)))) (
  .seq (.reg [
  ⟨some 113, .mv (.t 0), none⟩,
  ⟨some 114, .call (.c (.fn 95 [])) [.t 113], none⟩]) (
  .exit 0)))) (
  .seq (.reg [
  ⟨some 115, .mv (.t 0), none⟩,
  ⟨some 116, .call (.c (.fn 96 [])) [.t 115], none⟩]) (
  .exit 0)))) (
  .seq (.reg [
  ⟨some 117, .mv (.t 0), none⟩,
  ⟨some 118, .call (.c (.fn 97 [])) [.t 117], none⟩]) (
  .exit 0)))) (
  .seq (.reg [
  ⟨some 119, .mv (.t 0), none⟩,
  ⟨some 120, .call (.c (.fn 98 [])) [.t 119], none⟩]) (
  .exit 0)))) (
  .seq (.dreg [
  ⟨.v, 0, 1, 0, ⟨some 121, .mv (.t 0), none⟩⟩,
  ⟨.v, 0, 0, 1, ⟨some 122, .mv (.t 0), none⟩⟩,
  ⟨.v, 0, 0, 2, ⟨some 123, .nilchk (.t 122), none⟩⟩,
  ⟨.v, 0, 0, 3, ⟨some 124, .fldA 0 (some 11) (.t 123), none⟩⟩,
  ⟨.v, 0, 0, 4, ⟨some 125, .fldA 0 (some 6) (.t 124), none⟩⟩,
  ⟨.v, 0, 0, 5, ⟨some 126, .load (some 6) (.t 125), none⟩⟩,
  ⟨.v, 0, 0, 6, ⟨some 127, .fldA 10 none (.t 2), none⟩⟩,
  ⟨.v, 0, 0, 7, ⟨some 128, .load none (.t 127), none⟩⟩,
  ⟨.e, 0, 1, 8, ⟨some 129, .call (.c (.fn 61 [])) [.t 126, .t 128], none⟩⟩,
  ⟨.v, 1, 1, 9, ⟨some 130, .ext (.t 129) 0, none⟩⟩,
  ⟨.v, 1, 1, 10, ⟨some 131, .ext (.t 129) 1, none⟩⟩,
  ⟨.e, 1, 2, 11, ⟨some 132, .call (.c (.fn 99 [])) [.t 121, .t 130, .t 131], none⟩⟩]) (
  .exit 0)))) (
  .seq (.dreg [
  ⟨.v, 0, 1, 0, ⟨some 133, .mv (.t 0), none⟩⟩,
  ⟨.v, 0, 0, 1, ⟨some 134, .mv (.t 0), none⟩⟩,
  ⟨.v, 0, 0, 2, ⟨some 135, .nilchk (.t 134), none⟩⟩,
  ⟨.v, 0, 0, 3, ⟨some 136, .fldA 0 (some 11) (.t 135), none⟩⟩,
  ⟨.v, 0, 0, 4, ⟨some 137, .fldA 0 (some 6) (.t 136), none⟩⟩,
  ⟨.v, 0, 0, 5, ⟨some 138, .load (some 6) (.t 137), none⟩⟩,
  ⟨.v, 0, 0, 6, ⟨some 139, .fldA 9 none (.t 2), none⟩⟩,
  ⟨.v, 0, 0, 7, ⟨some 140, .load none (.t 139), none⟩⟩,
  ⟨.e, 0, 1, 8, ⟨some 141, .call (.c (.fn 62 [])) [.t 138, .t 140], none⟩⟩,
  ⟨.v, 1, 1, 9, ⟨some 142, .ext (.t 141) 0, none⟩⟩,
  ⟨.v, 1, 1, 10, ⟨some 143, .ext (.t 141) 1, none⟩⟩,
  ⟨.e, 1, 2, 11, ⟨some 144, .call (.c (.fn 99 [])) [.t 133, .t 142, .t 143], none⟩⟩]) (
  .exit 0)))) (
  .seq (.reg [
  ⟨some 145, .mv (.t 0), none⟩,
  ⟨some 146, .mv (.t 0), none⟩,
  ⟨some 147, .nilchk (.t 146), none⟩,
  ⟨some 148, .fldA 0 (some 11) (.t 147), none⟩,
  ⟨some 149, .fldA 0 (some 6) (.t 148), none⟩,
  ⟨some 150, .load (some 6) (.t 149), none⟩,
  ⟨some 151, .call (.c (.fn 91 [])) [.t 150], none⟩,
  ⟨some 152, .nilchk (.t 145), none⟩,
  ⟨some 153, .fldA 22 (some 5) (.t 152), none⟩,
  ⟨some 154, .fldA 3 none (.t 153), none⟩,
  ⟨none, .store 1 (.t 154) (.t 151), none⟩]) (
  .exit 0)))) (
  .seq (.reg [
  ⟨some 155, .mv (.t 0), none⟩,
  ⟨some 156, .call (.c (.fn 100 [])) [.t 155], none⟩]) (
  .exit 0))))))), false⟩

/-- furlong/order.Reads -/
def c54 : CF := ⟨1, 9, [.tmp 2],
 .seq (.reg [
  ⟨some 2, .mv (.c (.bool false)), none⟩]) (
  .seq (.seq (.reg [
  ⟨some 3, .mv (.t 0), none⟩]) (
  .block 0 (.seq (.seq (.reg [
  ⟨some 5, .bin .eql (.t 3) (.c (.int .i64 1)), none⟩,
  ⟨some 4, .mv (.t 5), none⟩]) (
  .cond (.t 4) (.skip) (.seq (.reg [
   ⟨some 6, .bin .eql (.t 3) (.c (.int .i64 5)), none⟩,
   ⟨some 4, .mv (.t 6), none⟩]) (
   .cond (.t 4) (.skip) (.seq (.reg [
    ⟨some 7, .bin .eql (.t 3) (.c (.int .i64 8)), none⟩,
    ⟨some 4, .mv (.t 7), none⟩]) (
    .cond (.t 4) (.skip) (.reg [
     ⟨some 8, .bin .eql (.t 3) (.c (.int .i64 12)), none⟩,
     ⟨some 4, .mv (.t 8), none⟩]))))))) (
  .cond (.t 4) (.seq (.reg [
   ⟨some 2, .mv (.c (.bool true)), none⟩]) (
   .ret)) (.skip))))) (
  .seq (.reg [
  ⟨some 2, .mv (.c (.bool false)), none⟩]) (
  .ret))), false⟩

/-- furlong/session.Note -/
def c55 : CF := ⟨2, 51, [.tmp 4, .tmp 5],
 .seq (.reg [
  ⟨some 3, .box 99 7 (.t 1), none⟩,
  ⟨some 4, .mv (.c (.sl [] .nil)), none⟩,
  ⟨some 5, .mv (.c (.int .i64 0)), none⟩]) (
  .seq (.seq (.reg [
  ⟨some 9, .load (some 7) (.t 3), none⟩,
  ⟨some 10, .call (.c (.fn 101 [])) [.t 9], none⟩,
  ⟨some 11, .un .not (.t 10), none⟩]) (
  .cond (.t 11) (.seq (.reg [
   ⟨some 4, .mv (.c (.sl [] .nil)), none⟩,
   ⟨some 5, .mv (.c (.int .i64 80)), none⟩]) (
   .ret)) (.skip))) (
  .seq (.reg [
  ⟨some 13, .mv (.t 0), none⟩,
  ⟨some 14, .fldA 0 none (.t 3), none⟩,
  ⟨some 15, .load none (.t 14), none⟩,
  ⟨some 16, .call (.c (.fn 102 [])) [.t 13, .t 15], none⟩,
  ⟨some 12, .mv (.t 16), none⟩,
  ⟨some 17, .ext (.t 12) 0, none⟩,
  ⟨some 18, .ext (.t 12) 1, none⟩,
  ⟨some 6, .mv (.t 17), none⟩,
  ⟨some 7, .mv (.t 18), none⟩]) (
  .seq (.reg [
  ⟨some 19, .mv (.t 0), none⟩,
  ⟨some 20, .call (.c (.fn 103 [])) [.t 19], none⟩,
  ⟨some 8, .mv (.t 20), none⟩]) (
  .seq (.block 0 (.seq (.reg [
  ⟨some 22, .mv (.t 7), none⟩,
  ⟨some 23, .un .not (.t 22), none⟩,
  ⟨some 24, .mv (.t 23), none⟩,
  ⟨some 25, .mv (.t 0), (some (24, true))⟩,
  ⟨some 26, .len .l (.t 25), (some (24, true))⟩,
  ⟨some 27, .bin .geq (.t 26) (.c (.int .i64 64)), (some (24, true))⟩,
  ⟨some 28, .pick (.t 24) (.t 27) (.c (.bool false)), none⟩,
  ⟨some 21, .mv (.t 28), none⟩]) (
  .cond (.t 21) (.seq (.reg [
   ⟨some 4, .mv (.c (.sl [] .nil)), none⟩,
   ⟨some 5, .mv (.c (.int .i64 6)), none⟩]) (
   .ret)) (.seq (.reg [
   ⟨some 30, .mv (.t 7), none⟩,
   ⟨some 31, .un .not (.t 30), none⟩,
   ⟨some 29, .mv (.t 31), none⟩]) (
   .cond (.t 29) (.reg [
    ⟨some 32, .mv (.t 8), none⟩,
    ⟨some 33, .mv (.t 6), none⟩,
    ⟨some 34, .load (some 7) (.t 3), none⟩,
    ⟨some 35, .mkSl 99 7 (.agg [.int .i64 0, .int .i64 0, .int .i64 0, .int .i64 0, .bool false, .str [], .sl [] .nil]) 1 [(0, .t 34)], none⟩,
    ⟨some 36, .call (.c (.fn 104 [])) [.t 32, .t 33, .t 35], none⟩,
    ⟨some 8, .mv (.t 36), none⟩]) (.seq (.dreg [
    ⟨.v, 0, 0, 0, ⟨some 38, .mv (.t 0), none⟩⟩,
    ⟨.v, 0, 0, 1, ⟨some 39, .mv (.t 6), none⟩⟩,
    ⟨.v, 0, 0, 2, ⟨some 40, .idxA none 7 (.t 38) (.t 39), none⟩⟩,
    ⟨.v, 0, 0, 3, ⟨some 41, .fldA 1 none (.t 40), none⟩⟩,
    ⟨.v, 0, 0, 4, ⟨some 42, .load none (.t 41), none⟩⟩,
    ⟨.v, 0, 0, 5, ⟨some 43, .fldA 1 none (.t 3), none⟩⟩,
    ⟨.v, 0, 0, 6, ⟨some 44, .load none (.t 43), none⟩⟩,
    ⟨.v, 0, 0, 7, ⟨some 45, .bin .leq (.t 42) (.t 44), none⟩⟩,
    ⟨.v, 0, 0, 8, ⟨some 37, .mv (.t 45), none⟩⟩]) (
    .cond (.t 37) (.reg [
     ⟨some 46, .mv (.t 8), none⟩,
     ⟨some 47, .mv (.t 6), none⟩,
     ⟨some 48, .load (some 7) (.t 3), none⟩,
     ⟨some 49, .idxA none 7 (.t 46) (.t 47), none⟩,
     ⟨none, .store 7 (.t 49) (.t 48), none⟩]) (.skip)))))))) (
  .seq (.reg [
  ⟨some 50, .mv (.t 8), none⟩,
  ⟨some 4, .mv (.t 50), none⟩,
  ⟨some 5, .mv (.c (.int .i64 0)), none⟩]) (
  .ret)))))), false⟩

/-- furlong/deed.place -/
def c56 : CF := ⟨2, 11, [.tmp 4, .tmp 5],
 .seq (.reg [
  ⟨some 4, .mv (.c (.int .i64 0)), none⟩,
  ⟨some 5, .mv (.c (.bool false)), none⟩]) (
  .seq (.reg [
  ⟨some 6, .mv (.t 0), none⟩,
  ⟨some 7, .mv (.t 1), none⟩,
  ⟨some 8, .call (.c (.fn 105 [])) [.t 6, .t 7, .c (.fn 106 [])], none⟩,
  ⟨some 9, .ext (.t 8) 0, none⟩,
  ⟨some 10, .ext (.t 8) 1, none⟩,
  ⟨some 4, .mv (.t 9), none⟩,
  ⟨some 5, .mv (.t 10), none⟩]) (
  .ret)), false⟩

/-- furlong/furlongref06.id -/
def c57 : CF := ⟨1, 9, [.tmp 2],
 .seq (.reg [
  ⟨some 2, .mv (.c (.bool false)), none⟩]) (
  .seq (.reg [
  ⟨some 3, .mv (.t 0), none⟩,
  ⟨some 4, .bin .geq (.t 3) (.c (.int .i64 1)), none⟩,
  ⟨some 5, .mv (.t 4), none⟩,
  ⟨some 6, .mv (.t 0), (some (5, true))⟩,
  ⟨some 7, .bin .leq (.t 6) (.c (.int .i64 1099511627776)), (some (5, true))⟩,
  ⟨some 8, .pick (.t 5) (.t 7) (.c (.bool false)), none⟩,
  ⟨some 2, .mv (.t 8), none⟩]) (
  .ret)), false⟩

/-- furlong/furlonglaw12.three -/
def c58 : CF := ⟨0, 6, [.cell 0 (some 6)],
 .seq (.reg [
  ⟨some 0, .alloc 26 6 [.agg [.int .i64 0, .str [], .str [], .int .i64 0, .sl [] .nil, .int .i64 0]], none⟩]) (
  .seq (.reg [
  ⟨some 1, .build [.int .i64 0, .int .i64 0] [(0, 1, .c (.int .i64 1)), (1, 1, .c (.int .i64 1))], none⟩,
  ⟨some 2, .build [.int .i64 0, .int .i64 0] [(0, 1, .c (.int .i64 2)), (1, 1, .c (.int .i64 2))], none⟩,
  ⟨some 3, .build [.int .i64 0, .int .i64 0] [(0, 1, .c (.int .i64 3)), (1, 1, .c (.int .i64 3))], none⟩,
  ⟨some 4, .mkSl 70 2 (.agg [.int .i64 0, .int .i64 0]) 3 [(0, .t 1), (1, .t 2), (2, .t 3)], none⟩,
  ⟨some 5, .build [.int .i64 0, .str [], .str [], .int .i64 0, .sl [] .nil, .int .i64 0] [(0, 1, .c (.int .i64 1)), (3, 1, .c (.int .i64 1)), (5, 1, .c (.int .i64 4)), (4, 1, .t 4)], none⟩,
  ⟨none, .store 6 (.t 0) (.t 5), none⟩]) (
  .ret)), false⟩

/-- furlong/order.Parse -/
def c60 : CF := ⟨1, 85, [.cell 2 (some 11), .tmp 3],
 .seq (.reg [
  ⟨some 2, .alloc 38 11 [.agg [.int .i64 0, .int .i64 0, .int .i64 0, .str [], .str [], .str [], .str [], .bool false, .int .i64 0, .int .i64 0, .int .i64 0]], none⟩,
  ⟨some 3, .mv (.c (.int .i64 0)), none⟩]) (
  .seq (.reg [
  ⟨some 10, .mv (.t 0), none⟩,
  ⟨some 11, .call (.c (.fn 108 [])) [.t 10], none⟩,
  ⟨some 9, .mv (.t 11), none⟩,
  ⟨some 12, .ext (.t 9) 0, none⟩,
  ⟨some 13, .ext (.t 9) 1, none⟩,
  ⟨some 4, .mv (.t 12), none⟩,
  ⟨some 5, .mv (.t 13), none⟩]) (
  .seq (.seq (.reg [
  ⟨some 14, .mv (.t 5), none⟩,
  ⟨some 15, .bin .neq (.t 14) (.c (.int .i64 0)), none⟩,
  ⟨some 16, .mv (.t 15), none⟩,
  ⟨some 17, .mv (.t 4), (some (16, false))⟩,
  ⟨some 18, .len .l (.t 17), (some (16, false))⟩,
  ⟨some 19, .bin .neq (.t 18) (.c (.int .i64 11)), (some (16, false))⟩,
  ⟨some 20, .pick (.t 16) (.c (.bool true)) (.t 19), none⟩]) (
  .cond (.t 20) (.seq (.reg [
   ⟨some 21, .build [.int .i64 0, .int .i64 0, .int .i64 0, .str [], .str [], .str [], .str [], .bool false, .int .i64 0, .int .i64 0, .int .i64 0] [], none⟩,
   ⟨none, .store 11 (.t 2) (.t 21), none⟩,
   ⟨some 3, .mv (.c (.int .i64 70)), none⟩]) (
   .ret)) (.skip))) (
  .seq (.reg [
  ⟨some 6, .alloc 155 1 (List.replicate 11 (.int .i64 0)), none⟩]) (
  .seq (.seq (.reg [
  ⟨some 22, .mv (.c (.int .i64 0)), none⟩]) (
  .block 0 (.loop [0, 2, 4, 6, 22] (.seq (.reg [
   ⟨some 23, .bin .lss (.t 22) (.c (.int .i64 11)), none⟩]) (
   .seq (.cond (.t 23) (.skip) (.exit 0)) (
   .seq (.block 1 (.seq (.reg [
   ⟨some 24, .mv (.t 22), none⟩,
   ⟨some 7, .mv (.t 24), none⟩]) (
   .seq (.seq (.reg [
   ⟨some 25, .mv (.t 7), none⟩,
   ⟨some 26, .bin .geq (.t 25) (.c (.int .i64 3)), none⟩,
   ⟨some 27, .mv (.t 26), none⟩,
   ⟨some 28, .mv (.t 7), (some (27, true))⟩,
   ⟨some 29, .bin .lss (.t 28) (.c (.int .i64 8)), (some (27, true))⟩,
   ⟨some 30, .pick (.t 27) (.t 29) (.c (.bool false)), none⟩]) (
   .cond (.t 30) (.exit 1) (.skip))) (
   .seq (.reg [
   ⟨some 32, .mv (.t 7), none⟩,
   ⟨some 33, .mv (.t 4), none⟩,
   ⟨some 34, .mv (.t 7), none⟩,
   ⟨some 35, .idxA none 1 (.t 33) (.t 34), none⟩,
   ⟨some 36, .load none (.t 35), none⟩,
   ⟨some 37, .call (.c (.fn 109 [])) [.t 36], none⟩,
   ⟨some 31, .mv (.t 37), none⟩,
   ⟨some 38, .ext (.t 31) 0, none⟩,
   ⟨some 39, .ext (.t 31) 1, none⟩,
   ⟨some 40, .idxA (some 11) 1 (.t 6) (.t 32), none⟩,
   ⟨none, .store 1 (.t 40) (.t 38), none⟩,
   ⟨some 5, .mv (.t 39), none⟩]) (
   .seq (.reg [
   ⟨some 41, .mv (.t 5), none⟩,
   ⟨some 42, .bin .neq (.t 41) (.c (.int .i64 0)), none⟩]) (
   .cond (.t 42) (.seq (.reg [
    ⟨some 43, .build [.int .i64 0, .int .i64 0, .int .i64 0, .str [], .str [], .str [], .str [], .bool false, .int .i64 0, .int .i64 0, .int .i64 0] [], none⟩,
    ⟨none, .store 11 (.t 2) (.t 43), none⟩,
    ⟨some 3, .mv (.c (.int .i64 70)), none⟩]) (
    .ret)) (.skip))))))) (
   .reg [
   ⟨some 44, .bin .add (.t 22) (.c (.int .i64 1)), none⟩,
   ⟨some 22, .mv (.t 44), none⟩]))))))) (
  .seq (.dreg [
  ⟨.v, 0, 0, 0, ⟨some 45, .idxA (some 11) 1 (.t 6) (.c (.int .i64 0)), none⟩⟩,
  ⟨.v, 0, 0, 1, ⟨some 46, .load none (.t 45), none⟩⟩,
  ⟨.v, 0, 0, 2, ⟨some 47, .idxA (some 11) 1 (.t 6) (.c (.int .i64 1)), none⟩⟩,
  ⟨.v, 0, 0, 3, ⟨some 48, .load none (.t 47), none⟩⟩,
  ⟨.v, 0, 0, 4, ⟨some 49, .idxA (some 11) 1 (.t 6) (.c (.int .i64 2)), none⟩⟩,
  ⟨.v, 0, 0, 5, ⟨some 50, .load none (.t 49), none⟩⟩,
  ⟨.v, 0, 0, 6, ⟨some 51, .mv (.t 4), none⟩⟩,
  ⟨.v, 0, 0, 7, ⟨some 52, .idxA none 1 (.t 51) (.c (.int .i64 3)), none⟩⟩,
  ⟨.v, 0, 0, 8, ⟨some 53, .load none (.t 52), none⟩⟩,
  ⟨.v, 0, 0, 9, ⟨some 54, .mv (.t 4), none⟩⟩,
  ⟨.v, 0, 0, 10, ⟨some 55, .idxA none 1 (.t 54) (.c (.int .i64 4)), none⟩⟩,
  ⟨.v, 0, 0, 11, ⟨some 56, .load none (.t 55), none⟩⟩,
  ⟨.v, 0, 0, 12, ⟨some 57, .mv (.t 4), none⟩⟩,
  ⟨.v, 0, 0, 13, ⟨some 58, .idxA none 1 (.t 57) (.c (.int .i64 5)), none⟩⟩,
  ⟨.v, 0, 0, 14, ⟨some 59, .load none (.t 58), none⟩⟩,
  ⟨.v, 0, 0, 15, ⟨some 60, .mv (.t 4), none⟩⟩,
  ⟨.v, 0, 0, 16, ⟨some 61, .idxA none 1 (.t 60) (.c (.int .i64 6)), none⟩⟩,
  ⟨.v, 0, 0, 17, ⟨some 62, .load none (.t 61), none⟩⟩,
  ⟨.v, 0, 0, 18, ⟨some 63, .mv (.t 4), none⟩⟩,
  ⟨.v, 0, 0, 19, ⟨some 64, .idxA none 1 (.t 63) (.c (.int .i64 7)), none⟩⟩,
  ⟨.v, 0, 0, 20, ⟨some 65, .load none (.t 64), none⟩⟩,
  ⟨.v, 0, 0, 21, ⟨some 66, .bin .eql (.t 65) (.c (.str [49])), none⟩⟩,
  ⟨.v, 0, 0, 22, ⟨some 67, .idxA (some 11) 1 (.t 6) (.c (.int .i64 8)), none⟩⟩,
  ⟨.v, 0, 0, 23, ⟨some 68, .load none (.t 67), none⟩⟩,
  ⟨.v, 0, 0, 24, ⟨some 69, .idxA (some 11) 1 (.t 6) (.c (.int .i64 9)), none⟩⟩,
  ⟨.v, 0, 0, 25, ⟨some 70, .load none (.t 69), none⟩⟩,
  ⟨.v, 0, 0, 26, ⟨some 71, .idxA (some 11) 1 (.t 6) (.c (.int .i64 10)), none⟩⟩,
  ⟨.v, 0, 0, 27, ⟨some 72, .load none (.t 71), none⟩⟩,
  ⟨.v, 0, 0, 28, ⟨some 73, .build [.int .i64 0, .int .i64 0, .int .i64 0, .str [], .str [], .str [], .str [], .bool false, .int .i64 0, .int .i64 0, .int .i64 0] [(0, 1, .t 46), (1, 1, .t 48), (2, 1, .t 50), (3, 1, .t 53), (4, 1, .t 56), (5, 1, .t 59), (6, 1, .t 62), (7, 1, .t 66), (8, 1, .t 68), (9, 1, .t 70), (10, 1, .t 72)], none⟩⟩,
  ⟨.a, 0, 0, 29, ⟨some 8, .alloc 38 11 [.agg [.int .i64 0, .int .i64 0, .int .i64 0, .str [], .str [], .str [], .str [], .bool false, .int .i64 0, .int .i64 0, .int .i64 0]], none⟩⟩,
  ⟨.e, 0, 1, 30, ⟨none, .store 11 (.t 8) (.t 73), none⟩⟩]) (
  .seq (.seq (.reg [
  ⟨some 74, .load (some 11) (.t 8), none⟩,
  ⟨some 75, .call (.c (.fn 47 [])) [.t 74], none⟩,
  ⟨some 76, .bin .neq (.t 75) (.c (.int .i64 0)), none⟩,
  ⟨some 77, .mv (.t 76), none⟩,
  ⟨some 78, .load (some 11) (.t 8), (some (77, false))⟩,
  ⟨some 79, .call (.c (.fn 110 [])) [.t 78], (some (77, false))⟩,
  ⟨some 80, .mv (.t 0), (some (77, false))⟩,
  ⟨some 81, .bin .neq (.t 79) (.t 80), (some (77, false))⟩,
  ⟨some 82, .pick (.t 77) (.c (.bool true)) (.t 81), none⟩]) (
  .cond (.t 82) (.seq (.reg [
   ⟨some 83, .build [.int .i64 0, .int .i64 0, .int .i64 0, .str [], .str [], .str [], .str [], .bool false, .int .i64 0, .int .i64 0, .int .i64 0] [], none⟩,
   ⟨none, .store 11 (.t 2) (.t 83), none⟩,
   ⟨some 3, .mv (.c (.int .i64 70)), none⟩]) (
   .ret)) (.skip))) (
  .seq (.reg [
  ⟨some 84, .load (some 11) (.t 8), none⟩,
  ⟨none, .store 11 (.t 2) (.t 84), none⟩,
  ⟨some 3, .mv (.c (.int .i64 0)), none⟩]) (
  .ret)))))))), false⟩

/-- furlong/desc.Add -/
def c61 : CF := ⟨2, 55, [.cell 4 (some 6), .tmp 5],
 .seq (.reg [
  ⟨some 2, .box 26 6 (.t 0), none⟩,
  ⟨some 4, .alloc 26 6 [.agg [.int .i64 0, .str [], .str [], .int .i64 0, .sl [] .nil, .int .i64 0]], none⟩,
  ⟨some 5, .mv (.c (.int .i64 0)), none⟩]) (
  .seq (.reg [
  ⟨some 9, .load (some 6) (.t 2), none⟩,
  ⟨some 10, .mv (.t 1), none⟩,
  ⟨some 11, .call (.c (.fn 111 [])) [.t 9, .t 10], none⟩,
  ⟨some 8, .mv (.t 11), none⟩,
  ⟨some 12, .ext (.t 8) 0, none⟩,
  ⟨some 13, .ext (.t 8) 1, none⟩,
  ⟨some 6, .alloc 70 2 [.agg [.int .i64 0, .int .i64 0]], none⟩,
  ⟨none, .store 2 (.t 6) (.t 12), none⟩,
  ⟨some 7, .mv (.t 13), none⟩]) (
  .seq (.block 0 (.seq (.reg [
  ⟨some 15, .load (some 6) (.t 2), none⟩,
  ⟨some 16, .call (.c (.fn 112 [])) [.t 15], none⟩,
  ⟨some 17, .bin .neq (.t 16) (.c (.int .i64 0)), none⟩,
  ⟨some 14, .mv (.t 17), none⟩]) (
  .cond (.t 14) (.seq (.reg [
   ⟨some 18, .build [.int .i64 0, .str [], .str [], .int .i64 0, .sl [] .nil, .int .i64 0] [], none⟩,
   ⟨none, .store 6 (.t 4) (.t 18), none⟩,
   ⟨some 5, .mv (.c (.int .i64 60)), none⟩]) (
   .ret)) (.seq (.reg [
   ⟨some 20, .mv (.t 1), none⟩,
   ⟨some 21, .call (.c (.fn 113 [])) [.t 20], none⟩,
   ⟨some 22, .un .not (.t 21), none⟩,
   ⟨some 19, .mv (.t 22), none⟩]) (
   .cond (.t 19) (.seq (.reg [
    ⟨some 23, .build [.int .i64 0, .str [], .str [], .int .i64 0, .sl [] .nil, .int .i64 0] [], none⟩,
    ⟨none, .store 6 (.t 4) (.t 23), none⟩,
    ⟨some 5, .mv (.c (.int .i64 2)), none⟩]) (
    .ret)) (.seq (.reg [
    ⟨some 25, .mv (.t 7), none⟩,
    ⟨some 24, .mv (.t 25), none⟩]) (
    .cond (.t 24) (.seq (.reg [
     ⟨some 26, .build [.int .i64 0, .str [], .str [], .int .i64 0, .sl [] .nil, .int .i64 0] [], none⟩,
     ⟨none, .store 6 (.t 4) (.t 26), none⟩,
     ⟨some 5, .mv (.c (.int .i64 8)), none⟩]) (
     .ret)) (.seq (.reg [
     ⟨some 28, .fldA 4 none (.t 2), none⟩,
     ⟨some 29, .load none (.t 28), none⟩,
     ⟨some 30, .len .l (.t 29), none⟩,
     ⟨some 31, .bin .geq (.t 30) (.c (.int .i64 5)), none⟩,
     ⟨some 27, .mv (.t 31), none⟩]) (
     .cond (.t 27) (.seq (.reg [
      ⟨some 32, .build [.int .i64 0, .str [], .str [], .int .i64 0, .sl [] .nil, .int .i64 0] [], none⟩,
      ⟨none, .store 6 (.t 4) (.t 32), none⟩,
      ⟨some 5, .mv (.c (.int .i64 6)), none⟩]) (
      .ret)) (.skip)))))))))) (
  .seq (.dreg [
  ⟨.v, 0, 0, 0, ⟨some 33, .fldA 4 none (.t 2), none⟩⟩,
  ⟨.v, 0, 0, 1, ⟨some 34, .load none (.t 33), none⟩⟩,
  ⟨.e, 0, 1, 2, ⟨some 35, .call (.c (.fn 72 [])) [.t 34], none⟩⟩,
  ⟨.v, 0, 1, 3, ⟨some 36, .mv (.t 1), none⟩⟩,
  ⟨.v, 0, 1, 4, ⟨some 37, .fldA 5 none (.t 2), none⟩⟩,
  ⟨.v, 0, 1, 5, ⟨some 38, .load none (.t 37), none⟩⟩,
  ⟨.v, 0, 1, 6, ⟨some 39, .build [.int .i64 0, .int .i64 0] [(0, 1, .t 36), (1, 1, .t 38)], none⟩⟩,
  ⟨.v, 0, 1, 7, ⟨some 40, .mkSl 70 2 (.agg [.int .i64 0, .int .i64 0]) 1 [(0, .t 39)], none⟩⟩,
  ⟨.e, 1, 2, 8, ⟨some 41, .app 70 2 (.t 35) (.t 40), none⟩⟩,
  ⟨.v, 2, 2, 9, ⟨some 42, .fldA 4 none (.t 2), none⟩⟩,
  ⟨.e, 2, 3, 10, ⟨none, .store 1 (.t 42) (.t 41), none⟩⟩]) (
  .seq (.reg [
  ⟨some 43, .fldA 5 none (.t 2), none⟩,
  ⟨some 44, .load none (.t 43), none⟩,
  ⟨some 45, .bin .add (.t 44) (.c (.int .i64 1)), none⟩,
  ⟨some 46, .fldA 5 none (.t 2), none⟩,
  ⟨none, .store 1 (.t 46) (.t 45), none⟩]) (
  .seq (.reg [
  ⟨some 47, .fldA 3 none (.t 2), none⟩,
  ⟨some 48, .load none (.t 47), none⟩,
  ⟨some 49, .bin .add (.t 48) (.c (.int .i64 1)), none⟩,
  ⟨some 50, .fldA 3 none (.t 2), none⟩,
  ⟨none, .store 1 (.t 50) (.t 49), none⟩]) (
  .seq (.reg [
  ⟨some 51, .load (some 6) (.t 2), none⟩,
  ⟨some 52, .call (.c (.fn 80 [])) [.t 51], none⟩,
  ⟨some 53, .ext (.t 52) 0, none⟩,
  ⟨some 54, .ext (.t 52) 1, none⟩,
  ⟨none, .store 6 (.t 4) (.t 53), none⟩,
  ⟨some 5, .mv (.t 54), none⟩]) (
  .ret))))))), false⟩

/-- furlong/desc.Remove -/
def c62 : CF := ⟨2, 43, [.cell 4 (some 6), .tmp 5],
 .seq (.reg [
  ⟨some 2, .box 26 6 (.t 0), none⟩,
  ⟨some 3, .box 2 1 (.t 1), none⟩,
  ⟨some 4, .alloc 26 6 [.agg [.int .i64 0, .str [], .str [], .int .i64 0, .sl [] .nil, .int .i64 0]], none⟩,
  ⟨some 5, .mv (.c (.int .i64 0)), none⟩]) (
  .seq (.reg [
  ⟨some 9, .load (some 6) (.t 2), none⟩,
  ⟨some 10, .load none (.t 3), none⟩,
  ⟨some 11, .call (.c (.fn 35 [])) [.t 9, .t 10], none⟩,
  ⟨some 8, .mv (.t 11), none⟩,
  ⟨some 12, .ext (.t 8) 0, none⟩,
  ⟨some 13, .ext (.t 8) 1, none⟩,
  ⟨some 6, .alloc 70 2 [.agg [.int .i64 0, .int .i64 0]], none⟩,
  ⟨none, .store 2 (.t 6) (.t 12), none⟩,
  ⟨some 7, .mv (.t 13), none⟩]) (
  .seq (.block 0 (.seq (.reg [
  ⟨some 15, .load (some 6) (.t 2), none⟩,
  ⟨some 16, .call (.c (.fn 112 [])) [.t 15], none⟩,
  ⟨some 17, .bin .neq (.t 16) (.c (.int .i64 0)), none⟩,
  ⟨some 14, .mv (.t 17), none⟩]) (
  .cond (.t 14) (.seq (.reg [
   ⟨some 18, .build [.int .i64 0, .str [], .str [], .int .i64 0, .sl [] .nil, .int .i64 0] [], none⟩,
   ⟨none, .store 6 (.t 4) (.t 18), none⟩,
   ⟨some 5, .mv (.c (.int .i64 60)), none⟩]) (
   .ret)) (.seq (.reg [
   ⟨some 20, .mv (.t 7), none⟩,
   ⟨some 21, .un .not (.t 20), none⟩,
   ⟨some 19, .mv (.t 21), none⟩]) (
   .cond (.t 19) (.seq (.reg [
    ⟨some 22, .build [.int .i64 0, .str [], .str [], .int .i64 0, .sl [] .nil, .int .i64 0] [], none⟩,
    ⟨none, .store 6 (.t 4) (.t 22), none⟩,
    ⟨some 5, .mv (.c (.int .i64 7)), none⟩]) (
    .ret)) (.seq (.reg [
    ⟨some 24, .fldA 4 none (.t 2), none⟩,
    ⟨some 25, .load none (.t 24), none⟩,
    ⟨some 26, .len .l (.t 25), none⟩,
    ⟨some 27, .bin .eql (.t 26) (.c (.int .i64 1)), none⟩,
    ⟨some 23, .mv (.t 27), none⟩]) (
    .cond (.t 23) (.seq (.reg [
     ⟨some 28, .build [.int .i64 0, .str [], .str [], .int .i64 0, .sl [] .nil, .int .i64 0] [], none⟩,
     ⟨none, .store 6 (.t 4) (.t 28), none⟩,
     ⟨some 5, .mv (.c (.int .i64 2)), none⟩]) (
     .ret)) (.skip)))))))) (
  .seq (.reg [
  ⟨some 29, .fldA 4 none (.t 2), none⟩,
  ⟨some 30, .load none (.t 29), none⟩,
  ⟨some 31, .call (.c (.fn 72 [])) [.t 30], none⟩,
  ⟨some 32, .mkFn 114 [.t 3], none⟩,
  ⟨some 33, .call (.c (.fn 71 [])) [.t 31, .t 32], none⟩,
  ⟨some 34, .fldA 4 none (.t 2), none⟩,
  ⟨none, .store 1 (.t 34) (.t 33), none⟩]) (
  .seq (.reg [
  ⟨some 35, .fldA 3 none (.t 2), none⟩,
  ⟨some 36, .load none (.t 35), none⟩,
  ⟨some 37, .bin .add (.t 36) (.c (.int .i64 1)), none⟩,
  ⟨some 38, .fldA 3 none (.t 2), none⟩,
  ⟨none, .store 1 (.t 38) (.t 37), none⟩]) (
  .seq (.reg [
  ⟨some 39, .load (some 6) (.t 2), none⟩,
  ⟨some 40, .call (.c (.fn 80 [])) [.t 39], none⟩,
  ⟨some 41, .ext (.t 40) 0, none⟩,
  ⟨some 42, .ext (.t 40) 1, none⟩,
  ⟨none, .store 6 (.t 4) (.t 41), none⟩,
  ⟨some 5, .mv (.t 42), none⟩]) (
  .ret)))))), false⟩

/-- furlong/desc.Same -/
def c67 : CF := ⟨2, 38, [.tmp 4],
 .seq (.reg [
  ⟨some 2, .box 26 6 (.t 0), none⟩,
  ⟨some 3, .box 26 6 (.t 1), none⟩,
  ⟨some 4, .mv (.c (.bool false)), none⟩]) (
  .seq (.reg [
  ⟨some 5, .fldA 0 none (.t 2), none⟩,
  ⟨some 6, .load none (.t 5), none⟩,
  ⟨some 7, .fldA 0 none (.t 3), none⟩,
  ⟨some 8, .load none (.t 7), none⟩,
  ⟨some 9, .bin .eql (.t 6) (.t 8), none⟩,
  ⟨some 10, .mv (.t 9), none⟩,
  ⟨some 11, .fldA 1 (some 2) (.t 2), (some (10, true))⟩,
  ⟨some 12, .load (some 2) (.t 11), (some (10, true))⟩,
  ⟨some 13, .fldA 1 (some 2) (.t 3), (some (10, true))⟩,
  ⟨some 14, .load (some 2) (.t 13), (some (10, true))⟩,
  ⟨some 15, .eqv false (.a [.s, .s]) (.t 12) (.t 14), (some (10, true))⟩,
  ⟨some 16, .pick (.t 10) (.t 15) (.c (.bool false)), none⟩,
  ⟨some 17, .mv (.t 16), none⟩,
  ⟨some 18, .fldA 3 none (.t 2), (some (17, true))⟩,
  ⟨some 19, .load none (.t 18), (some (17, true))⟩,
  ⟨some 20, .fldA 3 none (.t 3), (some (17, true))⟩,
  ⟨some 21, .load none (.t 20), (some (17, true))⟩,
  ⟨some 22, .bin .eql (.t 19) (.t 21), (some (17, true))⟩,
  ⟨some 23, .pick (.t 17) (.t 22) (.c (.bool false)), none⟩,
  ⟨some 24, .mv (.t 23), none⟩,
  ⟨some 25, .fldA 5 none (.t 2), (some (24, true))⟩,
  ⟨some 26, .load none (.t 25), (some (24, true))⟩,
  ⟨some 27, .fldA 5 none (.t 3), (some (24, true))⟩,
  ⟨some 28, .load none (.t 27), (some (24, true))⟩,
  ⟨some 29, .bin .eql (.t 26) (.t 28), (some (24, true))⟩,
  ⟨some 30, .pick (.t 24) (.t 29) (.c (.bool false)), none⟩,
  ⟨some 31, .mv (.t 30), none⟩,
  ⟨some 32, .fldA 4 none (.t 2), (some (31, true))⟩,
  ⟨some 33, .load none (.t 32), (some (31, true))⟩,
  ⟨some 34, .fldA 4 none (.t 3), (some (31, true))⟩,
  ⟨some 35, .load none (.t 34), (some (31, true))⟩,
  ⟨some 36, .call (.c (.fn 118 [])) [.t 33, .t 35], (some (31, true))⟩,
  ⟨some 37, .pick (.t 31) (.t 36) (.c (.bool false)), none⟩,
  ⟨some 4, .mv (.t 37), none⟩]) (
  .ret)), false⟩

/-- slices.Sorted[int64] -/
def c69 : CF := ⟨1, 9, [.tmp 2],
 .seq (.reg [
  ⟨some 2, .mv (.c (.sl [] .nil)), none⟩]) (
  .seq (.reg [
  ⟨some 4, .mv (.t 0), none⟩,
  ⟨some 5, .call (.c (.fn 127 [])) [.t 4], none⟩,
  ⟨some 3, .mv (.t 5), none⟩]) (
  .seq (.reg [
  ⟨some 6, .mv (.t 3), none⟩,
  ⟨some 7, .call (.c (.fn 128 [])) [.t 6], none⟩]) (
  .seq (.reg [
  ⟨some 8, .mv (.t 3), none⟩,
  ⟨some 2, .mv (.t 8), none⟩]) (
  .ret)))), true⟩

/-- slices.Values[[]int64,int64] -/
def c70 : CF := ⟨1, 4, [.tmp 2],
 .seq (.reg [
  ⟨some 1, .box 29 1 (.t 0), none⟩,
  ⟨some 2, .mv (.c (.nilfn)), none⟩]) (
  .seq (.reg [
  ⟨some 3, .mkFn 129 [.t 1], none⟩,
  ⟨some 2, .mv (.t 3), none⟩]) (
  .ret)), true⟩

/-- slices.DeleteFunc[[]furlong/api.Member,furlong/api.Member] -/
def c71 : CF := ⟨2, 42, [.tmp 4],
 .seq (.reg [
  ⟨some 4, .mv (.c (.sl [] .nil)), none⟩]) (
  .seq (.reg [
  ⟨some 8, .mv (.t 0), none⟩,
  ⟨some 9, .mv (.t 1), none⟩,
  ⟨some 10, .call (.c (.fn 130 [])) [.t 8, .t 9], none⟩,
  ⟨some 5, .mv (.t 10), none⟩]) (
  .seq (.seq (.reg [
  ⟨some 11, .mv (.t 5), none⟩,
  ⟨some 12, .bin .eql (.t 11) (.c (.int .i64 (-1))), none⟩]) (
  .cond (.t 12) (.seq (.reg [
   ⟨some 13, .mv (.t 0), none⟩,
   ⟨some 4, .mv (.t 13), none⟩]) (
   .ret)) (.skip))) (
  .seq (.seq (.reg [
  ⟨some 14, .mv (.t 5), none⟩,
  ⟨some 15, .bin .add (.t 14) (.c (.int .i64 1)), none⟩,
  ⟨some 6, .mv (.t 15), none⟩]) (
  .block 0 (.loop [0, 1, 5, 6] (.seq (.seq (.reg [
   ⟨some 16, .mv (.t 6), none⟩,
   ⟨some 17, .mv (.t 0), none⟩,
   ⟨some 18, .len .l (.t 17), none⟩,
   ⟨some 19, .bin .lss (.t 16) (.t 18), none⟩]) (
   .cond (.t 19) (.skip) (.exit 0))) (
   .seq (.block 1 (.seq (.reg [
   ⟨some 22, .mv (.t 0), none⟩,
   ⟨some 23, .mv (.t 6), none⟩,
   ⟨some 24, .idxA none 2 (.t 22) (.t 23), none⟩,
   ⟨some 25, .load (some 2) (.t 24), none⟩,
   ⟨some 7, .alloc 70 2 [.agg [.int .i64 0, .int .i64 0]], none⟩,
   ⟨none, .store 2 (.t 7) (.t 25), none⟩]) (
   .seq (.reg [
   ⟨some 26, .mv (.t 1), none⟩,
   ⟨some 27, .load (some 2) (.t 7), none⟩,
   ⟨some 28, .call (.t 26) [.t 27], none⟩,
   ⟨some 29, .un .not (.t 28), none⟩]) (
   .cond (.t 29) (.seq (.reg [
    ⟨some 30, .mv (.t 0), none⟩,
    ⟨some 31, .mv (.t 5), none⟩,
    ⟨some 32, .load (some 2) (.t 7), none⟩,
    ⟨some 33, .idxA none 2 (.t 30) (.t 31), none⟩,
    ⟨none, .store 2 (.t 33) (.t 32), none⟩]) (
    .reg [
    ⟨some 34, .mv (.t 5), none⟩,
    ⟨some 35, .bin .add (.t 34) (.c (.int .i64 1)), none⟩,
    ⟨some 5, .mv (.t 35), none⟩])) (.skip))))) (
   .reg [
   ⟨some 20, .mv (.t 6), none⟩,
   ⟨some 21, .bin .add (.t 20) (.c (.int .i64 1)), none⟩,
   ⟨some 6, .mv (.t 21), none⟩])))))) (
  .seq (.reg [
  ⟨some 36, .mv (.t 0), none⟩,
  ⟨some 37, .mv (.t 5), none⟩,
  ⟨some 38, .slice (some 2) (.t 36) (some (.t 37)) none none, none⟩,
  ⟨none, .clear 2 (.agg [.int .i64 0, .int .i64 0]) (.t 38), none⟩]) (
  .seq (.reg [
  ⟨some 39, .mv (.t 0), none⟩,
  ⟨some 40, .mv (.t 5), none⟩,
  ⟨some 41, .slice (some 2) (.t 39) none (some (.t 40)) none, none⟩,
  ⟨some 4, .mv (.t 41), none⟩]) (
  .ret)))))), true⟩

/-- furlong/member.Count$1 -/
def c73 : CF := ⟨2, 9, [.tmp 3],
 .seq (.reg [
  ⟨some 2, .box 70 2 (.t 0), none⟩,
  ⟨some 3, .mv (.c (.bool false)), none⟩]) (
  .seq (.reg [
  ⟨some 4, .load none (.t 1), none⟩,
  ⟨some 5, .fldA 1 none (.t 2), none⟩,
  ⟨some 6, .load none (.t 5), none⟩,
  ⟨some 7, .call (.c (.fn 74 [])) [.t 4, .t 6], none⟩,
  ⟨some 8, .un .not (.t 7), none⟩,
  ⟨some 3, .mv (.t 8), none⟩]) (
  .ret)), false⟩

/-- slices.Contains[[]int64,int64] -/
def c74 : CF := ⟨2, 9, [.tmp 4],
 .seq (.reg [
  ⟨some 4, .mv (.c (.bool false)), none⟩]) (
  .seq (.reg [
  ⟨some 5, .mv (.t 0), none⟩,
  ⟨some 6, .mv (.t 1), none⟩,
  ⟨some 7, .call (.c (.fn 131 [])) [.t 5, .t 6], none⟩,
  ⟨some 8, .bin .geq (.t 7) (.c (.int .i64 0)), none⟩,
  ⟨some 4, .mv (.t 8), none⟩]) (
  .ret)), false⟩

/-- furlong/furlongref01.Tie -/
def c75 : CF := ⟨1, 19, [.tmp 2],
 .seq (.reg [
  ⟨some 2, .mv (.c (.str [])), none⟩]) (
  .seq (.reg [
  ⟨some 3, .mv (.c (.str [])), none⟩]) (
  .seq (.seq (.reg [
  ⟨some 4, .mv (.c (.int .i64 0)), none⟩]) (
  .block 0 (.loop [0, 3, 4] (.seq (.seq (.reg [
   ⟨some 5, .mv (.t 4), none⟩,
   ⟨some 6, .mv (.t 0), none⟩,
   ⟨some 7, .len .l (.t 6), none⟩,
   ⟨some 8, .bin .lss (.t 5) (.t 7), none⟩]) (
   .cond (.t 8) (.skip) (.exit 0))) (
   .seq (.block 1 (.reg [
   ⟨some 11, .mv (.t 3), none⟩,
   ⟨some 12, .mv (.t 0), none⟩,
   ⟨some 13, .mv (.t 4), none⟩,
   ⟨some 14, .idxA none 1 (.t 12) (.t 13), none⟩,
   ⟨some 15, .load none (.t 14), none⟩,
   ⟨some 16, .call (.c (.fn 132 [])) [.t 15], none⟩,
   ⟨some 17, .bin .add (.t 11) (.t 16), none⟩,
   ⟨some 3, .mv (.t 17), none⟩])) (
   .reg [
   ⟨some 9, .mv (.t 4), none⟩,
   ⟨some 10, .bin .add (.t 9) (.c (.int .i64 1)), none⟩,
   ⟨some 4, .mv (.t 10), none⟩])))))) (
  .seq (.reg [
  ⟨some 18, .mv (.t 3), none⟩,
  ⟨some 2, .mv (.t 18), none⟩]) (
  .ret)))), false⟩

/-- furlong/furlongref01.Num -/
def c76 : CF := ⟨1, 14, [.tmp 2],
 .seq (.reg [
  ⟨some 2, .mv (.c (.str [])), none⟩]) (
  .seq (.seq (.reg [
  ⟨some 3, .mv (.t 0), none⟩,
  ⟨some 4, .bin .lss (.t 3) (.c (.int .i64 0)), none⟩]) (
  .cond (.t 4) (.seq (.reg [
   ⟨some 5, .mv (.t 0), none⟩,
   ⟨some 6, .un .xor (.t 5), none⟩,
   ⟨some 7, .toInt .u64 (.t 6), none⟩,
   ⟨some 8, .bin .add (.t 7) (.c (.int .u64 1)), none⟩,
   ⟨some 9, .call (.c (.fn 133 [])) [.t 8], none⟩,
   ⟨some 10, .bin .add (.c (.str [45])) (.t 9), none⟩,
   ⟨some 2, .mv (.t 10), none⟩]) (
   .ret)) (.skip))) (
  .seq (.reg [
  ⟨some 11, .mv (.t 0), none⟩,
  ⟨some 12, .toInt .u64 (.t 11), none⟩,
  ⟨some 13, .call (.c (.fn 133 [])) [.t 12], none⟩,
  ⟨some 2, .mv (.t 13), none⟩]) (
  .ret))), false⟩

/-- furlong/furlongref07.truth -/
def c77 : CF := ⟨1, 4, [.tmp 2],
 .seq (.reg [
  ⟨some 2, .mv (.c (.str [])), none⟩]) (
  .seq (.seq (.reg [
  ⟨some 3, .mv (.t 0), none⟩]) (
  .cond (.t 3) (.seq (.reg [
   ⟨some 2, .mv (.c (.str [49])), none⟩]) (
   .ret)) (.skip))) (
  .seq (.reg [
  ⟨some 2, .mv (.c (.str [48])), none⟩]) (
  .ret))), false⟩

/-- furlong/desc.find -/
def c78 : CF := ⟨2, 19, [.cell 4 (some 2), .tmp 5],
 .seq (.reg [
  ⟨some 2, .box 26 6 (.t 0), none⟩,
  ⟨some 4, .alloc 70 2 [.agg [.int .i64 0, .int .i64 0]], none⟩,
  ⟨some 5, .mv (.c (.bool false)), none⟩]) (
  .seq (.seq (.reg [
  ⟨some 7, .fldA 4 none (.t 2), none⟩,
  ⟨some 8, .load none (.t 7), none⟩,
  ⟨some 9, .mv (.t 1), none⟩,
  ⟨some 10, .call (.c (.fn 130 [])) [.t 8, .t 9], none⟩,
  ⟨some 6, .mv (.t 10), none⟩]) (
  .seq (.reg [
  ⟨some 11, .mv (.t 6), none⟩,
  ⟨some 12, .bin .geq (.t 11) (.c (.int .i64 0)), none⟩]) (
  .cond (.t 12) (.seq (.reg [
   ⟨some 13, .fldA 4 none (.t 2), none⟩,
   ⟨some 14, .load none (.t 13), none⟩,
   ⟨some 15, .mv (.t 6), none⟩,
   ⟨some 16, .idxA none 2 (.t 14) (.t 15), none⟩,
   ⟨some 17, .load (some 2) (.t 16), none⟩,
   ⟨none, .store 2 (.t 4) (.t 17), none⟩,
   ⟨some 5, .mv (.c (.bool true)), none⟩]) (
   .ret)) (.skip)))) (
  .seq (.reg [
  ⟨some 18, .build [.int .i64 0, .int .i64 0] [], none⟩,
  ⟨none, .store 2 (.t 4) (.t 18), none⟩,
  ⟨some 5, .mv (.c (.bool false)), none⟩]) (
  .ret))), false⟩

/-- furlong/desc.Has$1 -/
def c79 : CF := ⟨2, 8, [.tmp 3],
 .seq (.reg [
  ⟨some 2, .box 70 2 (.t 0), none⟩,
  ⟨some 3, .mv (.c (.bool false)), none⟩]) (
  .seq (.reg [
  ⟨some 4, .fldA 1 none (.t 2), none⟩,
  ⟨some 5, .load none (.t 4), none⟩,
  ⟨some 6, .load none (.t 1), none⟩,
  ⟨some 7, .bin .eql (.t 5) (.t 6), none⟩,
  ⟨some 3, .mv (.t 7), none⟩]) (
  .ret)), false⟩

/-- furlong/desc.right -/
def c80 : CF := ⟨1, 12, [.cell 2 (some 6), .tmp 3],
 .seq (.reg [
  ⟨some 1, .box 26 6 (.t 0), none⟩,
  ⟨some 2, .alloc 26 6 [.agg [.int .i64 0, .str [], .str [], .int .i64 0, .sl [] .nil, .int .i64 0]], none⟩,
  ⟨some 3, .mv (.c (.int .i64 0)), none⟩]) (
  .seq (.seq (.reg [
  ⟨some 5, .load (some 6) (.t 1), none⟩,
  ⟨some 6, .call (.c (.fn 112 [])) [.t 5], none⟩,
  ⟨some 4, .mv (.t 6), none⟩]) (
  .seq (.reg [
  ⟨some 7, .mv (.t 4), none⟩,
  ⟨some 8, .bin .neq (.t 7) (.c (.int .i64 0)), none⟩]) (
  .cond (.t 8) (.seq (.reg [
   ⟨some 9, .build [.int .i64 0, .str [], .str [], .int .i64 0, .sl [] .nil, .int .i64 0] [], none⟩,
   ⟨some 10, .mv (.t 4), none⟩,
   ⟨none, .store 6 (.t 2) (.t 9), none⟩,
   ⟨some 3, .mv (.t 10), none⟩]) (
   .ret)) (.skip)))) (
  .seq (.reg [
  ⟨some 11, .load (some 6) (.t 1), none⟩,
  ⟨none, .store 6 (.t 2) (.t 11), none⟩,
  ⟨some 3, .mv (.c (.int .i64 0)), none⟩]) (
  .ret))), false⟩

/-- furlong/session.Find -/
def c87 : CF := ⟨2, 20, [.cell 4 (some 7), .tmp 5],
 .seq (.reg [
  ⟨some 4, .alloc 99 7 [.agg [.int .i64 0, .int .i64 0, .int .i64 0, .int .i64 0, .bool false, .str [], .sl [] .nil]], none⟩,
  ⟨some 5, .mv (.c (.bool false)), none⟩]) (
  .seq (.seq (.reg [
  ⟨some 9, .mv (.t 0), none⟩,
  ⟨some 10, .mv (.t 1), none⟩,
  ⟨some 11, .call (.c (.fn 102 [])) [.t 9, .t 10], none⟩,
  ⟨some 8, .mv (.t 11), none⟩,
  ⟨some 12, .ext (.t 8) 0, none⟩,
  ⟨some 13, .ext (.t 8) 1, none⟩,
  ⟨some 6, .mv (.t 12), none⟩,
  ⟨some 7, .mv (.t 13), none⟩]) (
  .seq (.reg [
  ⟨some 14, .mv (.t 7), none⟩]) (
  .cond (.t 14) (.seq (.reg [
   ⟨some 15, .mv (.t 0), none⟩,
   ⟨some 16, .mv (.t 6), none⟩,
   ⟨some 17, .idxA none 7 (.t 15) (.t 16), none⟩,
   ⟨some 18, .load (some 7) (.t 17), none⟩,
   ⟨none, .store 7 (.t 4) (.t 18), none⟩,
   ⟨some 5, .mv (.c (.bool true)), none⟩]) (
   .ret)) (.skip)))) (
  .seq (.reg [
  ⟨some 19, .build [.int .i64 0, .int .i64 0, .int .i64 0, .int .i64 0, .bool false, .str [], .sl [] .nil] [], none⟩,
  ⟨none, .store 7 (.t 4) (.t 19), none⟩,
  ⟨some 5, .mv (.c (.bool false)), none⟩]) (
  .ret))), false⟩

/-- furlong/order.fields -/
def c88 : CF := ⟨1, 204, [.cell 2 (some 11), .tmp 3],
 .seq (.reg [
  ⟨some 1, .box 38 11 (.t 0), none⟩,
  ⟨some 2, .alloc 38 11 [.agg [.int .i64 0, .int .i64 0, .int .i64 0, .str [], .str [], .str [], .str [], .bool false, .int .i64 0, .int .i64 0, .int .i64 0]], none⟩,
  ⟨some 3, .mv (.c (.bool false)), none⟩]) (
  .seq (.reg [
  ⟨some 7, .fldA 0 none (.t 1), none⟩,
  ⟨some 8, .load none (.t 7), none⟩,
  ⟨some 9, .fldA 1 none (.t 1), none⟩,
  ⟨some 10, .load none (.t 9), none⟩,
  ⟨some 11, .fldA 2 none (.t 1), none⟩,
  ⟨some 12, .load none (.t 11), none⟩,
  ⟨some 13, .build [.int .i64 0, .int .i64 0, .int .i64 0, .str [], .str [], .str [], .str [], .bool false, .int .i64 0, .int .i64 0, .int .i64 0] [(0, 1, .t 8), (1, 1, .t 10), (2, 1, .t 12)], none⟩,
  ⟨none, .store 11 (.t 2) (.t 13), none⟩]) (
  .seq (.reg [
  ⟨some 3, .mv (.c (.bool true)), none⟩]) (
  .seq (.seq (.reg [
  ⟨some 14, .fldA 0 none (.t 1), none⟩,
  ⟨some 15, .load none (.t 14), none⟩]) (
  .block 0 (.seq (.seq (.reg [
  ⟨some 17, .bin .eql (.t 15) (.c (.int .i64 0)), none⟩,
  ⟨some 16, .mv (.t 17), none⟩]) (
  .cond (.t 16) (.skip) (.reg [
   ⟨some 18, .bin .eql (.t 15) (.c (.int .i64 6)), none⟩,
   ⟨some 16, .mv (.t 18), none⟩]))) (
  .cond (.t 16) (.skip) (.seq (.seq (.reg [
   ⟨some 20, .bin .eql (.t 15) (.c (.int .i64 1)), none⟩,
   ⟨some 19, .mv (.t 20), none⟩]) (
   .cond (.t 19) (.skip) (.seq (.reg [
    ⟨some 21, .bin .eql (.t 15) (.c (.int .i64 3)), none⟩,
    ⟨some 19, .mv (.t 21), none⟩]) (
    .cond (.t 19) (.skip) (.seq (.reg [
     ⟨some 22, .bin .eql (.t 15) (.c (.int .i64 8)), none⟩,
     ⟨some 19, .mv (.t 22), none⟩]) (
     .cond (.t 19) (.skip) (.reg [
      ⟨some 23, .bin .eql (.t 15) (.c (.int .i64 12)), none⟩,
      ⟨some 19, .mv (.t 23), none⟩]))))))) (
   .cond (.t 19) (.seq (.reg [
    ⟨some 24, .fldA 3 none (.t 1), none⟩,
    ⟨some 25, .load none (.t 24), none⟩,
    ⟨some 26, .fldA 3 none (.t 2), none⟩,
    ⟨none, .store 1 (.t 26) (.t 25), none⟩]) (
    .reg [
    ⟨some 27, .fldA 3 none (.t 1), none⟩,
    ⟨some 28, .load none (.t 27), none⟩,
    ⟨some 29, .call (.c (.fn 135 [])) [.t 28], none⟩,
    ⟨some 3, .mv (.t 29), none⟩])) (.seq (.reg [
    ⟨some 31, .bin .eql (.t 15) (.c (.int .i64 2)), none⟩,
    ⟨some 30, .mv (.t 31), none⟩]) (
    .cond (.t 30) (.seq (.dreg [
     ⟨.v, 0, 0, 0, ⟨some 32, .fldA 3 none (.t 1), none⟩⟩,
     ⟨.v, 0, 0, 1, ⟨some 33, .load none (.t 32), none⟩⟩,
     ⟨.v, 0, 1, 2, ⟨some 34, .fldA 5 none (.t 1), none⟩⟩,
     ⟨.v, 0, 1, 3, ⟨some 35, .load none (.t 34), none⟩⟩,
     ⟨.v, 0, 0, 4, ⟨some 36, .fldA 3 none (.t 2), none⟩⟩,
     ⟨.e, 0, 1, 5, ⟨none, .store 1 (.t 36) (.t 33), none⟩⟩,
     ⟨.v, 1, 1, 6, ⟨some 37, .fldA 5 none (.t 2), none⟩⟩,
     ⟨.e, 1, 2, 7, ⟨none, .store 1 (.t 37) (.t 35), none⟩⟩]) (
     .reg [
     ⟨some 38, .fldA 3 none (.t 1), none⟩,
     ⟨some 39, .load none (.t 38), none⟩,
     ⟨some 40, .call (.c (.fn 135 [])) [.t 39], none⟩,
     ⟨some 41, .mv (.t 40), none⟩,
     ⟨some 42, .fldA 5 none (.t 1), (some (41, true))⟩,
     ⟨some 43, .load none (.t 42), (some (41, true))⟩,
     ⟨some 44, .call (.c (.fn 136 [])) [.t 43], (some (41, true))⟩,
     ⟨some 45, .pick (.t 41) (.t 44) (.c (.bool false)), none⟩,
     ⟨some 3, .mv (.t 45), none⟩])) (.seq (.reg [
     ⟨some 47, .bin .eql (.t 15) (.c (.int .i64 4)), none⟩,
     ⟨some 46, .mv (.t 47), none⟩]) (
     .cond (.t 46) (.seq (.dreg [
      ⟨.v, 0, 0, 0, ⟨some 48, .fldA 3 none (.t 1), none⟩⟩,
      ⟨.v, 0, 0, 1, ⟨some 49, .load none (.t 48), none⟩⟩,
      ⟨.v, 0, 1, 2, ⟨some 50, .fldA 5 none (.t 1), none⟩⟩,
      ⟨.v, 0, 1, 3, ⟨some 51, .load none (.t 50), none⟩⟩,
      ⟨.v, 0, 2, 4, ⟨some 52, .fldA 6 none (.t 1), none⟩⟩,
      ⟨.v, 0, 2, 5, ⟨some 53, .load none (.t 52), none⟩⟩,
      ⟨.v, 0, 3, 6, ⟨some 54, .fldA 7 none (.t 1), none⟩⟩,
      ⟨.v, 0, 3, 7, ⟨some 55, .load none (.t 54), none⟩⟩,
      ⟨.v, 0, 0, 8, ⟨some 56, .fldA 3 none (.t 2), none⟩⟩,
      ⟨.e, 0, 1, 9, ⟨none, .store 1 (.t 56) (.t 49), none⟩⟩,
      ⟨.v, 1, 1, 10, ⟨some 57, .fldA 5 none (.t 2), none⟩⟩,
      ⟨.e, 1, 2, 11, ⟨none, .store 1 (.t 57) (.t 51), none⟩⟩,
      ⟨.v, 2, 2, 12, ⟨some 58, .fldA 6 none (.t 2), none⟩⟩,
      ⟨.e, 2, 3, 13, ⟨none, .store 1 (.t 58) (.t 53), none⟩⟩,
      ⟨.v, 3, 3, 14, ⟨some 59, .fldA 7 none (.t 2), none⟩⟩,
      ⟨.e, 3, 4, 15, ⟨none, .store 1 (.t 59) (.t 55), none⟩⟩]) (
      .reg [
      ⟨some 60, .fldA 3 none (.t 1), none⟩,
      ⟨some 61, .load none (.t 60), none⟩,
      ⟨some 62, .call (.c (.fn 135 [])) [.t 61], none⟩,
      ⟨some 63, .mv (.t 62), none⟩,
      ⟨some 64, .fldA 5 none (.t 1), (some (63, true))⟩,
      ⟨some 65, .load none (.t 64), (some (63, true))⟩,
      ⟨some 66, .call (.c (.fn 136 [])) [.t 65], (some (63, true))⟩,
      ⟨some 67, .pick (.t 63) (.t 66) (.c (.bool false)), none⟩,
      ⟨some 68, .mv (.t 67), none⟩,
      ⟨some 69, .fldA 6 none (.t 1), (some (68, true))⟩,
      ⟨some 70, .load none (.t 69), (some (68, true))⟩,
      ⟨some 71, .call (.c (.fn 136 [])) [.t 70], (some (68, true))⟩,
      ⟨some 72, .pick (.t 68) (.t 71) (.c (.bool false)), none⟩,
      ⟨some 73, .mv (.t 72), none⟩,
      ⟨some 74, .fldA 7 none (.t 1), (some (73, true))⟩,
      ⟨some 75, .load none (.t 74), (some (73, true))⟩,
      ⟨some 76, .mv (.t 75), (some (73, true))⟩,
      ⟨some 77, .fldA 6 none (.t 1), (some (76, false))⟩,
      ⟨some 78, .load none (.t 77), (some (76, false))⟩,
      ⟨some 79, .bin .eql (.t 78) (.c (.str [])), (some (76, false))⟩,
      ⟨some 80, .pick (.t 76) (.c (.bool true)) (.t 79), (some (73, true))⟩,
      ⟨some 81, .pick (.t 73) (.t 80) (.c (.bool false)), none⟩,
      ⟨some 3, .mv (.t 81), none⟩])) (.seq (.reg [
      ⟨some 83, .bin .eql (.t 15) (.c (.int .i64 5)), none⟩,
      ⟨some 82, .mv (.t 83), none⟩]) (
      .cond (.t 82) (.seq (.dreg [
       ⟨.v, 0, 0, 0, ⟨some 84, .fldA 3 none (.t 1), none⟩⟩,
       ⟨.v, 0, 0, 1, ⟨some 85, .load none (.t 84), none⟩⟩,
       ⟨.v, 0, 1, 2, ⟨some 86, .fldA 4 none (.t 1), none⟩⟩,
       ⟨.v, 0, 1, 3, ⟨some 87, .load none (.t 86), none⟩⟩,
       ⟨.v, 0, 2, 4, ⟨some 88, .fldA 8 none (.t 1), none⟩⟩,
       ⟨.v, 0, 2, 5, ⟨some 89, .load none (.t 88), none⟩⟩,
       ⟨.v, 0, 0, 6, ⟨some 90, .fldA 3 none (.t 2), none⟩⟩,
       ⟨.e, 0, 1, 7, ⟨none, .store 1 (.t 90) (.t 85), none⟩⟩,
       ⟨.v, 1, 1, 8, ⟨some 91, .fldA 4 none (.t 2), none⟩⟩,
       ⟨.e, 1, 2, 9, ⟨none, .store 1 (.t 91) (.t 87), none⟩⟩,
       ⟨.v, 2, 2, 10, ⟨some 92, .fldA 8 none (.t 2), none⟩⟩,
       ⟨.e, 2, 3, 11, ⟨none, .store 1 (.t 92) (.t 89), none⟩⟩]) (
       .reg [
       ⟨some 93, .fldA 3 none (.t 1), none⟩,
       ⟨some 94, .load none (.t 93), none⟩,
       ⟨some 95, .fldA 4 none (.t 1), none⟩,
       ⟨some 96, .load none (.t 95), none⟩,
       ⟨some 97, .build [.str [], .str []] [(0, 1, .t 94), (1, 1, .t 96)], none⟩,
       ⟨some 98, .call (.c (.fn 137 [])) [.t 97], none⟩,
       ⟨some 99, .bin .eql (.t 98) (.c (.int .i64 0)), none⟩,
       ⟨some 100, .mv (.t 99), none⟩,
       ⟨some 101, .fldA 8 none (.t 1), (some (100, true))⟩,
       ⟨some 102, .load none (.t 101), (some (100, true))⟩,
       ⟨some 103, .call (.c (.fn 89 [])) [.t 102, .c (.int .i64 1), .c (.int .i64 100)], (some (100, true))⟩,
       ⟨some 104, .pick (.t 100) (.t 103) (.c (.bool false)), none⟩,
       ⟨some 3, .mv (.t 104), none⟩])) (.seq (.reg [
       ⟨some 106, .bin .eql (.t 15) (.c (.int .i64 7)), none⟩,
       ⟨some 105, .mv (.t 106), none⟩]) (
       .cond (.t 105) (.seq (.dreg [
        ⟨.v, 0, 0, 0, ⟨some 107, .fldA 3 none (.t 1), none⟩⟩,
        ⟨.v, 0, 0, 1, ⟨some 108, .load none (.t 107), none⟩⟩,
        ⟨.v, 0, 1, 2, ⟨some 109, .fldA 9 none (.t 1), none⟩⟩,
        ⟨.v, 0, 1, 3, ⟨some 110, .load none (.t 109), none⟩⟩,
        ⟨.v, 0, 0, 4, ⟨some 111, .fldA 3 none (.t 2), none⟩⟩,
        ⟨.e, 0, 1, 5, ⟨none, .store 1 (.t 111) (.t 108), none⟩⟩,
        ⟨.v, 1, 1, 6, ⟨some 112, .fldA 9 none (.t 2), none⟩⟩,
        ⟨.e, 1, 2, 7, ⟨none, .store 1 (.t 112) (.t 110), none⟩⟩]) (
        .seq (.reg [
        ⟨some 113, .fldA 3 none (.t 1), none⟩,
        ⟨some 114, .load none (.t 113), none⟩,
        ⟨some 115, .call (.c (.fn 138 [])) [.t 114], none⟩,
        ⟨some 4, .mv (.t 115), none⟩]) (
        .reg [
        ⟨some 116, .fldA 3 none (.t 1), none⟩,
        ⟨some 117, .load none (.t 116), none⟩,
        ⟨some 118, .call (.c (.fn 135 [])) [.t 117], none⟩,
        ⟨some 119, .mv (.t 118), none⟩,
        ⟨some 120, .mv (.t 4), (some (119, true))⟩,
        ⟨some 121, .bin .eql (.t 120) (.c (.int .i64 0)), (some (119, true))⟩,
        ⟨some 122, .mv (.t 121), (some (119, true))⟩,
        ⟨some 123, .mv (.t 4), (some (122, false))⟩,
        ⟨some 124, .bin .eql (.t 123) (.c (.int .i64 2)), (some (122, false))⟩,
        ⟨some 125, .pick (.t 122) (.c (.bool true)) (.t 124), (some (119, true))⟩,
        ⟨some 126, .pick (.t 119) (.t 125) (.c (.bool false)), none⟩,
        ⟨some 127, .mv (.t 126), none⟩,
        ⟨some 128, .fldA 9 none (.t 1), (some (127, true))⟩,
        ⟨some 129, .load none (.t 128), (some (127, true))⟩,
        ⟨some 130, .call (.c (.fn 89 [])) [.t 129, .c (.int .i64 2), .c (.int .i64 1099511627776)], (some (127, true))⟩,
        ⟨some 131, .pick (.t 127) (.t 130) (.c (.bool false)), none⟩,
        ⟨some 3, .mv (.t 131), none⟩]))) (.seq (.reg [
        ⟨some 133, .bin .eql (.t 15) (.c (.int .i64 9)), none⟩,
        ⟨some 132, .mv (.t 133), none⟩]) (
        .cond (.t 132) (.seq (.dreg [
         ⟨.v, 0, 0, 0, ⟨some 134, .fldA 3 none (.t 1), none⟩⟩,
         ⟨.v, 0, 0, 1, ⟨some 135, .load none (.t 134), none⟩⟩,
         ⟨.v, 0, 1, 2, ⟨some 136, .fldA 5 none (.t 1), none⟩⟩,
         ⟨.v, 0, 1, 3, ⟨some 137, .load none (.t 136), none⟩⟩,
         ⟨.v, 0, 0, 4, ⟨some 138, .fldA 3 none (.t 2), none⟩⟩,
         ⟨.e, 0, 1, 5, ⟨none, .store 1 (.t 138) (.t 135), none⟩⟩,
         ⟨.v, 1, 1, 6, ⟨some 139, .fldA 5 none (.t 2), none⟩⟩,
         ⟨.e, 1, 2, 7, ⟨none, .store 1 (.t 139) (.t 137), none⟩⟩]) (
         .reg [
         ⟨some 140, .fldA 3 none (.t 1), none⟩,
         ⟨some 141, .load none (.t 140), none⟩,
         ⟨some 142, .call (.c (.fn 135 [])) [.t 141], none⟩,
         ⟨some 143, .mv (.t 142), none⟩,
         ⟨some 144, .fldA 5 none (.t 1), (some (143, true))⟩,
         ⟨some 145, .load none (.t 144), (some (143, true))⟩,
         ⟨some 146, .len .s (.t 145), (some (143, true))⟩,
         ⟨some 147, .call (.c (.fn 89 [])) [.t 146, .c (.int .i64 1), .c (.int .i64 65536)], (some (143, true))⟩,
         ⟨some 148, .pick (.t 143) (.t 147) (.c (.bool false)), none⟩,
         ⟨some 3, .mv (.t 148), none⟩])) (.seq (.reg [
         ⟨some 150, .bin .eql (.t 15) (.c (.int .i64 10)), none⟩,
         ⟨some 149, .mv (.t 150), none⟩]) (
         .cond (.t 149) (.seq (.dreg [
          ⟨.v, 0, 0, 0, ⟨some 151, .fldA 3 none (.t 1), none⟩⟩,
          ⟨.v, 0, 0, 1, ⟨some 152, .load none (.t 151), none⟩⟩,
          ⟨.v, 0, 1, 2, ⟨some 153, .fldA 10 none (.t 1), none⟩⟩,
          ⟨.v, 0, 1, 3, ⟨some 154, .load none (.t 153), none⟩⟩,
          ⟨.v, 0, 0, 4, ⟨some 155, .fldA 3 none (.t 2), none⟩⟩,
          ⟨.e, 0, 1, 5, ⟨none, .store 1 (.t 155) (.t 152), none⟩⟩,
          ⟨.v, 1, 1, 6, ⟨some 156, .fldA 10 none (.t 2), none⟩⟩,
          ⟨.e, 1, 2, 7, ⟨none, .store 1 (.t 156) (.t 154), none⟩⟩]) (
          .reg [
          ⟨some 157, .fldA 3 none (.t 1), none⟩,
          ⟨some 158, .load none (.t 157), none⟩,
          ⟨some 159, .call (.c (.fn 135 [])) [.t 158], none⟩,
          ⟨some 160, .mv (.t 159), none⟩,
          ⟨some 161, .fldA 10 none (.t 1), (some (160, true))⟩,
          ⟨some 162, .load none (.t 161), (some (160, true))⟩,
          ⟨some 163, .call (.c (.fn 89 [])) [.t 162, .c (.int .i64 1), .c (.int .i64 7)], (some (160, true))⟩,
          ⟨some 164, .pick (.t 160) (.t 163) (.c (.bool false)), none⟩,
          ⟨some 3, .mv (.t 164), none⟩])) (.seq (.reg [
          ⟨some 166, .bin .eql (.t 15) (.c (.int .i64 11)), none⟩,
          ⟨some 165, .mv (.t 166), none⟩]) (
          .cond (.t 165) (.seq (.dreg [
           ⟨.v, 0, 0, 0, ⟨some 167, .fldA 3 none (.t 1), none⟩⟩,
           ⟨.v, 0, 0, 1, ⟨some 168, .load none (.t 167), none⟩⟩,
           ⟨.v, 0, 1, 2, ⟨some 169, .fldA 9 none (.t 1), none⟩⟩,
           ⟨.v, 0, 1, 3, ⟨some 170, .load none (.t 169), none⟩⟩,
           ⟨.v, 0, 0, 4, ⟨some 171, .fldA 3 none (.t 2), none⟩⟩,
           ⟨.e, 0, 1, 5, ⟨none, .store 1 (.t 171) (.t 168), none⟩⟩,
           ⟨.v, 1, 1, 6, ⟨some 172, .fldA 9 none (.t 2), none⟩⟩,
           ⟨.e, 1, 2, 7, ⟨none, .store 1 (.t 172) (.t 170), none⟩⟩]) (
           .reg [
           ⟨some 173, .fldA 3 none (.t 1), none⟩,
           ⟨some 174, .load none (.t 173), none⟩,
           ⟨some 175, .call (.c (.fn 135 [])) [.t 174], none⟩,
           ⟨some 176, .mv (.t 175), none⟩,
           ⟨some 177, .fldA 9 none (.t 1), (some (176, true))⟩,
           ⟨some 178, .load none (.t 177), (some (176, true))⟩,
           ⟨some 179, .call (.c (.fn 89 [])) [.t 178, .c (.int .i64 1), .c (.int .i64 1099511627776)], (some (176, true))⟩,
           ⟨some 180, .pick (.t 176) (.t 179) (.c (.bool false)), none⟩,
           ⟨some 3, .mv (.t 180), none⟩])) (.seq (.reg [
           ⟨some 182, .bin .eql (.t 15) (.c (.int .i64 13)), none⟩,
           ⟨some 181, .mv (.t 182), none⟩]) (
           .cond (.t 181) (.seq (.dreg [
            ⟨.v, 0, 0, 0, ⟨some 183, .fldA 5 none (.t 1), none⟩⟩,
            ⟨.v, 0, 0, 1, ⟨some 184, .load none (.t 183), none⟩⟩,
            ⟨.v, 0, 1, 2, ⟨some 185, .fldA 8 none (.t 1), none⟩⟩,
            ⟨.v, 0, 1, 3, ⟨some 186, .load none (.t 185), none⟩⟩,
            ⟨.v, 0, 0, 4, ⟨some 187, .fldA 5 none (.t 2), none⟩⟩,
            ⟨.e, 0, 1, 5, ⟨none, .store 1 (.t 187) (.t 184), none⟩⟩,
            ⟨.v, 1, 1, 6, ⟨some 188, .fldA 8 none (.t 2), none⟩⟩,
            ⟨.e, 1, 2, 7, ⟨none, .store 1 (.t 188) (.t 186), none⟩⟩]) (
            .seq (.reg [
            ⟨some 190, .fldA 5 none (.t 1), none⟩,
            ⟨some 191, .load none (.t 190), none⟩,
            ⟨some 192, .call (.c (.fn 139 [])) [.t 191], none⟩,
            ⟨some 189, .mv (.t 192), none⟩,
            ⟨some 193, .ext (.t 189) 0, none⟩,
            ⟨some 194, .ext (.t 189) 1, none⟩,
            ⟨some 5, .alloc 26 6 [.agg [.int .i64 0, .str [], .str [], .int .i64 0, .sl [] .nil, .int .i64 0]], none⟩,
            ⟨none, .store 6 (.t 5) (.t 193), none⟩,
            ⟨some 6, .mv (.t 194), none⟩]) (
            .reg [
            ⟨some 195, .mv (.t 6), none⟩,
            ⟨some 196, .bin .eql (.t 195) (.c (.int .i64 0)), none⟩,
            ⟨some 197, .mv (.t 196), none⟩,
            ⟨some 198, .fldA 8 none (.t 1), (some (197, true))⟩,
            ⟨some 199, .load none (.t 198), (some (197, true))⟩,
            ⟨some 200, .call (.c (.fn 89 [])) [.t 199, .c (.int .i64 1), .c (.int .i64 2)], (some (197, true))⟩,
            ⟨some 201, .pick (.t 197) (.t 200) (.c (.bool false)), none⟩,
            ⟨some 3, .mv (.t 201), none⟩]))) (.reg [
            ⟨some 3, .mv (.c (.bool false)), none⟩]))))))))))))))))))))))) (
  .seq (.reg [
  ⟨some 202, .load (some 11) (.t 2), none⟩,
  ⟨some 203, .mv (.t 3), none⟩,
  ⟨none, .store 11 (.t 2) (.t 202), none⟩,
  ⟨some 3, .mv (.t 203), none⟩]) (
  .ret))))), false⟩

/-- furlong/order.within -/
def c89 : CF := ⟨3, 15, [.tmp 6],
 .seq (.reg [
  ⟨some 6, .mv (.c (.bool false)), none⟩]) (
  .seq (.reg [
  ⟨some 7, .mv (.t 0), none⟩,
  ⟨some 8, .mv (.t 1), none⟩,
  ⟨some 9, .bin .geq (.t 7) (.t 8), none⟩,
  ⟨some 10, .mv (.t 9), none⟩,
  ⟨some 11, .mv (.t 0), (some (10, true))⟩,
  ⟨some 12, .mv (.t 2), (some (10, true))⟩,
  ⟨some 13, .bin .leq (.t 11) (.t 12), (some (10, true))⟩,
  ⟨some 14, .pick (.t 10) (.t 13) (.c (.bool false)), none⟩,
  ⟨some 6, .mv (.t 14), none⟩]) (
  .ret)), false⟩

/-- furlong/bound.ends -/
def c90 : CF := ⟨2, 14, [.tmp 4],
 .seq (.reg [
  ⟨some 2, .box 23 2 (.t 0), none⟩,
  ⟨some 4, .mv (.c (.bool false)), none⟩]) (
  .seq (.reg [
  ⟨some 5, .fldA 1 none (.t 2), none⟩,
  ⟨some 6, .load none (.t 5), none⟩,
  ⟨some 7, .bin .eql (.t 6) (.c (.str [])), none⟩,
  ⟨some 8, .mv (.t 7), none⟩,
  ⟨some 9, .mv (.t 1), (some (8, false))⟩,
  ⟨some 10, .fldA 1 none (.t 2), (some (8, false))⟩,
  ⟨some 11, .load none (.t 10), (some (8, false))⟩,
  ⟨some 12, .bin .lss (.t 9) (.t 11), (some (8, false))⟩,
  ⟨some 13, .pick (.t 8) (.c (.bool true)) (.t 12), none⟩,
  ⟨some 4, .mv (.t 13), none⟩]) (
  .ret)), false⟩

/-- furlong/desc.Put -/
def c91 : CF := ⟨1, 41, [.tmp 2],
 .seq (.reg [
  ⟨some 1, .box 26 6 (.t 0), none⟩,
  ⟨some 2, .mv (.c (.str [])), none⟩]) (
  .seq (.dreg [
  ⟨.v, 0, 0, 0, ⟨some 6, .fldA 0 none (.t 1), none⟩⟩,
  ⟨.v, 0, 0, 1, ⟨some 7, .load none (.t 6), none⟩⟩,
  ⟨.e, 0, 1, 2, ⟨some 8, .call (.c (.fn 140 [])) [.t 7], none⟩⟩,
  ⟨.v, 0, 3, 3, ⟨some 9, .fldA 1 (some 2) (.t 1), none⟩⟩,
  ⟨.v, 0, 3, 4, ⟨some 10, .fldA 0 none (.t 9), none⟩⟩,
  ⟨.v, 0, 3, 5, ⟨some 11, .load none (.t 10), none⟩⟩,
  ⟨.v, 0, 3, 6, ⟨some 12, .fldA 1 (some 2) (.t 1), none⟩⟩,
  ⟨.v, 0, 3, 7, ⟨some 13, .fldA 1 none (.t 12), none⟩⟩,
  ⟨.v, 0, 3, 8, ⟨some 14, .load none (.t 13), none⟩⟩,
  ⟨.v, 0, 1, 9, ⟨some 15, .fldA 3 none (.t 1), none⟩⟩,
  ⟨.v, 0, 1, 10, ⟨some 16, .load none (.t 15), none⟩⟩,
  ⟨.e, 1, 2, 11, ⟨some 17, .call (.c (.fn 140 [])) [.t 16], none⟩⟩,
  ⟨.v, 0, 2, 12, ⟨some 18, .fldA 5 none (.t 1), none⟩⟩,
  ⟨.v, 0, 2, 13, ⟨some 19, .load none (.t 18), none⟩⟩,
  ⟨.e, 2, 3, 14, ⟨some 20, .call (.c (.fn 140 [])) [.t 19], none⟩⟩,
  ⟨.e, 3, 4, 15, ⟨some 21, .mkSl 9 1 (.str []) 5 [(0, .t 8), (1, .t 11), (2, .t 14), (3, .t 17), (4, .t 20)], none⟩⟩,
  ⟨.v, 4, 4, 16, ⟨some 3, .mv (.t 21), none⟩⟩]) (
  .seq (.seq (.reg [
  ⟨some 22, .fldA 4 none (.t 1), none⟩,
  ⟨some 23, .load none (.t 22), none⟩,
  ⟨some 24, .len .l (.t 23), none⟩,
  ⟨some 25, .mv (.c (.int .i64 0)), none⟩]) (
  .block 0 (.loop [3, 23, 24, 25] (.seq (.reg [
   ⟨some 26, .bin .lss (.t 25) (.t 24), none⟩]) (
   .seq (.cond (.t 26) (.skip) (.exit 0)) (
   .seq (.block 1 (.seq (.reg [
   ⟨some 27, .idxA none 2 (.t 23) (.t 25), none⟩,
   ⟨some 28, .load (some 2) (.t 27), none⟩,
   ⟨some 5, .alloc 70 2 [.agg [.int .i64 0, .int .i64 0]], none⟩,
   ⟨none, .store 2 (.t 5) (.t 28), none⟩]) (
   .dreg [
   ⟨.v, 0, 3, 0, ⟨some 29, .mv (.t 3), none⟩⟩,
   ⟨.v, 0, 0, 1, ⟨some 30, .fldA 0 none (.t 5), none⟩⟩,
   ⟨.v, 0, 0, 2, ⟨some 31, .load none (.t 30), none⟩⟩,
   ⟨.e, 0, 1, 3, ⟨some 32, .call (.c (.fn 140 [])) [.t 31], none⟩⟩,
   ⟨.v, 0, 1, 4, ⟨some 33, .fldA 1 none (.t 5), none⟩⟩,
   ⟨.v, 0, 1, 5, ⟨some 34, .load none (.t 33), none⟩⟩,
   ⟨.e, 1, 2, 6, ⟨some 35, .call (.c (.fn 140 [])) [.t 34], none⟩⟩,
   ⟨.e, 2, 3, 7, ⟨some 36, .mkSl 9 1 (.str []) 2 [(0, .t 32), (1, .t 35)], none⟩⟩,
   ⟨.e, 3, 4, 8, ⟨some 37, .app 9 1 (.t 29) (.t 36), none⟩⟩,
   ⟨.v, 4, 4, 9, ⟨some 3, .mv (.t 37), none⟩⟩]))) (
   .reg [
   ⟨some 38, .bin .add (.t 25) (.c (.int .i64 1)), none⟩,
   ⟨some 25, .mv (.t 38), none⟩]))))))) (
  .seq (.reg [
  ⟨some 39, .mv (.t 3), none⟩,
  ⟨some 40, .call (.c (.fn 141 [])) [.t 39], none⟩,
  ⟨some 2, .mv (.t 40), none⟩]) (
  .ret)))), false⟩

/-- (*furlong/plot.work).members -/
def c99 : CF := ⟨3, 24, [],
 .seq (.reg [
  ⟨some 4, .box 26 6 (.t 1), none⟩]) (
  .seq (.seq (.reg [
  ⟨some 6, .mv (.t 2), none⟩,
  ⟨some 7, .bin .neq (.t 6) (.c (.int .i64 0)), none⟩]) (
  .cond (.t 7) (.seq (.reg [
   ⟨some 8, .mv (.t 0), none⟩,
   ⟨some 9, .mv (.t 2), none⟩,
   ⟨some 10, .call (.c (.fn 48 [])) [.t 9], none⟩,
   ⟨some 11, .nilchk (.t 8), none⟩,
   ⟨some 12, .fldA 22 (some 5) (.t 11), none⟩,
   ⟨none, .store 5 (.t 12) (.t 10), none⟩]) (
   .ret)) (.skip))) (
  .seq (.reg [
  ⟨some 13, .mv (.t 0), none⟩,
  ⟨some 14, .load (some 6) (.t 4), none⟩,
  ⟨some 15, .nilchk (.t 13), none⟩,
  ⟨some 16, .fldA 0 (some 11) (.t 15), none⟩,
  ⟨some 17, .fldA 0 (some 6) (.t 16), none⟩,
  ⟨none, .store 6 (.t 17) (.t 14), none⟩]) (
  .reg [
  ⟨some 18, .mv (.t 0), none⟩,
  ⟨some 19, .load (some 6) (.t 4), none⟩,
  ⟨some 20, .call (.c (.fn 91 [])) [.t 19], none⟩,
  ⟨some 21, .nilchk (.t 18), none⟩,
  ⟨some 22, .fldA 22 (some 5) (.t 21), none⟩,
  ⟨some 23, .fldA 3 none (.t 22), none⟩,
  ⟨none, .store 1 (.t 23) (.t 20), none⟩]))), false⟩

/-- furlong/session.is -/
def c101 : CF := ⟨1, 31, [.tmp 2],
 .seq (.reg [
  ⟨some 1, .box 99 7 (.t 0), none⟩,
  ⟨some 2, .mv (.c (.bool false)), none⟩]) (
  .seq (.reg [
  ⟨some 3, .fldA 0 none (.t 1), none⟩,
  ⟨some 4, .load none (.t 3), none⟩,
  ⟨some 5, .call (.c (.fn 152 [])) [.t 4], none⟩,
  ⟨some 6, .mv (.t 5), none⟩,
  ⟨some 7, .fldA 1 none (.t 1), (some (6, true))⟩,
  ⟨some 8, .load none (.t 7), (some (6, true))⟩,
  ⟨some 9, .call (.c (.fn 152 [])) [.t 8], (some (6, true))⟩,
  ⟨some 10, .pick (.t 6) (.t 9) (.c (.bool false)), none⟩,
  ⟨some 11, .mv (.t 10), none⟩,
  ⟨some 12, .fldA 2 (some 5) (.t 1), (some (11, true))⟩,
  ⟨some 13, .load (some 5) (.t 12), (some (11, true))⟩,
  ⟨some 14, .call (.c (.fn 153 [])) [.t 13], (some (11, true))⟩,
  ⟨some 15, .bin .eql (.t 14) (.c (.int .i64 0)), (some (11, true))⟩,
  ⟨some 16, .pick (.t 11) (.t 15) (.c (.bool false)), none⟩,
  ⟨some 17, .mv (.t 16), none⟩,
  ⟨some 18, .fldA 2 (some 5) (.t 1), (some (17, true))⟩,
  ⟨some 19, .fldA 3 none (.t 18), (some (17, true))⟩,
  ⟨some 20, .load none (.t 19), (some (17, true))⟩,
  ⟨some 21, .len .s (.t 20), (some (17, true))⟩,
  ⟨some 22, .bin .leq (.t 21) (.c (.int .i64 512)), (some (17, true))⟩,
  ⟨some 23, .pick (.t 17) (.t 22) (.c (.bool false)), none⟩,
  ⟨some 24, .mv (.t 23), none⟩,
  ⟨some 25, .fldA 2 (some 5) (.t 1), (some (24, true))⟩,
  ⟨some 26, .fldA 4 none (.t 25), (some (24, true))⟩,
  ⟨some 27, .load none (.t 26), (some (24, true))⟩,
  ⟨some 28, .len .l (.t 27), (some (24, true))⟩,
  ⟨some 29, .bin .eql (.t 28) (.c (.int .i64 0)), (some (24, true))⟩,
  ⟨some 30, .pick (.t 24) (.t 29) (.c (.bool false)), none⟩,
  ⟨some 2, .mv (.t 30), none⟩]) (
  .ret)), false⟩

/-- furlong/session.place -/
def c102 : CF := ⟨2, 11, [.tmp 4, .tmp 5],
 .seq (.reg [
  ⟨some 4, .mv (.c (.int .i64 0)), none⟩,
  ⟨some 5, .mv (.c (.bool false)), none⟩]) (
  .seq (.reg [
  ⟨some 6, .mv (.t 0), none⟩,
  ⟨some 7, .mv (.t 1), none⟩,
  ⟨some 8, .call (.c (.fn 154 [])) [.t 6, .t 7, .c (.fn 155 [])], none⟩,
  ⟨some 9, .ext (.t 8) 0, none⟩,
  ⟨some 10, .ext (.t 8) 1, none⟩,
  ⟨some 4, .mv (.t 9), none⟩,
  ⟨some 5, .mv (.t 10), none⟩]) (
  .ret)), false⟩

/-- slices.Insert[[]furlong/api.Session,furlong/api.Session] -/
def c104 : CF := ⟨3, 95, [.tmp 6],
 .seq (.reg [
  ⟨some 6, .mv (.c (.sl [] .nil)), none⟩]) (
  .seq (.reg [
  ⟨some 10, .mv (.t 0), none⟩,
  ⟨some 11, .mv (.t 1), none⟩,
  ⟨some 12, .slice (some 7) (.t 10) (some (.t 11)) none none, none⟩]) (
  .seq (.reg [
  ⟨some 13, .mv (.t 2), none⟩,
  ⟨some 14, .len .l (.t 13), none⟩,
  ⟨some 7, .mv (.t 14), none⟩]) (
  .seq (.seq (.reg [
  ⟨some 15, .mv (.t 7), none⟩,
  ⟨some 16, .bin .eql (.t 15) (.c (.int .i64 0)), none⟩]) (
  .cond (.t 16) (.seq (.reg [
   ⟨some 17, .mv (.t 0), none⟩,
   ⟨some 6, .mv (.t 17), none⟩]) (
   .ret)) (.skip))) (
  .seq (.reg [
  ⟨some 18, .mv (.t 0), none⟩,
  ⟨some 19, .len .l (.t 18), none⟩,
  ⟨some 8, .mv (.t 19), none⟩]) (
  .seq (.seq (.reg [
  ⟨some 20, .mv (.t 1), none⟩,
  ⟨some 21, .mv (.t 8), none⟩,
  ⟨some 22, .bin .eql (.t 20) (.t 21), none⟩]) (
  .cond (.t 22) (.seq (.reg [
   ⟨some 23, .mv (.t 0), none⟩,
   ⟨some 24, .mv (.t 2), none⟩,
   ⟨some 25, .app 99 7 (.t 23) (.t 24), none⟩,
   ⟨some 6, .mv (.t 25), none⟩]) (
   .ret)) (.skip))) (
  .seq (.seq (.reg [
  ⟨some 26, .mv (.t 8), none⟩,
  ⟨some 27, .mv (.t 7), none⟩,
  ⟨some 28, .bin .add (.t 26) (.t 27), none⟩,
  ⟨some 29, .mv (.t 0), none⟩,
  ⟨some 30, .cap (.t 29), none⟩,
  ⟨some 31, .bin .gtr (.t 28) (.t 30), none⟩]) (
  .cond (.t 31) (.seq (.reg [
   ⟨some 32, .mv (.t 0), none⟩,
   ⟨some 33, .mv (.t 1), none⟩,
   ⟨some 34, .slice (some 7) (.t 32) none (some (.t 33)) none, none⟩,
   ⟨some 35, .mv (.t 8), none⟩,
   ⟨some 36, .mv (.t 7), none⟩,
   ⟨some 37, .bin .add (.t 35) (.t 36), none⟩,
   ⟨some 38, .mv (.t 1), none⟩,
   ⟨some 39, .bin .sub (.t 37) (.t 38), none⟩,
   ⟨some 40, .appZ 99 7 (.agg [.int .i64 0, .int .i64 0, .int .i64 0, .int .i64 0, .bool false, .str [], .sl [] .nil]) (.t 34) (.t 39), none⟩,
   ⟨some 9, .mv (.t 40), none⟩]) (
   .seq (.reg [
   ⟨some 41, .mv (.t 9), none⟩,
   ⟨some 42, .mv (.t 1), none⟩,
   ⟨some 43, .slice (some 7) (.t 41) (some (.t 42)) none none, none⟩,
   ⟨some 44, .mv (.t 2), none⟩,
   ⟨some 45, .copy 7 (.t 43) (.t 44), none⟩]) (
   .seq (.dreg [
   ⟨.v, 0, 0, 0, ⟨some 46, .mv (.t 9), none⟩⟩,
   ⟨.v, 0, 0, 1, ⟨some 47, .mv (.t 1), none⟩⟩,
   ⟨.v, 0, 0, 2, ⟨some 48, .mv (.t 7), none⟩⟩,
   ⟨.v, 0, 0, 3, ⟨some 49, .bin .add (.t 47) (.t 48), none⟩⟩,
   ⟨.v, 0, 0, 4, ⟨some 50, .slice (some 7) (.t 46) (some (.t 49)) none none, none⟩⟩,
   ⟨.v, 0, 0, 5, ⟨some 51, .mv (.t 0), none⟩⟩,
   ⟨.v, 0, 0, 6, ⟨some 52, .mv (.t 1), none⟩⟩,
   ⟨.v, 0, 0, 7, ⟨some 53, .slice (some 7) (.t 51) (some (.t 52)) none none, none⟩⟩,
   ⟨.e, 0, 1, 8, ⟨some 54, .copy 7 (.t 50) (.t 53), none⟩⟩]) (
   .seq (.reg [
   ⟨some 55, .mv (.t 9), none⟩,
   ⟨some 6, .mv (.t 55), none⟩]) (
   .ret))))) (.skip))) (
  .seq (.reg [
  ⟨some 56, .mv (.t 0), none⟩,
  ⟨some 57, .mv (.t 8), none⟩,
  ⟨some 58, .mv (.t 7), none⟩,
  ⟨some 59, .bin .add (.t 57) (.t 58), none⟩,
  ⟨some 60, .slice (some 7) (.t 56) none (some (.t 59)) none, none⟩,
  ⟨some 0, .mv (.t 60), none⟩]) (
  .seq (.seq (.reg [
  ⟨some 61, .mv (.t 2), none⟩,
  ⟨some 62, .mv (.t 0), none⟩,
  ⟨some 63, .mv (.t 1), none⟩,
  ⟨some 64, .mv (.t 7), none⟩,
  ⟨some 65, .bin .add (.t 63) (.t 64), none⟩,
  ⟨some 66, .slice (some 7) (.t 62) (some (.t 65)) none none, none⟩,
  ⟨some 67, .call (.c (.fn 157 [])) [.t 61, .t 66], none⟩,
  ⟨some 68, .un .not (.t 67), none⟩]) (
  .cond (.t 68) (.seq (.dreg [
   ⟨.v, 0, 0, 0, ⟨some 69, .mv (.t 0), none⟩⟩,
   ⟨.v, 0, 0, 1, ⟨some 70, .mv (.t 1), none⟩⟩,
   ⟨.v, 0, 0, 2, ⟨some 71, .mv (.t 7), none⟩⟩,
   ⟨.v, 0, 0, 3, ⟨some 72, .bin .add (.t 70) (.t 71), none⟩⟩,
   ⟨.v, 0, 0, 4, ⟨some 73, .slice (some 7) (.t 69) (some (.t 72)) none none, none⟩⟩,
   ⟨.v, 0, 0, 5, ⟨some 74, .mv (.t 0), none⟩⟩,
   ⟨.v, 0, 0, 6, ⟨some 75, .mv (.t 1), none⟩⟩,
   ⟨.v, 0, 0, 7, ⟨some 76, .slice (some 7) (.t 74) (some (.t 75)) none none, none⟩⟩,
   ⟨.e, 0, 1, 8, ⟨some 77, .copy 7 (.t 73) (.t 76), none⟩⟩]) (
   .seq (.reg [
   ⟨some 78, .mv (.t 0), none⟩,
   ⟨some 79, .mv (.t 1), none⟩,
   ⟨some 80, .slice (some 7) (.t 78) (some (.t 79)) none none, none⟩,
   ⟨some 81, .mv (.t 2), none⟩,
   ⟨some 82, .copy 7 (.t 80) (.t 81), none⟩]) (
   .seq (.reg [
   ⟨some 83, .mv (.t 0), none⟩,
   ⟨some 6, .mv (.t 83), none⟩]) (
   .ret)))) (.skip))) (
  .seq (.reg [
  ⟨some 84, .mv (.t 0), none⟩,
  ⟨some 85, .mv (.t 8), none⟩,
  ⟨some 86, .slice (some 7) (.t 84) (some (.t 85)) none none, none⟩,
  ⟨some 87, .mv (.t 2), none⟩,
  ⟨some 88, .copy 7 (.t 86) (.t 87), none⟩]) (
  .seq (.reg [
  ⟨some 89, .mv (.t 0), none⟩,
  ⟨some 90, .mv (.t 1), none⟩,
  ⟨some 91, .slice (some 7) (.t 89) (some (.t 90)) none none, none⟩,
  ⟨some 92, .mv (.t 7), none⟩,
  ⟨some 93, .call (.c (.fn 158 [])) [.t 91, .t 92], none⟩]) (
  .seq (.reg [
  ⟨some 94, .mv (.t 0), none⟩,
  ⟨some 6, .mv (.t 94), none⟩]) (
  .ret)))))))))))), true⟩

/-- slices.BinarySearchFunc[[]furlong/api.Pair,furlong/api.Pair,string] -/
def c105 : CF := ⟨3, 49, [.tmp 6, .tmp 7],
 .seq (.reg [
  ⟨some 6, .mv (.c (.int .i64 0)), none⟩,
  ⟨some 7, .mv (.c (.bool false)), none⟩]) (
  .seq (.reg [
  ⟨some 12, .mv (.t 0), none⟩,
  ⟨some 13, .len .l (.t 12), none⟩,
  ⟨some 8, .mv (.t 13), none⟩]) (
  .seq (.reg [
  ⟨some 14, .mv (.t 8), none⟩,
  ⟨some 9, .mv (.c (.int .i64 0)), none⟩,
  ⟨some 10, .mv (.t 14), none⟩]) (
  .seq (.block 0 (.loop [0, 1, 2, 8, 9, 10] (.seq (.seq (.reg [
   ⟨some 15, .mv (.t 9), none⟩,
   ⟨some 16, .mv (.t 10), none⟩,
   ⟨some 17, .bin .lss (.t 15) (.t 16), none⟩]) (
   .cond (.t 17) (.skip) (.exit 0))) (
   .block 1 (.seq (.reg [
   ⟨some 18, .mv (.t 9), none⟩,
   ⟨some 19, .mv (.t 10), none⟩,
   ⟨some 20, .bin .add (.t 18) (.t 19), none⟩,
   ⟨some 21, .toInt .u64 (.t 20), none⟩,
   ⟨some 22, .bin .shr (.t 21) (.c (.int .u64 1)), none⟩,
   ⟨some 23, .toInt .i64 (.t 22), none⟩,
   ⟨some 11, .mv (.t 23), none⟩]) (
   .seq (.reg [
   ⟨some 24, .mv (.t 2), none⟩,
   ⟨some 25, .mv (.t 0), none⟩,
   ⟨some 26, .mv (.t 11), none⟩,
   ⟨some 27, .idxA none 2 (.t 25) (.t 26), none⟩,
   ⟨some 28, .load (some 2) (.t 27), none⟩,
   ⟨some 29, .mv (.t 1), none⟩,
   ⟨some 30, .call (.t 24) [.t 28, .t 29], none⟩,
   ⟨some 31, .bin .lss (.t 30) (.c (.int .i64 0)), none⟩]) (
   .cond (.t 31) (.reg [
    ⟨some 32, .mv (.t 11), none⟩,
    ⟨some 33, .bin .add (.t 32) (.c (.int .i64 1)), none⟩,
    ⟨some 9, .mv (.t 33), none⟩]) (.reg [
    ⟨some 34, .mv (.t 11), none⟩,
    ⟨some 10, .mv (.t 34), none⟩])))))))) (
  .seq (.reg [
  ⟨some 35, .mv (.t 9), none⟩,
  ⟨some 36, .mv (.t 9), none⟩,
  ⟨some 37, .mv (.t 8), none⟩,
  ⟨some 38, .bin .lss (.t 36) (.t 37), none⟩,
  ⟨some 39, .mv (.t 38), none⟩,
  ⟨some 40, .mv (.t 2), (some (39, true))⟩,
  ⟨some 41, .mv (.t 0), (some (39, true))⟩,
  ⟨some 42, .mv (.t 9), (some (39, true))⟩,
  ⟨some 43, .idxA none 2 (.t 41) (.t 42), (some (39, true))⟩,
  ⟨some 44, .load (some 2) (.t 43), (some (39, true))⟩,
  ⟨some 45, .mv (.t 1), (some (39, true))⟩,
  ⟨some 46, .call (.t 40) [.t 44, .t 45], (some (39, true))⟩,
  ⟨some 47, .bin .eql (.t 46) (.c (.int .i64 0)), (some (39, true))⟩,
  ⟨some 48, .pick (.t 39) (.t 47) (.c (.bool false)), none⟩,
  ⟨some 6, .mv (.t 35), none⟩,
  ⟨some 7, .mv (.t 48), none⟩]) (
  .ret))))), false⟩

/-- furlong/knot.Untie -/
def c108 : CF := ⟨1, 28, [.tmp 2, .tmp 3],
 .seq (.reg [
  ⟨some 2, .mv (.c (.sl [] .nil)), none⟩,
  ⟨some 3, .mv (.c (.int .i64 0)), none⟩]) (
  .seq (.seq (.reg [
  ⟨some 5, .mv (.t 0), none⟩,
  ⟨some 6, .len .s (.t 5), none⟩,
  ⟨some 7, .bin .gtr (.t 6) (.c (.int .i64 1048576)), none⟩]) (
  .cond (.t 7) (.seq (.reg [
   ⟨some 2, .mv (.c (.sl [] .nil)), none⟩,
   ⟨some 3, .mv (.c (.int .i64 10)), none⟩]) (
   .ret)) (.skip))) (
  .seq (.block 0 (.loop [0, 2] (.seq (.seq (.reg [
   ⟨some 8, .mv (.t 0), none⟩,
   ⟨some 9, .bin .neq (.t 8) (.c (.str [])), none⟩]) (
   .cond (.t 9) (.skip) (.exit 0))) (
   .block 1 (.seq (.reg [
   ⟨some 4, .mv (.c (.str [])), none⟩]) (
   .seq (.seq (.reg [
   ⟨some 11, .mv (.t 0), none⟩,
   ⟨some 12, .call (.c (.fn 160 [])) [.t 11], none⟩,
   ⟨some 10, .mv (.t 12), none⟩,
   ⟨some 13, .ext (.t 10) 0, none⟩,
   ⟨some 14, .ext (.t 10) 1, none⟩,
   ⟨some 15, .ext (.t 10) 2, none⟩,
   ⟨some 4, .mv (.t 13), none⟩,
   ⟨some 0, .mv (.t 14), none⟩,
   ⟨some 3, .mv (.t 15), none⟩]) (
   .seq (.reg [
   ⟨some 16, .mv (.t 3), none⟩,
   ⟨some 17, .bin .neq (.t 16) (.c (.int .i64 0)), none⟩,
   ⟨some 18, .mv (.t 17), none⟩,
   ⟨some 19, .mv (.t 2), (some (18, false))⟩,
   ⟨some 20, .len .l (.t 19), (some (18, false))⟩,
   ⟨some 21, .bin .geq (.t 20) (.c (.int .i64 4096)), (some (18, false))⟩,
   ⟨some 22, .pick (.t 18) (.c (.bool true)) (.t 21), none⟩]) (
   .cond (.t 22) (.seq (.reg [
    ⟨some 2, .mv (.c (.sl [] .nil)), none⟩,
    ⟨some 3, .mv (.c (.int .i64 10)), none⟩]) (
    .ret)) (.skip)))) (
   .reg [
   ⟨some 23, .mv (.t 2), none⟩,
   ⟨some 24, .mv (.t 4), none⟩,
   ⟨some 25, .mkSl 9 1 (.str []) 1 [(0, .t 24)], none⟩,
   ⟨some 26, .app 9 1 (.t 23) (.t 25), none⟩,
   ⟨some 2, .mv (.t 26), none⟩]))))))) (
  .seq (.reg [
  ⟨some 27, .mv (.t 2), none⟩,
  ⟨some 2, .mv (.t 27), none⟩,
  ⟨some 3, .mv (.c (.int .i64 0)), none⟩]) (
  .ret)))), false⟩

/-- furlong/knot.Int -/
def c109 : CF := ⟨1, 20, [.tmp 2, .tmp 3],
 .seq (.reg [
  ⟨some 2, .mv (.c (.int .i64 0)), none⟩,
  ⟨some 3, .mv (.c (.int .i64 0)), none⟩]) (
  .seq (.reg [
  ⟨some 7, .mv (.t 0), none⟩,
  ⟨some 8, .call (.c (.fn 161 [])) [.t 7, .c (.int .i64 10), .c (.int .i64 64)], none⟩,
  ⟨some 6, .mv (.t 8), none⟩,
  ⟨some 9, .ext (.t 6) 0, none⟩,
  ⟨some 10, .ext (.t 6) 1, none⟩,
  ⟨some 4, .mv (.t 9), none⟩,
  ⟨some 5, .mv (.t 10), none⟩]) (
  .seq (.seq (.reg [
  ⟨some 11, .mv (.t 5), none⟩,
  ⟨some 12, .eqv true .i (.t 11) (.c (.nilif)), none⟩,
  ⟨some 13, .mv (.t 12), none⟩,
  ⟨some 14, .mv (.t 4), (some (13, false))⟩,
  ⟨some 15, .call (.c (.fn 140 [])) [.t 14], (some (13, false))⟩,
  ⟨some 16, .mv (.t 0), (some (13, false))⟩,
  ⟨some 17, .bin .neq (.t 15) (.t 16), (some (13, false))⟩,
  ⟨some 18, .pick (.t 13) (.c (.bool true)) (.t 17), none⟩]) (
  .cond (.t 18) (.seq (.reg [
   ⟨some 2, .mv (.c (.int .i64 0)), none⟩,
   ⟨some 3, .mv (.c (.int .i64 10)), none⟩]) (
   .ret)) (.skip))) (
  .seq (.reg [
  ⟨some 19, .mv (.t 4), none⟩,
  ⟨some 2, .mv (.t 19), none⟩,
  ⟨some 3, .mv (.c (.int .i64 0)), none⟩]) (
  .ret)))), false⟩

/-- furlong/order.Put -/
def c110 : CF := ⟨1, 41, [.tmp 2],
 .seq (.reg [
  ⟨some 1, .box 38 11 (.t 0), none⟩,
  ⟨some 2, .mv (.c (.str [])), none⟩]) (
  .seq (.reg [
  ⟨some 3, .mv (.c (.fn 140 [])), none⟩]) (
  .seq (.dreg [
  ⟨.v, 0, 0, 0, ⟨some 4, .mv (.t 3), none⟩⟩,
  ⟨.v, 0, 0, 1, ⟨some 5, .fldA 0 none (.t 1), none⟩⟩,
  ⟨.v, 0, 0, 2, ⟨some 6, .load none (.t 5), none⟩⟩,
  ⟨.e, 0, 1, 3, ⟨some 7, .call (.t 4) [.t 6], none⟩⟩,
  ⟨.v, 0, 1, 4, ⟨some 8, .mv (.t 3), none⟩⟩,
  ⟨.v, 0, 1, 5, ⟨some 9, .fldA 1 none (.t 1), none⟩⟩,
  ⟨.v, 0, 1, 6, ⟨some 10, .load none (.t 9), none⟩⟩,
  ⟨.e, 1, 2, 7, ⟨some 11, .call (.t 8) [.t 10], none⟩⟩,
  ⟨.v, 0, 2, 8, ⟨some 12, .mv (.t 3), none⟩⟩,
  ⟨.v, 0, 2, 9, ⟨some 13, .fldA 2 none (.t 1), none⟩⟩,
  ⟨.v, 0, 2, 10, ⟨some 14, .load none (.t 13), none⟩⟩,
  ⟨.e, 2, 3, 11, ⟨some 15, .call (.t 12) [.t 14], none⟩⟩,
  ⟨.v, 0, 7, 12, ⟨some 16, .fldA 3 none (.t 1), none⟩⟩,
  ⟨.v, 0, 7, 13, ⟨some 17, .load none (.t 16), none⟩⟩,
  ⟨.v, 0, 7, 14, ⟨some 18, .fldA 4 none (.t 1), none⟩⟩,
  ⟨.v, 0, 7, 15, ⟨some 19, .load none (.t 18), none⟩⟩,
  ⟨.v, 0, 7, 16, ⟨some 20, .fldA 5 none (.t 1), none⟩⟩,
  ⟨.v, 0, 7, 17, ⟨some 21, .load none (.t 20), none⟩⟩,
  ⟨.v, 0, 7, 18, ⟨some 22, .fldA 6 none (.t 1), none⟩⟩,
  ⟨.v, 0, 7, 19, ⟨some 23, .load none (.t 22), none⟩⟩,
  ⟨.v, 0, 3, 20, ⟨some 24, .fldA 7 none (.t 1), none⟩⟩,
  ⟨.v, 0, 3, 21, ⟨some 25, .load none (.t 24), none⟩⟩,
  ⟨.e, 3, 4, 22, ⟨some 26, .call (.c (.fn 162 [])) [.t 25], none⟩⟩,
  ⟨.v, 0, 4, 23, ⟨some 27, .mv (.t 3), none⟩⟩,
  ⟨.v, 0, 4, 24, ⟨some 28, .fldA 8 none (.t 1), none⟩⟩,
  ⟨.v, 0, 4, 25, ⟨some 29, .load none (.t 28), none⟩⟩,
  ⟨.e, 4, 5, 26, ⟨some 30, .call (.t 27) [.t 29], none⟩⟩,
  ⟨.v, 0, 5, 27, ⟨some 31, .mv (.t 3), none⟩⟩,
  ⟨.v, 0, 5, 28, ⟨some 32, .fldA 9 none (.t 1), none⟩⟩,
  ⟨.v, 0, 5, 29, ⟨some 33, .load none (.t 32), none⟩⟩,
  ⟨.e, 5, 6, 30, ⟨some 34, .call (.t 31) [.t 33], none⟩⟩,
  ⟨.v, 0, 6, 31, ⟨some 35, .mv (.t 3), none⟩⟩,
  ⟨.v, 0, 6, 32, ⟨some 36, .fldA 10 none (.t 1), none⟩⟩,
  ⟨.v, 0, 6, 33, ⟨some 37, .load none (.t 36), none⟩⟩,
  ⟨.e, 6, 7, 34, ⟨some 38, .call (.t 35) [.t 37], none⟩⟩,
  ⟨.e, 7, 8, 35, ⟨some 39, .mkSl 9 1 (.str []) 11 [(0, .t 7), (1, .t 11), (2, .t 15), (3, .t 17), (4, .t 19), (5, .t 21), (6, .t 23), (7, .t 26), (8, .t 30), (9, .t 34), (10, .t 38)], none⟩⟩,
  ⟨.e, 8, 9, 36, ⟨some 40, .call (.c (.fn 141 [])) [.t 39], none⟩⟩,
  ⟨.v, 9, 9, 37, ⟨some 2, .mv (.t 40), none⟩⟩]) (
  .ret))), false⟩

/-- furlong/desc.On -/
def c111 : CF := ⟨2, 11, [.cell 4 (some 2), .tmp 5],
 .seq (.reg [
  ⟨some 2, .box 26 6 (.t 0), none⟩,
  ⟨some 3, .box 3 1 (.t 1), none⟩,
  ⟨some 4, .alloc 70 2 [.agg [.int .i64 0, .int .i64 0]], none⟩,
  ⟨some 5, .mv (.c (.bool false)), none⟩]) (
  .seq (.reg [
  ⟨some 6, .load (some 6) (.t 2), none⟩,
  ⟨some 7, .mkFn 163 [.t 3], none⟩,
  ⟨some 8, .call (.c (.fn 78 [])) [.t 6, .t 7], none⟩,
  ⟨some 9, .ext (.t 8) 0, none⟩,
  ⟨some 10, .ext (.t 8) 1, none⟩,
  ⟨none, .store 2 (.t 4) (.t 9), none⟩,
  ⟨some 5, .mv (.t 10), none⟩]) (
  .ret)), false⟩

/-- furlong/desc.Check -/
def c112 : CF := ⟨1, 29, [.tmp 2],
 .seq (.reg [
  ⟨some 1, .box 26 6 (.t 0), none⟩,
  ⟨some 2, .mv (.c (.int .i64 0)), none⟩]) (
  .seq (.seq (.reg [
  ⟨some 3, .fldA 0 none (.t 1), none⟩,
  ⟨some 4, .load none (.t 3), none⟩,
  ⟨some 5, .call (.c (.fn 164 [])) [.t 4], none⟩,
  ⟨some 6, .mv (.t 5), none⟩,
  ⟨some 7, .fldA 3 none (.t 1), (some (6, true))⟩,
  ⟨some 8, .load none (.t 7), (some (6, true))⟩,
  ⟨some 9, .call (.c (.fn 164 [])) [.t 8], (some (6, true))⟩,
  ⟨some 10, .pick (.t 6) (.t 9) (.c (.bool false)), none⟩,
  ⟨some 11, .mv (.t 10), none⟩,
  ⟨some 12, .fldA 5 none (.t 1), (some (11, true))⟩,
  ⟨some 13, .load none (.t 12), (some (11, true))⟩,
  ⟨some 14, .call (.c (.fn 164 [])) [.t 13], (some (11, true))⟩,
  ⟨some 15, .pick (.t 11) (.t 14) (.c (.bool false)), none⟩,
  ⟨some 16, .mv (.t 15), none⟩,
  ⟨some 17, .fldA 1 (some 2) (.t 1), (some (16, true))⟩,
  ⟨some 18, .load (some 2) (.t 17), (some (16, true))⟩,
  ⟨some 19, .call (.c (.fn 137 [])) [.t 18], (some (16, true))⟩,
  ⟨some 20, .bin .eql (.t 19) (.c (.int .i64 0)), (some (16, true))⟩,
  ⟨some 21, .pick (.t 16) (.t 20) (.c (.bool false)), none⟩,
  ⟨some 22, .mv (.t 21), none⟩,
  ⟨some 23, .fldA 4 none (.t 1), (some (22, true))⟩,
  ⟨some 24, .load none (.t 23), (some (22, true))⟩,
  ⟨some 25, .fldA 5 none (.t 1), (some (22, true))⟩,
  ⟨some 26, .load none (.t 25), (some (22, true))⟩,
  ⟨some 27, .call (.c (.fn 165 [])) [.t 24, .t 26], (some (22, true))⟩,
  ⟨some 28, .pick (.t 22) (.t 27) (.c (.bool false)), none⟩]) (
  .cond (.t 28) (.seq (.reg [
   ⟨some 2, .mv (.c (.int .i64 0)), none⟩]) (
   .ret)) (.skip))) (
  .seq (.reg [
  ⟨some 2, .mv (.c (.int .i64 60)), none⟩]) (
  .ret))), false⟩

/-- furlong/desc.isNode -/
def c113 : CF := ⟨1, 9, [.tmp 2],
 .seq (.reg [
  ⟨some 2, .mv (.c (.bool false)), none⟩]) (
  .seq (.reg [
  ⟨some 3, .mv (.t 0), none⟩,
  ⟨some 4, .bin .geq (.t 3) (.c (.int .i64 1)), none⟩,
  ⟨some 5, .mv (.t 4), none⟩,
  ⟨some 6, .mv (.t 0), (some (5, true))⟩,
  ⟨some 7, .bin .leq (.t 6) (.c (.int .i64 7)), (some (5, true))⟩,
  ⟨some 8, .pick (.t 5) (.t 7) (.c (.bool false)), none⟩,
  ⟨some 2, .mv (.t 8), none⟩]) (
  .ret)), false⟩

/-- furlong/desc.Remove$1 -/
def c114 : CF := ⟨2, 8, [.tmp 3],
 .seq (.reg [
  ⟨some 2, .box 70 2 (.t 0), none⟩,
  ⟨some 3, .mv (.c (.bool false)), none⟩]) (
  .seq (.reg [
  ⟨some 4, .fldA 1 none (.t 2), none⟩,
  ⟨some 5, .load none (.t 4), none⟩,
  ⟨some 6, .load none (.t 1), none⟩,
  ⟨some 7, .bin .eql (.t 5) (.t 6), none⟩,
  ⟨some 3, .mv (.t 7), none⟩]) (
  .ret)), false⟩

/-- slices.Collect[int64] -/
def c127 : CF := ⟨1, 5, [.tmp 2],
 .seq (.reg [
  ⟨some 2, .mv (.c (.sl [] .nil)), none⟩]) (
  .seq (.reg [
  ⟨some 3, .mv (.t 0), none⟩,
  ⟨some 4, .call (.c (.fn 178 [])) [.c (.sl [] .nil), .t 3], none⟩,
  ⟨some 2, .mv (.t 4), none⟩]) (
  .ret)), true⟩

/-- slices.IndexFunc[[]furlong/api.Member,furlong/api.Member] -/
def c130 : CF := ⟨2, 19, [.tmp 4],
 .seq (.reg [
  ⟨some 4, .mv (.c (.int .i64 0)), none⟩]) (
  .seq (.seq (.reg [
  ⟨some 6, .mv (.t 0), none⟩,
  ⟨some 7, .len .l (.t 6), none⟩,
  ⟨some 8, .mv (.c (.int .i64 0)), none⟩]) (
  .block 0 (.loop [0, 1, 7, 8] (.seq (.reg [
   ⟨some 9, .bin .lss (.t 8) (.t 7), none⟩]) (
   .seq (.cond (.t 9) (.skip) (.exit 0)) (
   .seq (.block 1 (.seq (.reg [
   ⟨some 10, .mv (.t 8), none⟩,
   ⟨some 5, .mv (.t 10), none⟩]) (
   .seq (.reg [
   ⟨some 11, .mv (.t 1), none⟩,
   ⟨some 12, .mv (.t 0), none⟩,
   ⟨some 13, .mv (.t 5), none⟩,
   ⟨some 14, .idxA none 2 (.t 12) (.t 13), none⟩,
   ⟨some 15, .load (some 2) (.t 14), none⟩,
   ⟨some 16, .call (.t 11) [.t 15], none⟩]) (
   .cond (.t 16) (.seq (.reg [
    ⟨some 17, .mv (.t 5), none⟩,
    ⟨some 4, .mv (.t 17), none⟩]) (
    .ret)) (.skip))))) (
   .reg [
   ⟨some 18, .bin .add (.t 8) (.c (.int .i64 1)), none⟩,
   ⟨some 8, .mv (.t 18), none⟩]))))))) (
  .seq (.reg [
  ⟨some 4, .mv (.c (.int .i64 (-1))), none⟩]) (
  .ret))), false⟩

/-- slices.Index[[]int64,int64] -/
def c131 : CF := ⟨2, 19, [.tmp 4],
 .seq (.reg [
  ⟨some 4, .mv (.c (.int .i64 0)), none⟩]) (
  .seq (.seq (.reg [
  ⟨some 6, .mv (.t 0), none⟩,
  ⟨some 7, .len .l (.t 6), none⟩,
  ⟨some 8, .mv (.c (.int .i64 0)), none⟩]) (
  .block 0 (.loop [0, 1, 7, 8] (.seq (.reg [
   ⟨some 9, .bin .lss (.t 8) (.t 7), none⟩]) (
   .seq (.cond (.t 9) (.skip) (.exit 0)) (
   .seq (.block 1 (.seq (.reg [
   ⟨some 10, .mv (.t 8), none⟩,
   ⟨some 5, .mv (.t 10), none⟩]) (
   .seq (.reg [
   ⟨some 11, .mv (.t 1), none⟩,
   ⟨some 12, .mv (.t 0), none⟩,
   ⟨some 13, .mv (.t 5), none⟩,
   ⟨some 14, .idxA none 1 (.t 12) (.t 13), none⟩,
   ⟨some 15, .load none (.t 14), none⟩,
   ⟨some 16, .bin .eql (.t 11) (.t 15), none⟩]) (
   .cond (.t 16) (.seq (.reg [
    ⟨some 17, .mv (.t 5), none⟩,
    ⟨some 4, .mv (.t 17), none⟩]) (
    .ret)) (.skip))))) (
   .reg [
   ⟨some 18, .bin .add (.t 8) (.c (.int .i64 1)), none⟩,
   ⟨some 8, .mv (.t 18), none⟩]))))))) (
  .seq (.reg [
  ⟨some 4, .mv (.c (.int .i64 (-1))), none⟩]) (
  .ret))), false⟩

/-- furlong/furlongref01.Strand -/
def c132 : CF := ⟨1, 10, [.tmp 2],
 .seq (.reg [
  ⟨some 2, .mv (.c (.str [])), none⟩]) (
  .seq (.reg [
  ⟨some 3, .mv (.t 0), none⟩,
  ⟨some 4, .len .s (.t 3), none⟩,
  ⟨some 5, .call (.c (.fn 76 [])) [.t 4], none⟩,
  ⟨some 6, .bin .add (.t 5) (.c (.str [58])), none⟩,
  ⟨some 7, .mv (.t 0), none⟩,
  ⟨some 8, .bin .add (.t 6) (.t 7), none⟩,
  ⟨some 9, .bin .add (.t 8) (.c (.str [44])), none⟩,
  ⟨some 2, .mv (.t 9), none⟩]) (
  .ret)), false⟩

/-- furlong/furlongref01.digits -/
def c133 : CF := ⟨1, 16, [.tmp 2],
 .seq (.reg [
  ⟨some 2, .mv (.c (.str [])), none⟩]) (
  .seq (.seq (.reg [
  ⟨some 3, .mv (.t 0), none⟩,
  ⟨some 4, .bin .lss (.t 3) (.c (.int .u64 10)), none⟩]) (
  .cond (.t 4) (.seq (.reg [
   ⟨some 5, .mv (.t 0), none⟩,
   ⟨some 6, .mv (.t 0), none⟩,
   ⟨some 7, .bin .add (.t 6) (.c (.int .u64 1)), none⟩,
   ⟨some 8, .slice none (.c (.str [48, 49, 50, 51, 52, 53, 54, 55, 56, 57])) (some (.t 5)) (some (.t 7)) none, none⟩,
   ⟨some 2, .mv (.t 8), none⟩]) (
   .ret)) (.skip))) (
  .seq (.reg [
  ⟨some 9, .mv (.t 0), none⟩,
  ⟨some 10, .bin .quo (.t 9) (.c (.int .u64 10)), none⟩,
  ⟨some 11, .call (.c (.fn 133 [])) [.t 10], none⟩,
  ⟨some 12, .mv (.t 0), none⟩,
  ⟨some 13, .bin .rem (.t 12) (.c (.int .u64 10)), none⟩,
  ⟨some 14, .call (.c (.fn 133 [])) [.t 13], none⟩,
  ⟨some 15, .bin .add (.t 11) (.t 14), none⟩,
  ⟨some 2, .mv (.t 15), none⟩]) (
  .ret))), false⟩

/-- furlong/order.isKey -/
def c135 : CF := ⟨1, 6, [.tmp 2],
 .seq (.reg [
  ⟨some 2, .mv (.c (.bool false)), none⟩]) (
  .seq (.reg [
  ⟨some 3, .mv (.t 0), none⟩,
  ⟨some 4, .call (.c (.fn 151 [])) [.t 3], none⟩,
  ⟨some 5, .bin .eql (.t 4) (.c (.int .i64 0)), none⟩,
  ⟨some 2, .mv (.t 5), none⟩]) (
  .ret)), false⟩

/-- furlong/bound.Check -/
def c137 : CF := ⟨1, 23, [.tmp 2],
 .seq (.reg [
  ⟨some 1, .box 23 2 (.t 0), none⟩,
  ⟨some 2, .mv (.c (.int .i64 0)), none⟩]) (
  .seq (.seq (.reg [
  ⟨some 3, .fldA 0 none (.t 1), none⟩,
  ⟨some 4, .load none (.t 3), none⟩,
  ⟨some 5, .len .s (.t 4), none⟩,
  ⟨some 6, .fldA 1 none (.t 1), none⟩,
  ⟨some 7, .load none (.t 6), none⟩,
  ⟨some 8, .len .s (.t 7), none⟩,
  ⟨some 9, .mnx true [.t 5, .t 8], none⟩,
  ⟨some 10, .bin .gtr (.t 9) (.c (.int .i64 33)), none⟩,
  ⟨some 11, .mv (.t 10), none⟩,
  ⟨some 12, .fldA 1 none (.t 1), (some (11, false))⟩,
  ⟨some 13, .load none (.t 12), (some (11, false))⟩,
  ⟨some 14, .bin .neq (.t 13) (.c (.str [])), (some (11, false))⟩,
  ⟨some 15, .mv (.t 14), (some (11, false))⟩,
  ⟨some 16, .fldA 1 none (.t 1), (some (15, true))⟩,
  ⟨some 17, .load none (.t 16), (some (15, true))⟩,
  ⟨some 18, .fldA 0 none (.t 1), (some (15, true))⟩,
  ⟨some 19, .load none (.t 18), (some (15, true))⟩,
  ⟨some 20, .bin .leq (.t 17) (.t 19), (some (15, true))⟩,
  ⟨some 21, .pick (.t 15) (.t 20) (.c (.bool false)), (some (11, false))⟩,
  ⟨some 22, .pick (.t 11) (.c (.bool true)) (.t 21), none⟩]) (
  .cond (.t 22) (.seq (.reg [
   ⟨some 2, .mv (.c (.int .i64 20)), none⟩]) (
   .ret)) (.skip))) (
  .seq (.reg [
  ⟨some 2, .mv (.c (.int .i64 0)), none⟩]) (
  .ret))), false⟩

/-- furlong/knot.Num -/
def c140 : CF := ⟨1, 5, [.tmp 2],
 .seq (.reg [
  ⟨some 2, .mv (.c (.str [])), none⟩]) (
  .seq (.reg [
  ⟨some 3, .mv (.t 0), none⟩,
  ⟨some 4, .call (.c (.fn 183 [])) [.t 3, .c (.int .i64 10)], none⟩,
  ⟨some 2, .mv (.t 4), none⟩]) (
  .ret)), false⟩

/-- furlong/knot.Tie -/
def c141 : CF := ⟨1, 22, [.tmp 2],
 .seq (.reg [
  ⟨some 2, .mv (.c (.str [])), none⟩]) (
  .seq (.reg [
  ⟨some 3, .alloc 216 2 [.agg [.nilp, .sl [] .nil]], none⟩]) (
  .seq (.seq (.reg [
  ⟨some 6, .mv (.t 0), none⟩,
  ⟨some 7, .len .l (.t 6), none⟩,
  ⟨some 8, .mv (.c (.int .i64 0)), none⟩]) (
  .block 0 (.loop [3, 6, 7, 8] (.seq (.reg [
   ⟨some 9, .bin .lss (.t 8) (.t 7), none⟩]) (
   .seq (.cond (.t 9) (.skip) (.exit 0)) (
   .seq (.block 1 (.seq (.reg [
   ⟨some 10, .idxA none 1 (.t 6) (.t 8), none⟩,
   ⟨some 11, .load none (.t 10), none⟩,
   ⟨some 5, .mv (.t 11), none⟩]) (
   .seq (.reg [
   ⟨some 12, .mv (.t 5), none⟩,
   ⟨some 13, .len .s (.t 12), none⟩,
   ⟨some 14, .call (.c (.fn 140 [])) [.t 13], none⟩,
   ⟨some 15, .call (.c (.fn 184 [])) [.t 3, .t 14], none⟩]) (
   .seq (.reg [
   ⟨some 16, .call (.c (.fn 185 [])) [.t 3, .c (.int .u8 58)], none⟩]) (
   .seq (.reg [
   ⟨some 17, .mv (.t 5), none⟩,
   ⟨some 18, .call (.c (.fn 184 [])) [.t 3, .t 17], none⟩]) (
   .reg [
   ⟨some 19, .call (.c (.fn 185 [])) [.t 3, .c (.int .u8 44)], none⟩])))))) (
   .reg [
   ⟨some 20, .bin .add (.t 8) (.c (.int .i64 1)), none⟩,
   ⟨some 8, .mv (.t 20), none⟩]))))))) (
  .seq (.reg [
  ⟨some 21, .call (.c (.fn 186 [])) [.t 3], none⟩,
  ⟨some 2, .mv (.t 21), none⟩]) (
  .ret)))), false⟩

/-- furlong/bound.Key -/
def c151 : CF := ⟨1, 10, [.tmp 2],
 .seq (.reg [
  ⟨some 2, .mv (.c (.int .i64 0)), none⟩]) (
  .seq (.seq (.reg [
  ⟨some 3, .mv (.t 0), none⟩,
  ⟨some 4, .bin .eql (.t 3) (.c (.str [])), none⟩,
  ⟨some 5, .mv (.t 4), none⟩,
  ⟨some 6, .mv (.t 0), (some (5, false))⟩,
  ⟨some 7, .len .s (.t 6), (some (5, false))⟩,
  ⟨some 8, .bin .gtr (.t 7) (.c (.int .i64 32)), (some (5, false))⟩,
  ⟨some 9, .pick (.t 5) (.c (.bool true)) (.t 8), none⟩]) (
  .cond (.t 9) (.seq (.reg [
   ⟨some 2, .mv (.c (.int .i64 20)), none⟩]) (
   .ret)) (.skip))) (
  .seq (.reg [
  ⟨some 2, .mv (.c (.int .i64 0)), none⟩]) (
  .ret))), false⟩

/-- furlong/session.isSeq -/
def c152 : CF := ⟨1, 9, [.tmp 2],
 .seq (.reg [
  ⟨some 2, .mv (.c (.bool false)), none⟩]) (
  .seq (.reg [
  ⟨some 3, .mv (.t 0), none⟩,
  ⟨some 4, .bin .geq (.t 3) (.c (.int .i64 1)), none⟩,
  ⟨some 5, .mv (.t 4), none⟩,
  ⟨some 6, .mv (.t 0), (some (5, true))⟩,
  ⟨some 7, .bin .leq (.t 6) (.c (.int .i64 1099511627776)), (some (5, true))⟩,
  ⟨some 8, .pick (.t 5) (.t 7) (.c (.bool false)), none⟩,
  ⟨some 2, .mv (.t 8), none⟩]) (
  .ret)), false⟩

/-- furlong/order.CheckReply -/
def c153 : CF := ⟨1, 47, [.tmp 2],
 .seq (.reg [
  ⟨some 1, .box 42 5 (.t 0), none⟩,
  ⟨some 2, .mv (.c (.int .i64 0)), none⟩]) (
  .seq (.reg [
  ⟨some 3, .mv (.c (.int .i64 0)), none⟩,
  ⟨some 4, .mv (.c (.int .i64 0)), none⟩]) (
  .seq (.seq (.reg [
  ⟨some 6, .fldA 0 none (.t 1), none⟩,
  ⟨some 7, .load none (.t 6), none⟩,
  ⟨some 8, .bin .eql (.t 7) (.c (.int .i64 4)), none⟩]) (
  .cond (.t 8) (.reg [
   ⟨some 3, .mv (.c (.int .i64 1)), none⟩,
   ⟨some 4, .mv (.c (.int .i64 999)), none⟩]) (.skip))) (
  .seq (.reg [
  ⟨some 9, .fldA 0 none (.t 1), none⟩,
  ⟨some 10, .load none (.t 9), none⟩,
  ⟨some 11, .bin .lss (.t 10) (.c (.int .i64 0)), none⟩,
  ⟨some 12, .mv (.t 11), none⟩,
  ⟨some 13, .fldA 0 none (.t 1), (some (12, false))⟩,
  ⟨some 14, .load none (.t 13), (some (12, false))⟩,
  ⟨some 15, .bin .gtr (.t 14) (.c (.int .i64 4)), (some (12, false))⟩,
  ⟨some 16, .pick (.t 12) (.c (.bool true)) (.t 15), none⟩,
  ⟨some 17, .mv (.t 16), none⟩,
  ⟨some 18, .fldA 1 none (.t 1), (some (17, false))⟩,
  ⟨some 19, .load none (.t 18), (some (17, false))⟩,
  ⟨some 20, .mv (.t 3), (some (17, false))⟩,
  ⟨some 21, .bin .lss (.t 19) (.t 20), (some (17, false))⟩,
  ⟨some 22, .pick (.t 17) (.c (.bool true)) (.t 21), none⟩,
  ⟨some 23, .mv (.t 22), none⟩,
  ⟨some 24, .fldA 1 none (.t 1), (some (23, false))⟩,
  ⟨some 25, .load none (.t 24), (some (23, false))⟩,
  ⟨some 26, .mv (.t 4), (some (23, false))⟩,
  ⟨some 27, .bin .gtr (.t 25) (.t 26), (some (23, false))⟩,
  ⟨some 28, .pick (.t 23) (.c (.bool true)) (.t 27), none⟩,
  ⟨some 29, .mv (.t 28), none⟩,
  ⟨some 30, .fldA 3 none (.t 1), (some (29, false))⟩,
  ⟨some 31, .load none (.t 30), (some (29, false))⟩,
  ⟨some 32, .len .s (.t 31), (some (29, false))⟩,
  ⟨some 33, .bin .gtr (.t 32) (.c (.int .i64 65536)), (some (29, false))⟩,
  ⟨some 34, .pick (.t 29) (.c (.bool true)) (.t 33), none⟩,
  ⟨some 35, .mv (.t 34), none⟩,
  ⟨some 36, .fldA 4 none (.t 1), (some (35, false))⟩,
  ⟨some 37, .load none (.t 36), (some (35, false))⟩,
  ⟨some 38, .len .l (.t 37), (some (35, false))⟩,
  ⟨some 39, .bin .gtr (.t 38) (.c (.int .i64 100)), (some (35, false))⟩,
  ⟨some 40, .pick (.t 35) (.c (.bool true)) (.t 39), none⟩,
  ⟨some 5, .mv (.t 40), none⟩]) (
  .seq (.seq (.reg [
  ⟨some 41, .mv (.t 5), none⟩,
  ⟨some 42, .mv (.t 41), none⟩,
  ⟨some 43, .fldA 4 none (.t 1), (some (42, false))⟩,
  ⟨some 44, .load none (.t 43), (some (42, false))⟩,
  ⟨some 45, .call (.c (.fn 203 [])) [.t 44, .c (.fn 204 [])], (some (42, false))⟩,
  ⟨some 46, .pick (.t 42) (.c (.bool true)) (.t 45), none⟩]) (
  .cond (.t 46) (.seq (.reg [
   ⟨some 2, .mv (.c (.int .i64 70)), none⟩]) (
   .ret)) (.skip))) (
  .seq (.reg [
  ⟨some 2, .mv (.c (.int .i64 0)), none⟩]) (
  .ret)))))), false⟩

/-- slices.BinarySearchFunc[[]furlong/api.Session,furlong/api.Session,int64] -/
def c154 : CF := ⟨3, 49, [.tmp 6, .tmp 7],
 .seq (.reg [
  ⟨some 6, .mv (.c (.int .i64 0)), none⟩,
  ⟨some 7, .mv (.c (.bool false)), none⟩]) (
  .seq (.reg [
  ⟨some 12, .mv (.t 0), none⟩,
  ⟨some 13, .len .l (.t 12), none⟩,
  ⟨some 8, .mv (.t 13), none⟩]) (
  .seq (.reg [
  ⟨some 14, .mv (.t 8), none⟩,
  ⟨some 9, .mv (.c (.int .i64 0)), none⟩,
  ⟨some 10, .mv (.t 14), none⟩]) (
  .seq (.block 0 (.loop [0, 1, 2, 8, 9, 10] (.seq (.seq (.reg [
   ⟨some 15, .mv (.t 9), none⟩,
   ⟨some 16, .mv (.t 10), none⟩,
   ⟨some 17, .bin .lss (.t 15) (.t 16), none⟩]) (
   .cond (.t 17) (.skip) (.exit 0))) (
   .block 1 (.seq (.reg [
   ⟨some 18, .mv (.t 9), none⟩,
   ⟨some 19, .mv (.t 10), none⟩,
   ⟨some 20, .bin .add (.t 18) (.t 19), none⟩,
   ⟨some 21, .toInt .u64 (.t 20), none⟩,
   ⟨some 22, .bin .shr (.t 21) (.c (.int .u64 1)), none⟩,
   ⟨some 23, .toInt .i64 (.t 22), none⟩,
   ⟨some 11, .mv (.t 23), none⟩]) (
   .seq (.reg [
   ⟨some 24, .mv (.t 2), none⟩,
   ⟨some 25, .mv (.t 0), none⟩,
   ⟨some 26, .mv (.t 11), none⟩,
   ⟨some 27, .idxA none 7 (.t 25) (.t 26), none⟩,
   ⟨some 28, .load (some 7) (.t 27), none⟩,
   ⟨some 29, .mv (.t 1), none⟩,
   ⟨some 30, .call (.t 24) [.t 28, .t 29], none⟩,
   ⟨some 31, .bin .lss (.t 30) (.c (.int .i64 0)), none⟩]) (
   .cond (.t 31) (.reg [
    ⟨some 32, .mv (.t 11), none⟩,
    ⟨some 33, .bin .add (.t 32) (.c (.int .i64 1)), none⟩,
    ⟨some 9, .mv (.t 33), none⟩]) (.reg [
    ⟨some 34, .mv (.t 11), none⟩,
    ⟨some 10, .mv (.t 34), none⟩])))))))) (
  .seq (.reg [
  ⟨some 35, .mv (.t 9), none⟩,
  ⟨some 36, .mv (.t 9), none⟩,
  ⟨some 37, .mv (.t 8), none⟩,
  ⟨some 38, .bin .lss (.t 36) (.t 37), none⟩,
  ⟨some 39, .mv (.t 38), none⟩,
  ⟨some 40, .mv (.t 2), (some (39, true))⟩,
  ⟨some 41, .mv (.t 0), (some (39, true))⟩,
  ⟨some 42, .mv (.t 9), (some (39, true))⟩,
  ⟨some 43, .idxA none 7 (.t 41) (.t 42), (some (39, true))⟩,
  ⟨some 44, .load (some 7) (.t 43), (some (39, true))⟩,
  ⟨some 45, .mv (.t 1), (some (39, true))⟩,
  ⟨some 46, .call (.t 40) [.t 44, .t 45], (some (39, true))⟩,
  ⟨some 47, .bin .eql (.t 46) (.c (.int .i64 0)), (some (39, true))⟩,
  ⟨some 48, .pick (.t 39) (.t 47) (.c (.bool false)), none⟩,
  ⟨some 6, .mv (.t 35), none⟩,
  ⟨some 7, .mv (.t 48), none⟩]) (
  .ret))))), false⟩

/-- furlong/knot.First -/
def c160 : CF := ⟨1, 59, [.tmp 2, .tmp 3, .tmp 4],
 .seq (.reg [
  ⟨some 2, .mv (.c (.str [])), none⟩,
  ⟨some 3, .mv (.c (.str [])), none⟩,
  ⟨some 4, .mv (.c (.int .i64 0)), none⟩]) (
  .seq (.reg [
  ⟨some 11, .mv (.t 0), none⟩,
  ⟨some 12, .mv (.t 0), none⟩,
  ⟨some 13, .len .s (.t 12), none⟩,
  ⟨some 14, .mnx false [.t 13, .c (.int .i64 1048576)], none⟩,
  ⟨some 15, .slice none (.t 11) none (some (.t 14)) none, none⟩,
  ⟨some 16, .call (.c (.fn 208 [])) [.t 15, .c (.str [58])], none⟩,
  ⟨some 10, .mv (.t 16), none⟩,
  ⟨some 17, .ext (.t 10) 0, none⟩,
  ⟨some 18, .ext (.t 10) 1, none⟩,
  ⟨some 19, .ext (.t 10) 2, none⟩,
  ⟨some 5, .mv (.t 17), none⟩,
  ⟨some 6, .mv (.t 18), none⟩,
  ⟨some 7, .mv (.t 19), none⟩]) (
  .seq (.reg [
  ⟨some 21, .mv (.t 5), none⟩,
  ⟨some 22, .call (.c (.fn 109 [])) [.t 21], none⟩,
  ⟨some 20, .mv (.t 22), none⟩,
  ⟨some 23, .ext (.t 20) 0, none⟩,
  ⟨some 24, .ext (.t 20) 1, none⟩,
  ⟨some 8, .mv (.t 23), none⟩,
  ⟨some 9, .mv (.t 24), none⟩]) (
  .seq (.seq (.reg [
  ⟨some 25, .mv (.t 7), none⟩,
  ⟨some 26, .un .not (.t 25), none⟩,
  ⟨some 27, .mv (.t 26), none⟩,
  ⟨some 28, .mv (.t 9), (some (27, false))⟩,
  ⟨some 29, .bin .neq (.t 28) (.c (.int .i64 0)), (some (27, false))⟩,
  ⟨some 30, .pick (.t 27) (.c (.bool true)) (.t 29), none⟩,
  ⟨some 31, .mv (.t 30), none⟩,
  ⟨some 32, .mv (.t 8), (some (31, false))⟩,
  ⟨some 33, .bin .lss (.t 32) (.c (.int .i64 0)), (some (31, false))⟩,
  ⟨some 34, .pick (.t 31) (.c (.bool true)) (.t 33), none⟩,
  ⟨some 35, .mv (.t 34), none⟩,
  ⟨some 36, .mv (.t 8), (some (35, false))⟩,
  ⟨some 37, .mv (.t 6), (some (35, false))⟩,
  ⟨some 38, .len .s (.t 37), (some (35, false))⟩,
  ⟨some 39, .bin .geq (.t 36) (.t 38), (some (35, false))⟩,
  ⟨some 40, .pick (.t 35) (.c (.bool true)) (.t 39), none⟩,
  ⟨some 41, .mv (.t 40), none⟩,
  ⟨some 42, .mv (.t 6), (some (41, false))⟩,
  ⟨some 43, .mv (.t 8), (some (41, false))⟩,
  ⟨some 44, .idx none 1 none (.t 42) (.t 43), (some (41, false))⟩,
  ⟨some 45, .bin .neq (.t 44) (.c (.int .u8 44)), (some (41, false))⟩,
  ⟨some 46, .pick (.t 41) (.c (.bool true)) (.t 45), none⟩]) (
  .cond (.t 46) (.seq (.reg [
   ⟨some 47, .mv (.t 0), none⟩,
   ⟨some 2, .mv (.c (.str [])), none⟩,
   ⟨some 3, .mv (.t 47), none⟩,
   ⟨some 4, .mv (.c (.int .i64 10)), none⟩]) (
   .ret)) (.skip))) (
  .seq (.dreg [
  ⟨.v, 0, 0, 0, ⟨some 48, .mv (.t 6), none⟩⟩,
  ⟨.v, 0, 0, 1, ⟨some 49, .mv (.t 8), none⟩⟩,
  ⟨.v, 0, 0, 2, ⟨some 50, .slice none (.t 48) none (some (.t 49)) none, none⟩⟩,
  ⟨.v, 0, 0, 3, ⟨some 51, .mv (.t 0), none⟩⟩,
  ⟨.v, 0, 0, 4, ⟨some 52, .mv (.t 5), none⟩⟩,
  ⟨.v, 0, 0, 5, ⟨some 53, .len .s (.t 52), none⟩⟩,
  ⟨.v, 0, 0, 6, ⟨some 54, .bin .add (.t 53) (.c (.int .i64 1)), none⟩⟩,
  ⟨.v, 0, 0, 7, ⟨some 55, .mv (.t 8), none⟩⟩,
  ⟨.v, 0, 0, 8, ⟨some 56, .bin .add (.t 54) (.t 55), none⟩⟩,
  ⟨.v, 0, 0, 9, ⟨some 57, .bin .add (.t 56) (.c (.int .i64 1)), none⟩⟩,
  ⟨.v, 0, 0, 10, ⟨some 58, .slice none (.t 51) (some (.t 57)) none none, none⟩⟩,
  ⟨.v, 0, 0, 11, ⟨some 2, .mv (.t 50), none⟩⟩,
  ⟨.v, 0, 0, 12, ⟨some 3, .mv (.t 58), none⟩⟩,
  ⟨.v, 0, 0, 13, ⟨some 4, .mv (.c (.int .i64 0)), none⟩⟩]) (
  .ret))))), false⟩

/-- furlong/order.truth -/
def c162 : CF := ⟨1, 4, [.tmp 2],
 .seq (.reg [
  ⟨some 2, .mv (.c (.str [])), none⟩]) (
  .seq (.seq (.reg [
  ⟨some 3, .mv (.t 0), none⟩]) (
  .cond (.t 3) (.seq (.reg [
   ⟨some 2, .mv (.c (.str [49])), none⟩]) (
   .ret)) (.skip))) (
  .seq (.reg [
  ⟨some 2, .mv (.c (.str [48])), none⟩]) (
  .ret))), false⟩

/-- furlong/desc.On$1 -/
def c163 : CF := ⟨2, 8, [.tmp 3],
 .seq (.reg [
  ⟨some 2, .box 70 2 (.t 0), none⟩,
  ⟨some 3, .mv (.c (.bool false)), none⟩]) (
  .seq (.reg [
  ⟨some 4, .fldA 0 none (.t 2), none⟩,
  ⟨some 5, .load none (.t 4), none⟩,
  ⟨some 6, .load none (.t 1), none⟩,
  ⟨some 7, .bin .eql (.t 5) (.t 6), none⟩,
  ⟨some 3, .mv (.t 7), none⟩]) (
  .ret)), false⟩

/-- furlong/desc.isId -/
def c164 : CF := ⟨1, 9, [.tmp 2],
 .seq (.reg [
  ⟨some 2, .mv (.c (.bool false)), none⟩]) (
  .seq (.reg [
  ⟨some 3, .mv (.t 0), none⟩,
  ⟨some 4, .bin .geq (.t 3) (.c (.int .i64 1)), none⟩,
  ⟨some 5, .mv (.t 4), none⟩,
  ⟨some 6, .mv (.t 0), (some (5, true))⟩,
  ⟨some 7, .bin .leq (.t 6) (.c (.int .i64 1099511627776)), (some (5, true))⟩,
  ⟨some 8, .pick (.t 5) (.t 7) (.c (.bool false)), none⟩,
  ⟨some 2, .mv (.t 8), none⟩]) (
  .ret)), false⟩

/-- furlong/desc.isMembers -/
def c165 : CF := ⟨2, 51, [.tmp 4],
 .seq (.reg [
  ⟨some 4, .mv (.c (.bool false)), none⟩]) (
  .seq (.seq (.reg [
  ⟨some 9, .mv (.t 0), none⟩,
  ⟨some 10, .len .l (.t 9), none⟩,
  ⟨some 11, .bin .eql (.t 10) (.c (.int .i64 0)), none⟩,
  ⟨some 12, .mv (.t 11), none⟩,
  ⟨some 13, .mv (.t 0), (some (12, false))⟩,
  ⟨some 14, .len .l (.t 13), (some (12, false))⟩,
  ⟨some 15, .bin .gtr (.t 14) (.c (.int .i64 5)), (some (12, false))⟩,
  ⟨some 16, .pick (.t 12) (.c (.bool true)) (.t 15), none⟩]) (
  .cond (.t 16) (.seq (.reg [
   ⟨some 4, .mv (.c (.bool false)), none⟩]) (
   .ret)) (.skip))) (
  .seq (.reg [
  ⟨some 5, .alloc 247 1 (List.replicate 8 (.bool false)), none⟩]) (
  .seq (.reg [
  ⟨some 6, .mv (.c (.int .i64 0)), none⟩]) (
  .seq (.seq (.reg [
  ⟨some 17, .mv (.t 0), none⟩,
  ⟨some 18, .len .l (.t 17), none⟩,
  ⟨some 19, .mv (.c (.int .i64 0)), none⟩]) (
  .block 0 (.loop [1, 5, 6, 17, 18, 19] (.seq (.reg [
   ⟨some 20, .bin .lss (.t 19) (.t 18), none⟩]) (
   .seq (.cond (.t 20) (.skip) (.exit 0)) (
   .seq (.block 1 (.seq (.reg [
   ⟨some 21, .idxA none 2 (.t 17) (.t 19), none⟩,
   ⟨some 22, .load (some 2) (.t 21), none⟩,
   ⟨some 8, .alloc 70 2 [.agg [.int .i64 0, .int .i64 0]], none⟩,
   ⟨none, .store 2 (.t 8) (.t 22), none⟩]) (
   .seq (.seq (.reg [
   ⟨some 23, .fldA 0 none (.t 8), none⟩,
   ⟨some 24, .load none (.t 23), none⟩,
   ⟨some 25, .call (.c (.fn 113 [])) [.t 24], none⟩,
   ⟨some 26, .un .not (.t 25), none⟩,
   ⟨some 27, .mv (.t 26), none⟩,
   ⟨some 28, .fldA 0 none (.t 8), (some (27, false))⟩,
   ⟨some 29, .load none (.t 28), (some (27, false))⟩,
   ⟨some 30, .idxA (some 8) 1 (.t 5) (.t 29), (some (27, false))⟩,
   ⟨some 31, .load none (.t 30), (some (27, false))⟩,
   ⟨some 32, .pick (.t 27) (.c (.bool true)) (.t 31), none⟩,
   ⟨some 33, .mv (.t 32), none⟩,
   ⟨some 34, .fldA 1 none (.t 8), (some (33, false))⟩,
   ⟨some 35, .load none (.t 34), (some (33, false))⟩,
   ⟨some 36, .mv (.t 6), (some (33, false))⟩,
   ⟨some 37, .bin .leq (.t 35) (.t 36), (some (33, false))⟩,
   ⟨some 38, .pick (.t 33) (.c (.bool true)) (.t 37), none⟩,
   ⟨some 39, .mv (.t 38), none⟩,
   ⟨some 40, .fldA 1 none (.t 8), (some (39, false))⟩,
   ⟨some 41, .load none (.t 40), (some (39, false))⟩,
   ⟨some 42, .mv (.t 1), (some (39, false))⟩,
   ⟨some 43, .bin .geq (.t 41) (.t 42), (some (39, false))⟩,
   ⟨some 44, .pick (.t 39) (.c (.bool true)) (.t 43), none⟩]) (
   .cond (.t 44) (.seq (.reg [
    ⟨some 4, .mv (.c (.bool false)), none⟩]) (
    .ret)) (.skip))) (
   .dreg [
   ⟨.v, 0, 0, 0, ⟨some 45, .fldA 0 none (.t 8), none⟩⟩,
   ⟨.v, 0, 0, 1, ⟨some 46, .load none (.t 45), none⟩⟩,
   ⟨.v, 0, 1, 2, ⟨some 47, .fldA 1 none (.t 8), none⟩⟩,
   ⟨.v, 0, 1, 3, ⟨some 48, .load none (.t 47), none⟩⟩,
   ⟨.v, 0, 0, 4, ⟨some 49, .idxA (some 8) 1 (.t 5) (.t 46), none⟩⟩,
   ⟨.e, 0, 1, 5, ⟨none, .store 1 (.t 49) (.c (.bool true)), none⟩⟩,
   ⟨.v, 1, 1, 6, ⟨some 6, .mv (.t 48), none⟩⟩])))) (
   .reg [
   ⟨some 50, .bin .add (.t 19) (.c (.int .i64 1)), none⟩,
   ⟨some 19, .mv (.t 50), none⟩]))))))) (
  .seq (.reg [
  ⟨some 4, .mv (.c (.bool true)), none⟩]) (
  .ret)))))), false⟩

/-- slices.AppendSeq[[]int64,int64] -/
def c178 : CF := ⟨2, 13, [.tmp 4],
 .seq (.reg [
  ⟨some 2, .box 29 1 (.t 0), none⟩,
  ⟨some 4, .mv (.c (.sl [] .nil)), none⟩]) (
  .seq (.seq (.reg [
  ⟨some 6, .mv (.t 1), none⟩]) (
  .block 0 (.rfun [2, 6] (.t 6) [7] (.reg [
   ⟨some 5, .mv (.t 7), none⟩]) (.block 1 (.reg [
   ⟨some 8, .load none (.t 2), none⟩,
   ⟨some 9, .mv (.t 5), none⟩,
   ⟨some 10, .mkSl 2 1 (.int .i64 0) 1 [(0, .t 9)], none⟩,
   ⟨some 11, .app 2 1 (.t 8) (.t 10), none⟩,
   ⟨none, .store 1 (.t 2) (.t 11), none⟩]))))) (
  .seq (.reg [
  ⟨some 12, .load none (.t 2), none⟩,
  ⟨some 4, .mv (.t 12), none⟩]) (
  .ret))), true⟩

/-- (*strings.Builder).WriteString -/
def c184 : CF := ⟨2, 19, [.tmp 4, .tmp 5],
 .seq (.reg [
  ⟨some 4, .mv (.c (.int .i64 0)), none⟩,
  ⟨some 5, .mv (.c (.nilif)), none⟩]) (
  .seq (.reg [
  ⟨some 6, .mv (.t 0), none⟩,
  ⟨some 7, .call (.c (.fn 230 [])) [.t 6], none⟩]) (
  .seq (.reg [
  ⟨some 8, .mv (.t 0), none⟩,
  ⟨some 9, .mv (.t 0), none⟩,
  ⟨some 10, .nilchk (.t 9), none⟩,
  ⟨some 11, .fldA 1 none (.t 10), none⟩,
  ⟨some 12, .load none (.t 11), none⟩,
  ⟨some 13, .mv (.t 1), none⟩,
  ⟨some 14, .app 5 1 (.t 12) (.t 13), none⟩,
  ⟨some 15, .nilchk (.t 8), none⟩,
  ⟨some 16, .fldA 1 none (.t 15), none⟩,
  ⟨none, .store 1 (.t 16) (.t 14), none⟩]) (
  .seq (.reg [
  ⟨some 17, .mv (.t 1), none⟩,
  ⟨some 18, .len .s (.t 17), none⟩,
  ⟨some 4, .mv (.t 18), none⟩,
  ⟨some 5, .mv (.c (.nilif)), none⟩]) (
  .ret)))), false⟩

/-- (*strings.Builder).WriteByte -/
def c185 : CF := ⟨2, 17, [.tmp 4],
 .seq (.reg [
  ⟨some 4, .mv (.c (.nilif)), none⟩]) (
  .seq (.reg [
  ⟨some 5, .mv (.t 0), none⟩,
  ⟨some 6, .call (.c (.fn 230 [])) [.t 5], none⟩]) (
  .seq (.reg [
  ⟨some 7, .mv (.t 0), none⟩,
  ⟨some 8, .mv (.t 0), none⟩,
  ⟨some 9, .nilchk (.t 8), none⟩,
  ⟨some 10, .fldA 1 none (.t 9), none⟩,
  ⟨some 11, .load none (.t 10), none⟩,
  ⟨some 12, .mv (.t 1), none⟩,
  ⟨some 13, .mkSl 5 1 (.int .u8 0) 1 [(0, .t 12)], none⟩,
  ⟨some 14, .app 5 1 (.t 11) (.t 13), none⟩,
  ⟨some 15, .nilchk (.t 7), none⟩,
  ⟨some 16, .fldA 1 none (.t 15), none⟩,
  ⟨none, .store 1 (.t 16) (.t 14), none⟩]) (
  .seq (.reg [
  ⟨some 4, .mv (.c (.nilif)), none⟩]) (
  .ret)))), false⟩

/-- (*strings.Builder).String -/
def c186 : CF := ⟨1, 14, [.tmp 2],
 .seq (.reg [
  ⟨some 2, .mv (.c (.str [])), none⟩]) (
  .seq (.dreg [
  ⟨.v, 0, 0, 0, ⟨some 3, .mv (.t 0), none⟩⟩,
  ⟨.v, 0, 0, 1, ⟨some 4, .nilchk (.t 3), none⟩⟩,
  ⟨.v, 0, 0, 2, ⟨some 5, .fldA 1 none (.t 4), none⟩⟩,
  ⟨.v, 0, 0, 3, ⟨some 6, .load none (.t 5), none⟩⟩,
  ⟨.v, 0, 0, 4, ⟨some 7, .unsafeData (.t 6), none⟩⟩,
  ⟨.v, 0, 0, 5, ⟨some 8, .mv (.t 0), none⟩⟩,
  ⟨.v, 0, 0, 6, ⟨some 9, .nilchk (.t 8), none⟩⟩,
  ⟨.v, 0, 0, 7, ⟨some 10, .fldA 1 none (.t 9), none⟩⟩,
  ⟨.v, 0, 0, 8, ⟨some 11, .load none (.t 10), none⟩⟩,
  ⟨.v, 0, 0, 9, ⟨some 12, .len .l (.t 11), none⟩⟩,
  ⟨.e, 0, 1, 10, ⟨some 13, .unsafeStr 5 (.t 7) (.t 12), none⟩⟩,
  ⟨.v, 1, 1, 11, ⟨some 2, .mv (.t 13), none⟩⟩]) (
  .ret)), false⟩

/-- slices.ContainsFunc[[]furlong/api.Pair,furlong/api.Pair] -/
def c203 : CF := ⟨2, 9, [.tmp 4],
 .seq (.reg [
  ⟨some 4, .mv (.c (.bool false)), none⟩]) (
  .seq (.reg [
  ⟨some 5, .mv (.t 0), none⟩,
  ⟨some 6, .mv (.t 1), none⟩,
  ⟨some 7, .call (.c (.fn 250 [])) [.t 5, .t 6], none⟩,
  ⟨some 8, .bin .geq (.t 7) (.c (.int .i64 0)), none⟩,
  ⟨some 4, .mv (.t 8), none⟩]) (
  .ret)), false⟩

/-- strings.Cut -/
def c208 : CF := ⟨2, 13, [.tmp 4, .tmp 5, .tmp 6],
 .seq (.reg [
  ⟨some 4, .mv (.c (.str [])), none⟩,
  ⟨some 5, .mv (.c (.str [])), none⟩,
  ⟨some 6, .mv (.c (.bool false)), none⟩]) (
  .seq (.reg [
  ⟨some 7, .mv (.t 0), none⟩,
  ⟨some 8, .mv (.t 1), none⟩,
  ⟨some 9, .call (.c (.fn 252 [])) [.t 7, .t 8], none⟩,
  ⟨some 10, .ext (.t 9) 0, none⟩,
  ⟨some 11, .ext (.t 9) 1, none⟩,
  ⟨some 12, .ext (.t 9) 2, none⟩,
  ⟨some 4, .mv (.t 10), none⟩,
  ⟨some 5, .mv (.t 11), none⟩,
  ⟨some 6, .mv (.t 12), none⟩]) (
  .ret)), false⟩

/-- (*strings.Builder).copyCheck -/
def c230 : CF := ⟨1, 20, [],
 .seq (.reg [
  ⟨some 2, .mv (.t 0), none⟩,
  ⟨some 3, .nilchk (.t 2), none⟩,
  ⟨some 4, .fldA 0 none (.t 3), none⟩,
  ⟨some 5, .load none (.t 4), none⟩,
  ⟨some 6, .eqv false .p (.t 5) (.c (.nilp)), none⟩]) (
  .cond (.t 6) (.reg [
   ⟨some 7, .mv (.t 0), none⟩,
   ⟨some 8, .mv (.t 0), none⟩,
   ⟨some 9, .p2u (.t 8), none⟩,
   ⟨some 10, .call (.c (.fn 273 [])) [.t 9], none⟩,
   ⟨some 11, .u2p 216 2 (.t 10), none⟩,
   ⟨some 12, .nilchk (.t 7), none⟩,
   ⟨some 13, .fldA 0 none (.t 12), none⟩,
   ⟨none, .store 1 (.t 13) (.t 11), none⟩]) (.seq (.reg [
   ⟨some 14, .mv (.t 0), none⟩,
   ⟨some 15, .nilchk (.t 14), none⟩,
   ⟨some 16, .fldA 0 none (.t 15), none⟩,
   ⟨some 17, .load none (.t 16), none⟩,
   ⟨some 18, .mv (.t 0), none⟩,
   ⟨some 19, .eqv true .p (.t 17) (.t 18), none⟩]) (
   .cond (.t 19) (.bad) (.skip)))), false⟩

/-- slices.IndexFunc[[]furlong/api.Pair,furlong/api.Pair] -/
def c250 : CF := ⟨2, 19, [.tmp 4],
 .seq (.reg [
  ⟨some 4, .mv (.c (.int .i64 0)), none⟩]) (
  .seq (.seq (.reg [
  ⟨some 6, .mv (.t 0), none⟩,
  ⟨some 7, .len .l (.t 6), none⟩,
  ⟨some 8, .mv (.c (.int .i64 0)), none⟩]) (
  .block 0 (.loop [0, 1, 7, 8] (.seq (.reg [
   ⟨some 9, .bin .lss (.t 8) (.t 7), none⟩]) (
   .seq (.cond (.t 9) (.skip) (.exit 0)) (
   .seq (.block 1 (.seq (.reg [
   ⟨some 10, .mv (.t 8), none⟩,
   ⟨some 5, .mv (.t 10), none⟩]) (
   .seq (.reg [
   ⟨some 11, .mv (.t 1), none⟩,
   ⟨some 12, .mv (.t 0), none⟩,
   ⟨some 13, .mv (.t 5), none⟩,
   ⟨some 14, .idxA none 2 (.t 12) (.t 13), none⟩,
   ⟨some 15, .load (some 2) (.t 14), none⟩,
   ⟨some 16, .call (.t 11) [.t 15], none⟩]) (
   .cond (.t 16) (.seq (.reg [
    ⟨some 17, .mv (.t 5), none⟩,
    ⟨some 4, .mv (.t 17), none⟩]) (
    .ret)) (.skip))))) (
   .reg [
   ⟨some 18, .bin .add (.t 8) (.c (.int .i64 1)), none⟩,
   ⟨some 8, .mv (.t 18), none⟩]))))))) (
  .seq (.reg [
  ⟨some 4, .mv (.c (.int .i64 (-1))), none⟩]) (
  .ret))), false⟩

/-- internal/stringslite.Cut -/
def c252 : CF := ⟨2, 23, [.tmp 4, .tmp 5, .tmp 6],
 .seq (.reg [
  ⟨some 4, .mv (.c (.str [])), none⟩,
  ⟨some 5, .mv (.c (.str [])), none⟩,
  ⟨some 6, .mv (.c (.bool false)), none⟩]) (
  .seq (.seq (.reg [
  ⟨some 8, .mv (.t 0), none⟩,
  ⟨some 9, .mv (.t 1), none⟩,
  ⟨some 10, .call (.c (.fn 284 [])) [.t 8, .t 9], none⟩,
  ⟨some 7, .mv (.t 10), none⟩]) (
  .seq (.reg [
  ⟨some 11, .mv (.t 7), none⟩,
  ⟨some 12, .bin .geq (.t 11) (.c (.int .i64 0)), none⟩]) (
  .cond (.t 12) (.seq (.dreg [
   ⟨.v, 0, 0, 0, ⟨some 13, .mv (.t 0), none⟩⟩,
   ⟨.v, 0, 0, 1, ⟨some 14, .mv (.t 7), none⟩⟩,
   ⟨.v, 0, 0, 2, ⟨some 15, .slice none (.t 13) none (some (.t 14)) none, none⟩⟩,
   ⟨.v, 0, 0, 3, ⟨some 16, .mv (.t 0), none⟩⟩,
   ⟨.v, 0, 0, 4, ⟨some 17, .mv (.t 7), none⟩⟩,
   ⟨.v, 0, 0, 5, ⟨some 18, .mv (.t 1), none⟩⟩,
   ⟨.v, 0, 0, 6, ⟨some 19, .len .s (.t 18), none⟩⟩,
   ⟨.v, 0, 0, 7, ⟨some 20, .bin .add (.t 17) (.t 19), none⟩⟩,
   ⟨.v, 0, 0, 8, ⟨some 21, .slice none (.t 16) (some (.t 20)) none none, none⟩⟩,
   ⟨.v, 0, 0, 9, ⟨some 4, .mv (.t 15), none⟩⟩,
   ⟨.v, 0, 0, 10, ⟨some 5, .mv (.t 21), none⟩⟩,
   ⟨.v, 0, 0, 11, ⟨some 6, .mv (.c (.bool true)), none⟩⟩]) (
   .ret)) (.skip)))) (
  .seq (.reg [
  ⟨some 22, .mv (.t 0), none⟩,
  ⟨some 4, .mv (.t 22), none⟩,
  ⟨some 5, .mv (.c (.str [])), none⟩,
  ⟨some 6, .mv (.c (.bool false)), none⟩]) (
  .ret))), false⟩

/-- internal/stringslite.Index -/
def c284 : CF := ⟨2, 143, [.tmp 4],
 .seq (.reg [
  ⟨some 4, .mv (.c (.int .i64 0)), none⟩]) (
  .seq (.reg [
  ⟨some 14, .mv (.t 1), none⟩,
  ⟨some 15, .len .s (.t 14), none⟩,
  ⟨some 5, .mv (.t 15), none⟩]) (
  .seq (.block 0 (.seq (.reg [
  ⟨some 17, .mv (.t 5), none⟩,
  ⟨some 18, .bin .eql (.t 17) (.c (.int .i64 0)), none⟩,
  ⟨some 19, .mv (.t 18), none⟩,
  ⟨some 20, .mv (.t 1), (some (19, false))⟩,
  ⟨some 21, .mv (.t 0), (some (19, false))⟩,
  ⟨some 22, .bin .eql (.t 20) (.t 21), (some (19, false))⟩,
  ⟨some 23, .pick (.t 19) (.c (.bool true)) (.t 22), none⟩,
  ⟨some 16, .mv (.t 23), none⟩]) (
  .cond (.t 16) (.seq (.reg [
   ⟨some 4, .mv (.c (.int .i64 0)), none⟩]) (
   .ret)) (.seq (.reg [
   ⟨some 25, .mv (.t 5), none⟩,
   ⟨some 26, .bin .eql (.t 25) (.c (.int .i64 1)), none⟩,
   ⟨some 24, .mv (.t 26), none⟩]) (
   .cond (.t 24) (.seq (.reg [
    ⟨some 27, .mv (.t 0), none⟩,
    ⟨some 28, .mv (.t 1), none⟩,
    ⟨some 29, .idx none 1 none (.t 28) (.c (.int .i64 0)), none⟩,
    ⟨some 30, .call (.c (.fn 301 [])) [.t 27, .t 29], none⟩,
    ⟨some 4, .mv (.t 30), none⟩]) (
    .ret)) (.seq (.reg [
    ⟨some 32, .mv (.t 5), none⟩,
    ⟨some 33, .mv (.t 0), none⟩,
    ⟨some 34, .len .s (.t 33), none⟩,
    ⟨some 35, .bin .geq (.t 32) (.t 34), none⟩,
    ⟨some 31, .mv (.t 35), none⟩]) (
    .cond (.t 31) (.seq (.reg [
     ⟨some 4, .mv (.c (.int .i64 (-1))), none⟩]) (
     .ret)) (.seq (.reg [
     ⟨some 37, .mv (.t 5), none⟩,
     ⟨some 38, .load none (.c .junk), none⟩,
     ⟨some 39, .bin .leq (.t 37) (.t 38), none⟩,
     ⟨some 40, .mv (.t 39), none⟩,
     ⟨some 41, .mv (.t 0), (some (40, true))⟩,
     ⟨some 42, .len .s (.t 41), (some (40, true))⟩,
     ⟨some 43, .bin .leq (.t 42) (.c (.int .i64 64)), (some (40, true))⟩,
     ⟨some 44, .pick (.t 40) (.t 43) (.c (.bool false)), none⟩,
     ⟨some 36, .mv (.t 44), none⟩]) (
     .cond (.t 36) (.seq (.reg [
      ⟨some 45, .mv (.t 0), none⟩,
      ⟨some 46, .mv (.t 1), none⟩,
      ⟨some 47, .call (.c (.fn 302 [])) [.t 45, .t 46], none⟩,
      ⟨some 4, .mv (.t 47), none⟩]) (
      .ret)) (.skip)))))))))) (
  .seq (.reg [
  ⟨some 48, .mv (.t 1), none⟩,
  ⟨some 49, .idx none 1 none (.t 48) (.c (.int .i64 0)), none⟩,
  ⟨some 6, .mv (.t 49), none⟩]) (
  .seq (.reg [
  ⟨some 50, .mv (.t 1), none⟩,
  ⟨some 51, .idx none 1 none (.t 50) (.c (.int .i64 1)), none⟩,
  ⟨some 7, .mv (.t 51), none⟩]) (
  .seq (.reg [
  ⟨some 8, .mv (.c (.int .i64 0)), none⟩]) (
  .seq (.reg [
  ⟨some 52, .mv (.t 0), none⟩,
  ⟨some 53, .len .s (.t 52), none⟩,
  ⟨some 54, .mv (.t 5), none⟩,
  ⟨some 55, .bin .sub (.t 53) (.t 54), none⟩,
  ⟨some 56, .bin .add (.t 55) (.c (.int .i64 1)), none⟩,
  ⟨some 9, .mv (.t 56), none⟩]) (
  .seq (.reg [
  ⟨some 10, .mv (.c (.int .i64 0)), none⟩]) (
  .seq (.block 1 (.loop [0, 1, 5, 6, 7, 8, 9, 10] (.seq (.seq (.reg [
   ⟨some 57, .mv (.t 8), none⟩,
   ⟨some 58, .mv (.t 9), none⟩,
   ⟨some 59, .bin .lss (.t 57) (.t 58), none⟩]) (
   .cond (.t 59) (.skip) (.exit 1))) (
   .block 2 (.seq (.seq (.reg [
   ⟨some 60, .mv (.t 0), none⟩,
   ⟨some 61, .mv (.t 8), none⟩,
   ⟨some 62, .idx none 1 none (.t 60) (.t 61), none⟩,
   ⟨some 63, .mv (.t 6), none⟩,
   ⟨some 64, .bin .neq (.t 62) (.t 63), none⟩]) (
   .cond (.t 64) (.seq (.reg [
    ⟨some 65, .mv (.t 0), none⟩,
    ⟨some 66, .mv (.t 8), none⟩,
    ⟨some 67, .bin .add (.t 66) (.c (.int .i64 1)), none⟩,
    ⟨some 68, .mv (.t 9), none⟩,
    ⟨some 69, .slice none (.t 65) (some (.t 67)) (some (.t 68)) none, none⟩,
    ⟨some 70, .mv (.t 6), none⟩,
    ⟨some 71, .call (.c (.fn 301 [])) [.t 69, .t 70], none⟩,
    ⟨some 11, .mv (.t 71), none⟩]) (
    .seq (.seq (.reg [
    ⟨some 72, .mv (.t 11), none⟩,
    ⟨some 73, .bin .lss (.t 72) (.c (.int .i64 0)), none⟩]) (
    .cond (.t 73) (.seq (.reg [
     ⟨some 4, .mv (.c (.int .i64 (-1))), none⟩]) (
     .ret)) (.skip))) (
    .reg [
    ⟨some 74, .mv (.t 8), none⟩,
    ⟨some 75, .mv (.t 11), none⟩,
    ⟨some 76, .bin .add (.t 75) (.c (.int .i64 1)), none⟩,
    ⟨some 77, .bin .add (.t 74) (.t 76), none⟩,
    ⟨some 8, .mv (.t 77), none⟩]))) (.skip))) (
   .seq (.seq (.reg [
   ⟨some 78, .mv (.t 0), none⟩,
   ⟨some 79, .mv (.t 8), none⟩,
   ⟨some 80, .bin .add (.t 79) (.c (.int .i64 1)), none⟩,
   ⟨some 81, .idx none 1 none (.t 78) (.t 80), none⟩,
   ⟨some 82, .mv (.t 7), none⟩,
   ⟨some 83, .bin .eql (.t 81) (.t 82), none⟩,
   ⟨some 84, .mv (.t 83), none⟩,
   ⟨some 85, .mv (.t 0), (some (84, true))⟩,
   ⟨some 86, .mv (.t 8), (some (84, true))⟩,
   ⟨some 87, .mv (.t 8), (some (84, true))⟩,
   ⟨some 88, .mv (.t 5), (some (84, true))⟩,
   ⟨some 89, .bin .add (.t 87) (.t 88), (some (84, true))⟩,
   ⟨some 90, .slice none (.t 85) (some (.t 86)) (some (.t 89)) none, (some (84, true))⟩,
   ⟨some 91, .mv (.t 1), (some (84, true))⟩,
   ⟨some 92, .bin .eql (.t 90) (.t 91), (some (84, true))⟩,
   ⟨some 93, .pick (.t 84) (.t 92) (.c (.bool false)), none⟩]) (
   .cond (.t 93) (.seq (.reg [
    ⟨some 94, .mv (.t 8), none⟩,
    ⟨some 4, .mv (.t 94), none⟩]) (
    .ret)) (.skip))) (
   .seq (.reg [
   ⟨some 95, .mv (.t 8), none⟩,
   ⟨some 96, .bin .add (.t 95) (.c (.int .i64 1)), none⟩,
   ⟨some 8, .mv (.t 96), none⟩]) (
   .seq (.reg [
   ⟨some 97, .mv (.t 10), none⟩,
   ⟨some 98, .bin .add (.t 97) (.c (.int .i64 1)), none⟩,
   ⟨some 10, .mv (.t 98), none⟩]) (
   .seq (.reg [
   ⟨some 99, .mv (.t 5), none⟩,
   ⟨some 100, .load none (.c .junk), none⟩,
   ⟨some 101, .bin .leq (.t 99) (.t 100), none⟩,
   ⟨some 102, .mv (.t 101), none⟩,
   ⟨some 103, .mv (.t 10), (some (102, true))⟩,
   ⟨some 104, .mv (.t 8), (some (102, true))⟩,
   ⟨some 105, .call (.c (.fn 303 [])) [.t 104], (some (102, true))⟩,
   ⟨some 106, .bin .gtr (.t 103) (.t 105), (some (102, true))⟩,
   ⟨some 107, .pick (.t 102) (.t 106) (.c (.bool false)), none⟩]) (
   .cond (.t 107) (.seq (.reg [
    ⟨some 108, .mv (.t 0), none⟩,
    ⟨some 109, .mv (.t 8), none⟩,
    ⟨some 110, .slice none (.t 108) (some (.t 109)) none none, none⟩,
    ⟨some 111, .mv (.t 1), none⟩,
    ⟨some 112, .call (.c (.fn 302 [])) [.t 110, .t 111], none⟩,
    ⟨some 12, .mv (.t 112), none⟩]) (
    .seq (.seq (.reg [
    ⟨some 113, .mv (.t 12), none⟩,
    ⟨some 114, .bin .geq (.t 113) (.c (.int .i64 0)), none⟩]) (
    .cond (.t 114) (.seq (.reg [
     ⟨some 115, .mv (.t 12), none⟩,
     ⟨some 116, .mv (.t 8), none⟩,
     ⟨some 117, .bin .add (.t 115) (.t 116), none⟩,
     ⟨some 4, .mv (.t 117), none⟩]) (
     .ret)) (.skip))) (
    .seq (.reg [
    ⟨some 4, .mv (.c (.int .i64 (-1))), none⟩]) (
    .ret)))) (.seq (.reg [
    ⟨some 118, .mv (.t 5), none⟩,
    ⟨some 119, .load none (.c .junk), none⟩,
    ⟨some 120, .bin .gtr (.t 118) (.t 119), none⟩,
    ⟨some 121, .mv (.t 120), none⟩,
    ⟨some 122, .mv (.t 10), (some (121, true))⟩,
    ⟨some 123, .mv (.t 8), (some (121, true))⟩,
    ⟨some 124, .bin .shr (.t 123) (.c (.int .u64 4)), (some (121, true))⟩,
    ⟨some 125, .bin .add (.c (.int .i64 4)) (.t 124), (some (121, true))⟩,
    ⟨some 126, .bin .geq (.t 122) (.t 125), (some (121, true))⟩,
    ⟨some 127, .pick (.t 121) (.t 126) (.c (.bool false)), none⟩,
    ⟨some 128, .mv (.t 127), none⟩,
    ⟨some 129, .mv (.t 8), (some (128, true))⟩,
    ⟨some 130, .mv (.t 9), (some (128, true))⟩,
    ⟨some 131, .bin .lss (.t 129) (.t 130), (some (128, true))⟩,
    ⟨some 132, .pick (.t 128) (.t 131) (.c (.bool false)), none⟩]) (
    .cond (.t 132) (.seq (.reg [
     ⟨some 133, .mv (.t 0), none⟩,
     ⟨some 134, .mv (.t 8), none⟩,
     ⟨some 135, .slice none (.t 133) (some (.t 134)) none none, none⟩,
     ⟨some 136, .mv (.t 1), none⟩,
     ⟨some 137, .call (.c (.fn 304 [])) [.t 135, .t 136], none⟩,
     ⟨some 13, .mv (.t 137), none⟩]) (
     .seq (.seq (.reg [
     ⟨some 138, .mv (.t 13), none⟩,
     ⟨some 139, .bin .lss (.t 138) (.c (.int .i64 0)), none⟩]) (
     .cond (.t 139) (.seq (.reg [
      ⟨some 4, .mv (.c (.int .i64 (-1))), none⟩]) (
      .ret)) (.skip))) (
     .seq (.reg [
     ⟨some 140, .mv (.t 8), none⟩,
     ⟨some 141, .mv (.t 13), none⟩,
     ⟨some 142, .bin .add (.t 140) (.t 141), none⟩,
     ⟨some 4, .mv (.t 142), none⟩]) (
     .ret)))) (.skip))))))))))))) (
  .seq (.reg [
  ⟨some 4, .mv (.c (.int .i64 (-1))), none⟩]) (
  .ret)))))))))), false⟩

/-- internal/stringslite.IndexByte -/
def c301 : CF := ⟨2, 8, [.tmp 4],
 .seq (.reg [
  ⟨some 4, .mv (.c (.int .i64 0)), none⟩]) (
  .seq (.reg [
  ⟨some 5, .mv (.t 0), none⟩,
  ⟨some 6, .mv (.t 1), none⟩,
  ⟨some 7, .call (.c (.fn 317 [])) [.t 5, .t 6], none⟩,
  ⟨some 4, .mv (.t 7), none⟩]) (
  .ret)), false⟩

end Go.Ev.P
end
