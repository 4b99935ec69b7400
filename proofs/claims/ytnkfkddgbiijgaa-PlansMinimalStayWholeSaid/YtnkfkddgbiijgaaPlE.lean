/- The law of minimal plans that stay whole answers true. -/
import Derived.Test.YtnkfkddgbiijgaaPlC2
section
/- The law of minimal plans that stay whole answers true. -/
namespace Hm
open Go
set_option maxRecDepth 100000
set_option maxHeartbeats 4000000
set_option linter.unusedSimpArgs false
set_option linter.unusedVariables false
theorem skip_sub {plan : List Int} {n : Nat} (h : n < plan.length) : (plan.take n ++ plan.drop (n + 1)).Sublist plan := by
  conv => rhs; rw [drop_split h]
  exact (List.Sublist.refl _).append ((List.Sublist.refl _).cons _)
def c_L1_PlansMinimalStayWhole : Cmd :=
  (.seq
   (.ops [
   .op (some 3) none (.box 320196 4 (.t 0)),
   .op (some 6) none (.mov (.c (.bool false)))])
   (.cut
   (.seq
   (.ops [
   .op (some 14) none (.load true 4 (.t 3)),
   .op (some 15) none (.mov (.t 1)),
   .op (some 16) none (.call .f (.c (.fn 17 [])) [.t 14, .t 15]),
   .op (some 13) none (.mov (.t 16)),
   .op (some 17) none (.extract (.t 13) 0),
   .op (some 18) none (.extract (.t 13) 1),
   .op (some 8) none (.alloc 320514 (.agg [.int .i64 (0), .int .i64 (0)])),
   .op (some 7) none (.mov (.t 17)),
   .op none none (.store 2 (.t 8) (.t 18))])
   (.cut
   (.seq
   (.seq
   (.ops [
   .op (some 19) none (.call .f (.c (.fn 10 [])) []),
   .op (some 20) none (.not (.t 19)),
   .op (some 21) none (.mov (.t 20)),
   .op (some 22) (some (21, false)) (.faddr 0 (.t 8)),
   .op (some 23) (some (21, false)) (.load false 1 (.t 22)),
   .op (some 24) (some (21, false)) (.bin .neq false [.i] (.t 23) (.c (.int .i64 (0)))),
   .op (some 25) none (.pick (.t 21) (.c (.bool true)) (.t 24)),
   .op (some 26) none (.mov (.t 25)),
   .op (some 27) (some (26, false)) (.mov (.t 7)),
   .op (some 28) (some (26, false)) (.not (.t 27)),
   .op (some 29) none (.pick (.t 26) (.c (.bool true)) (.t 28))])
   (.cut
   (.cond (.t 29)
   (.seq
   (.ops [
   .op (some 30) none (.call .f (.c (.fn 10 [])) []),
   .op (some 31) none (.mov (.t 30)),
   .op (some 32) (some (31, true)) (.mov (.t 7)),
   .op (some 33) (some (31, true)) (.not (.t 32)),
   .op (some 34) none (.pick (.t 31) (.t 33) (.c (.bool false))),
   .op (some 6) none (.mov (.t 34))])
   .ret)
   .skip)))
   (.cut
   (.seq
   (.ops [
   .op (some 36) none (.load true 4 (.t 3)),
   .op (some 37) none (.mov (.t 1)),
   .op (some 38) none (.call .f (.c (.fn 13 [])) [.t 36, .t 37]),
   .op (some 35) none (.mov (.t 38)),
   .op (some 39) none (.extract (.t 35) 0),
   .op (some 40) none (.extract (.t 35) 1),
   .op (some 10) none (.alloc 320642 (.agg [.int .i64 (0), .int .i64 (0)])),
   .op (some 9) none (.mov (.t 39)),
   .op none none (.store 2 (.t 10) (.t 40))])
   (.cut
   (.seq
   (.seq
   (.ops [
   .op (some 41) none (.faddr 0 (.t 10)),
   .op (some 42) none (.load false 1 (.t 41)),
   .op (some 43) none (.bin .neq false [.i] (.t 42) (.c (.int .i64 (0)))),
   .op (some 44) none (.mov (.t 43)),
   .op (some 45) (some (44, false)) (.mov (.t 9)),
   .op (some 46) (some (44, false)) (.mov (.t 1)),
   .op (some 47) (some (44, false)) (.call .f (.c (.fn 14 [])) [.t 45, .t 46]),
   .op (some 48) (some (44, false)) (.not (.t 47)),
   .op (some 49) none (.pick (.t 44) (.c (.bool true)) (.t 48))])
   (.cut
   (.cond (.t 49)
   (.seq
   (.ops [
   .op (some 6) none (.mov (.c (.bool false)))])
   .ret)
   .skip)))
   (.cut
   (.seq
   (.seq
   (.ops [
   .op (some 50) none (.mov (.t 2)),
   .op (some 51) none (.mov (.t 1)),
   .op (some 52) none (.len false (.t 51)),
   .op (some 53) none (.bin .sub false [] (.t 52) (.c (.int .i64 (1)))),
   .op (some 54) none (.call .f (.c (.fn 19 [])) [.t 50, .c (.int .i64 (0)), .t 53]),
   .op (some 55) none (.not (.t 54))])
   (.cut
   (.cond (.t 55)
   (.seq
   (.ops [
   .op (some 6) none (.mov (.c (.bool true)))])
   .ret)
   .skip)))
   (.cut
   (.seq
   (.opsT (.node 0 4 (.node 0 14 (.node 3 14 (.node 4 5 (.node 4 6 (.node 4 14 (.node 8 14 (.node 9 14 (.node 10 14 (.leaf [0, 1, 2, 3, 4, 5, 6, 7, 8, 9, 10, 11, 12, 13, 14, 15, 16]) (.leaf [0, 1, 2, 3, 4, 5, 6, 7, 8, 9, 14, 10, 11, 12, 13, 15, 16])) (.leaf [0, 1, 2, 3, 4, 5, 6, 7, 8, 14, 9, 10, 11, 12, 13, 15, 16])) (.leaf [0, 1, 2, 3, 4, 5, 6, 7, 14, 8, 9, 10, 11, 12, 13, 15, 16])) (.leaf [0, 1, 2, 3, 14, 4, 5, 6, 7, 8, 9, 10, 11, 12, 13, 15, 16])) (.node 4 7 (.node 4 14 (.node 8 14 (.node 9 14 (.node 10 14 (.leaf [0, 1, 2, 3, 6, 4, 5, 7, 8, 9, 10, 11, 12, 13, 14, 15, 16]) (.leaf [0, 1, 2, 3, 6, 4, 5, 7, 8, 9, 14, 10, 11, 12, 13, 15, 16])) (.leaf [0, 1, 2, 3, 6, 4, 5, 7, 8, 14, 9, 10, 11, 12, 13, 15, 16])) (.leaf [0, 1, 2, 3, 6, 4, 5, 7, 14, 8, 9, 10, 11, 12, 13, 15, 16])) (.leaf [0, 1, 2, 3, 6, 14, 4, 5, 7, 8, 9, 10, 11, 12, 13, 15, 16])) (.node 4 14 (.node 8 14 (.node 9 14 (.node 10 14 (.leaf [0, 1, 2, 3, 6, 7, 4, 5, 8, 9, 10, 11, 12, 13, 14, 15, 16]) (.leaf [0, 1, 2, 3, 6, 7, 4, 5, 8, 9, 14, 10, 11, 12, 13, 15, 16])) (.leaf [0, 1, 2, 3, 6, 7, 4, 5, 8, 14, 9, 10, 11, 12, 13, 15, 16])) (.leaf [0, 1, 2, 3, 6, 7, 4, 5, 14, 8, 9, 10, 11, 12, 13, 15, 16])) (.leaf [0, 1, 2, 3, 6, 7, 14, 4, 5, 8, 9, 10, 11, 12, 13, 15, 16])))) (.node 4 6 (.node 4 14 (.node 8 14 (.node 9 14 (.node 10 14 (.leaf [0, 1, 2, 3, 5, 4, 6, 7, 8, 9, 10, 11, 12, 13, 14, 15, 16]) (.leaf [0, 1, 2, 3, 5, 4, 6, 7, 8, 9, 14, 10, 11, 12, 13, 15, 16])) (.leaf [0, 1, 2, 3, 5, 4, 6, 7, 8, 14, 9, 10, 11, 12, 13, 15, 16])) (.leaf [0, 1, 2, 3, 5, 4, 6, 7, 14, 8, 9, 10, 11, 12, 13, 15, 16])) (.leaf [0, 1, 2, 3, 5, 14, 4, 6, 7, 8, 9, 10, 11, 12, 13, 15, 16])) (.node 4 7 (.node 4 14 (.node 8 14 (.node 9 14 (.node 10 14 (.leaf [0, 1, 2, 3, 5, 6, 4, 7, 8, 9, 10, 11, 12, 13, 14, 15, 16]) (.leaf [0, 1, 2, 3, 5, 6, 4, 7, 8, 9, 14, 10, 11, 12, 13, 15, 16])) (.leaf [0, 1, 2, 3, 5, 6, 4, 7, 8, 14, 9, 10, 11, 12, 13, 15, 16])) (.leaf [0, 1, 2, 3, 5, 6, 4, 7, 14, 8, 9, 10, 11, 12, 13, 15, 16])) (.leaf [0, 1, 2, 3, 5, 6, 14, 4, 7, 8, 9, 10, 11, 12, 13, 15, 16])) (.node 4 8 (.node 4 14 (.node 8 14 (.node 9 14 (.node 10 14 (.leaf [0, 1, 2, 3, 5, 6, 7, 4, 8, 9, 10, 11, 12, 13, 14, 15, 16]) (.leaf [0, 1, 2, 3, 5, 6, 7, 4, 8, 9, 14, 10, 11, 12, 13, 15, 16])) (.leaf [0, 1, 2, 3, 5, 6, 7, 4, 8, 14, 9, 10, 11, 12, 13, 15, 16])) (.leaf [0, 1, 2, 3, 5, 6, 7, 4, 14, 8, 9, 10, 11, 12, 13, 15, 16])) (.leaf [0, 1, 2, 3, 5, 6, 7, 14, 4, 8, 9, 10, 11, 12, 13, 15, 16])) (.node 8 14 (.node 4 14 (.node 9 14 (.node 10 14 (.leaf [0, 1, 2, 3, 5, 6, 7, 8, 4, 9, 10, 11, 12, 13, 14, 15, 16]) (.leaf [0, 1, 2, 3, 5, 6, 7, 8, 4, 9, 14, 10, 11, 12, 13, 15, 16])) (.leaf [0, 1, 2, 3, 5, 6, 7, 8, 4, 14, 9, 10, 11, 12, 13, 15, 16])) (.leaf [0, 1, 2, 3, 5, 6, 7, 8, 14, 4, 9, 10, 11, 12, 13, 15, 16])) (.leaf [0, 1, 2, 3, 5, 6, 7, 14, 8, 4, 9, 10, 11, 12, 13, 15, 16])))))) (.node 8 14 (.leaf [0, 1, 2, 5, 6, 7, 8, 14, 3, 4, 9, 10, 11, 12, 13, 15, 16]) (.node 4 8 (.leaf [0, 1, 2, 5, 6, 7, 14, 3, 4, 8, 9, 10, 11, 12, 13, 15, 16]) (.leaf [0, 1, 2, 5, 6, 7, 14, 3, 8, 4, 9, 10, 11, 12, 13, 15, 16])))) (.node 3 14 (.node 8 14 (.leaf [1, 2, 3, 5, 6, 7, 8, 14, 0, 4, 9, 10, 11, 12, 13, 15, 16]) (.node 4 8 (.leaf [1, 2, 3, 5, 6, 7, 14, 0, 4, 8, 9, 10, 11, 12, 13, 15, 16]) (.leaf [1, 2, 3, 5, 6, 7, 14, 0, 8, 4, 9, 10, 11, 12, 13, 15, 16]))) (.node 8 14 (.leaf [1, 2, 5, 6, 7, 8, 14, 0, 3, 4, 9, 10, 11, 12, 13, 15, 16]) (.node 4 8 (.leaf [1, 2, 5, 6, 7, 14, 0, 3, 4, 8, 9, 10, 11, 12, 13, 15, 16]) (.leaf [1, 2, 5, 6, 7, 14, 0, 3, 8, 4, 9, 10, 11, 12, 13, 15, 16]))))) (.node 3 14 (.node 4 5 (.node 4 6 (.node 4 14 (.node 0 9 (.node 0 14 (.node 8 14 (.node 9 14 (.node 10 14 (.leaf [1, 2, 3, 4, 0, 5, 6, 7, 8, 9, 10, 11, 12, 13, 14, 15, 16]) (.leaf [1, 2, 3, 4, 0, 5, 6, 7, 8, 9, 14, 10, 11, 12, 13, 15, 16])) (.leaf [1, 2, 3, 4, 0, 5, 6, 7, 8, 14, 9, 10, 11, 12, 13, 15, 16])) (.leaf [1, 2, 3, 4, 0, 5, 6, 7, 14, 8, 9, 10, 11, 12, 13, 15, 16])) (.node 8 14 (.leaf [1, 2, 3, 4, 5, 6, 7, 8, 14, 0, 9, 10, 11, 12, 13, 15, 16]) (.leaf [1, 2, 3, 4, 5, 6, 7, 14, 0, 8, 9, 10, 11, 12, 13, 15, 16]))) (.node 8 14 (.node 9 14 (.node 0 14 (.node 10 14 (.leaf [1, 2, 3, 4, 5, 6, 7, 8, 9, 0, 10, 11, 12, 13, 14, 15, 16]) (.leaf [1, 2, 3, 4, 5, 6, 7, 8, 9, 0, 14, 10, 11, 12, 13, 15, 16])) (.leaf [1, 2, 3, 4, 5, 6, 7, 8, 9, 14, 0, 10, 11, 12, 13, 15, 16])) (.leaf [1, 2, 3, 4, 5, 6, 7, 8, 14, 9, 0, 10, 11, 12, 13, 15, 16])) (.leaf [1, 2, 3, 4, 5, 6, 7, 14, 8, 9, 0, 10, 11, 12, 13, 15, 16]))) (.node 0 9 (.leaf [1, 2, 3, 14, 4, 0, 5, 6, 7, 8, 9, 10, 11, 12, 13, 15, 16]) (.leaf [1, 2, 3, 14, 4, 5, 6, 7, 8, 9, 0, 10, 11, 12, 13, 15, 16]))) (.node 4 7 (.node 4 14 (.node 0 9 (.node 0 14 (.node 8 14 (.node 9 14 (.node 10 14 (.leaf [1, 2, 3, 6, 4, 0, 5, 7, 8, 9, 10, 11, 12, 13, 14, 15, 16]) (.leaf [1, 2, 3, 6, 4, 0, 5, 7, 8, 9, 14, 10, 11, 12, 13, 15, 16])) (.leaf [1, 2, 3, 6, 4, 0, 5, 7, 8, 14, 9, 10, 11, 12, 13, 15, 16])) (.leaf [1, 2, 3, 6, 4, 0, 5, 7, 14, 8, 9, 10, 11, 12, 13, 15, 16])) (.node 8 14 (.leaf [1, 2, 3, 6, 4, 5, 7, 8, 14, 0, 9, 10, 11, 12, 13, 15, 16]) (.leaf [1, 2, 3, 6, 4, 5, 7, 14, 0, 8, 9, 10, 11, 12, 13, 15, 16]))) (.node 8 14 (.node 9 14 (.node 0 14 (.node 10 14 (.leaf [1, 2, 3, 6, 4, 5, 7, 8, 9, 0, 10, 11, 12, 13, 14, 15, 16]) (.leaf [1, 2, 3, 6, 4, 5, 7, 8, 9, 0, 14, 10, 11, 12, 13, 15, 16])) (.leaf [1, 2, 3, 6, 4, 5, 7, 8, 9, 14, 0, 10, 11, 12, 13, 15, 16])) (.leaf [1, 2, 3, 6, 4, 5, 7, 8, 14, 9, 0, 10, 11, 12, 13, 15, 16])) (.leaf [1, 2, 3, 6, 4, 5, 7, 14, 8, 9, 0, 10, 11, 12, 13, 15, 16]))) (.node 0 9 (.leaf [1, 2, 3, 6, 14, 4, 0, 5, 7, 8, 9, 10, 11, 12, 13, 15, 16]) (.leaf [1, 2, 3, 6, 14, 4, 5, 7, 8, 9, 0, 10, 11, 12, 13, 15, 16]))) (.node 4 14 (.node 0 9 (.node 0 14 (.node 8 14 (.node 9 14 (.node 10 14 (.leaf [1, 2, 3, 6, 7, 4, 0, 5, 8, 9, 10, 11, 12, 13, 14, 15, 16]) (.leaf [1, 2, 3, 6, 7, 4, 0, 5, 8, 9, 14, 10, 11, 12, 13, 15, 16])) (.leaf [1, 2, 3, 6, 7, 4, 0, 5, 8, 14, 9, 10, 11, 12, 13, 15, 16])) (.leaf [1, 2, 3, 6, 7, 4, 0, 5, 14, 8, 9, 10, 11, 12, 13, 15, 16])) (.node 8 14 (.leaf [1, 2, 3, 6, 7, 4, 5, 8, 14, 0, 9, 10, 11, 12, 13, 15, 16]) (.leaf [1, 2, 3, 6, 7, 4, 5, 14, 0, 8, 9, 10, 11, 12, 13, 15, 16]))) (.node 8 14 (.node 9 14 (.node 0 14 (.node 10 14 (.leaf [1, 2, 3, 6, 7, 4, 5, 8, 9, 0, 10, 11, 12, 13, 14, 15, 16]) (.leaf [1, 2, 3, 6, 7, 4, 5, 8, 9, 0, 14, 10, 11, 12, 13, 15, 16])) (.leaf [1, 2, 3, 6, 7, 4, 5, 8, 9, 14, 0, 10, 11, 12, 13, 15, 16])) (.leaf [1, 2, 3, 6, 7, 4, 5, 8, 14, 9, 0, 10, 11, 12, 13, 15, 16])) (.leaf [1, 2, 3, 6, 7, 4, 5, 14, 8, 9, 0, 10, 11, 12, 13, 15, 16]))) (.node 0 9 (.leaf [1, 2, 3, 6, 7, 14, 4, 0, 5, 8, 9, 10, 11, 12, 13, 15, 16]) (.leaf [1, 2, 3, 6, 7, 14, 4, 5, 8, 9, 0, 10, 11, 12, 13, 15, 16]))))) (.node 4 6 (.node 4 14 (.node 0 9 (.node 0 14 (.node 8 14 (.node 9 14 (.node 10 14 (.leaf [1, 2, 3, 5, 4, 0, 6, 7, 8, 9, 10, 11, 12, 13, 14, 15, 16]) (.leaf [1, 2, 3, 5, 4, 0, 6, 7, 8, 9, 14, 10, 11, 12, 13, 15, 16])) (.leaf [1, 2, 3, 5, 4, 0, 6, 7, 8, 14, 9, 10, 11, 12, 13, 15, 16])) (.leaf [1, 2, 3, 5, 4, 0, 6, 7, 14, 8, 9, 10, 11, 12, 13, 15, 16])) (.node 8 14 (.leaf [1, 2, 3, 5, 4, 6, 7, 8, 14, 0, 9, 10, 11, 12, 13, 15, 16]) (.leaf [1, 2, 3, 5, 4, 6, 7, 14, 0, 8, 9, 10, 11, 12, 13, 15, 16]))) (.node 8 14 (.node 9 14 (.node 0 14 (.node 10 14 (.leaf [1, 2, 3, 5, 4, 6, 7, 8, 9, 0, 10, 11, 12, 13, 14, 15, 16]) (.leaf [1, 2, 3, 5, 4, 6, 7, 8, 9, 0, 14, 10, 11, 12, 13, 15, 16])) (.leaf [1, 2, 3, 5, 4, 6, 7, 8, 9, 14, 0, 10, 11, 12, 13, 15, 16])) (.leaf [1, 2, 3, 5, 4, 6, 7, 8, 14, 9, 0, 10, 11, 12, 13, 15, 16])) (.leaf [1, 2, 3, 5, 4, 6, 7, 14, 8, 9, 0, 10, 11, 12, 13, 15, 16]))) (.node 0 9 (.leaf [1, 2, 3, 5, 14, 4, 0, 6, 7, 8, 9, 10, 11, 12, 13, 15, 16]) (.leaf [1, 2, 3, 5, 14, 4, 6, 7, 8, 9, 0, 10, 11, 12, 13, 15, 16]))) (.node 4 7 (.node 4 14 (.node 0 9 (.node 0 14 (.node 8 14 (.node 9 14 (.node 10 14 (.leaf [1, 2, 3, 5, 6, 4, 0, 7, 8, 9, 10, 11, 12, 13, 14, 15, 16]) (.leaf [1, 2, 3, 5, 6, 4, 0, 7, 8, 9, 14, 10, 11, 12, 13, 15, 16])) (.leaf [1, 2, 3, 5, 6, 4, 0, 7, 8, 14, 9, 10, 11, 12, 13, 15, 16])) (.leaf [1, 2, 3, 5, 6, 4, 0, 7, 14, 8, 9, 10, 11, 12, 13, 15, 16])) (.node 8 14 (.leaf [1, 2, 3, 5, 6, 4, 7, 8, 14, 0, 9, 10, 11, 12, 13, 15, 16]) (.leaf [1, 2, 3, 5, 6, 4, 7, 14, 0, 8, 9, 10, 11, 12, 13, 15, 16]))) (.node 8 14 (.node 9 14 (.node 0 14 (.node 10 14 (.leaf [1, 2, 3, 5, 6, 4, 7, 8, 9, 0, 10, 11, 12, 13, 14, 15, 16]) (.leaf [1, 2, 3, 5, 6, 4, 7, 8, 9, 0, 14, 10, 11, 12, 13, 15, 16])) (.leaf [1, 2, 3, 5, 6, 4, 7, 8, 9, 14, 0, 10, 11, 12, 13, 15, 16])) (.leaf [1, 2, 3, 5, 6, 4, 7, 8, 14, 9, 0, 10, 11, 12, 13, 15, 16])) (.leaf [1, 2, 3, 5, 6, 4, 7, 14, 8, 9, 0, 10, 11, 12, 13, 15, 16]))) (.node 0 9 (.leaf [1, 2, 3, 5, 6, 14, 4, 0, 7, 8, 9, 10, 11, 12, 13, 15, 16]) (.leaf [1, 2, 3, 5, 6, 14, 4, 7, 8, 9, 0, 10, 11, 12, 13, 15, 16]))) (.node 4 8 (.node 4 14 (.node 0 9 (.node 0 14 (.node 8 14 (.node 9 14 (.node 10 14 (.leaf [1, 2, 3, 5, 6, 7, 4, 0, 8, 9, 10, 11, 12, 13, 14, 15, 16]) (.leaf [1, 2, 3, 5, 6, 7, 4, 0, 8, 9, 14, 10, 11, 12, 13, 15, 16])) (.leaf [1, 2, 3, 5, 6, 7, 4, 0, 8, 14, 9, 10, 11, 12, 13, 15, 16])) (.leaf [1, 2, 3, 5, 6, 7, 4, 0, 14, 8, 9, 10, 11, 12, 13, 15, 16])) (.node 8 14 (.leaf [1, 2, 3, 5, 6, 7, 4, 8, 14, 0, 9, 10, 11, 12, 13, 15, 16]) (.leaf [1, 2, 3, 5, 6, 7, 4, 14, 0, 8, 9, 10, 11, 12, 13, 15, 16]))) (.node 8 14 (.node 9 14 (.node 0 14 (.node 10 14 (.leaf [1, 2, 3, 5, 6, 7, 4, 8, 9, 0, 10, 11, 12, 13, 14, 15, 16]) (.leaf [1, 2, 3, 5, 6, 7, 4, 8, 9, 0, 14, 10, 11, 12, 13, 15, 16])) (.leaf [1, 2, 3, 5, 6, 7, 4, 8, 9, 14, 0, 10, 11, 12, 13, 15, 16])) (.leaf [1, 2, 3, 5, 6, 7, 4, 8, 14, 9, 0, 10, 11, 12, 13, 15, 16])) (.leaf [1, 2, 3, 5, 6, 7, 4, 14, 8, 9, 0, 10, 11, 12, 13, 15, 16]))) (.node 0 9 (.leaf [1, 2, 3, 5, 6, 7, 14, 4, 0, 8, 9, 10, 11, 12, 13, 15, 16]) (.leaf [1, 2, 3, 5, 6, 7, 14, 4, 8, 9, 0, 10, 11, 12, 13, 15, 16]))) (.node 8 14 (.node 4 14 (.node 0 9 (.node 0 14 (.node 9 14 (.node 10 14 (.leaf [1, 2, 3, 5, 6, 7, 8, 4, 0, 9, 10, 11, 12, 13, 14, 15, 16]) (.leaf [1, 2, 3, 5, 6, 7, 8, 4, 0, 9, 14, 10, 11, 12, 13, 15, 16])) (.leaf [1, 2, 3, 5, 6, 7, 8, 4, 0, 14, 9, 10, 11, 12, 13, 15, 16])) (.leaf [1, 2, 3, 5, 6, 7, 8, 4, 14, 0, 9, 10, 11, 12, 13, 15, 16])) (.node 9 14 (.node 0 14 (.node 10 14 (.leaf [1, 2, 3, 5, 6, 7, 8, 4, 9, 0, 10, 11, 12, 13, 14, 15, 16]) (.leaf [1, 2, 3, 5, 6, 7, 8, 4, 9, 0, 14, 10, 11, 12, 13, 15, 16])) (.leaf [1, 2, 3, 5, 6, 7, 8, 4, 9, 14, 0, 10, 11, 12, 13, 15, 16])) (.leaf [1, 2, 3, 5, 6, 7, 8, 4, 14, 9, 0, 10, 11, 12, 13, 15, 16]))) (.node 0 9 (.leaf [1, 2, 3, 5, 6, 7, 8, 14, 4, 0, 9, 10, 11, 12, 13, 15, 16]) (.leaf [1, 2, 3, 5, 6, 7, 8, 14, 4, 9, 0, 10, 11, 12, 13, 15, 16]))) (.node 0 9 (.leaf [1, 2, 3, 5, 6, 7, 14, 8, 4, 0, 9, 10, 11, 12, 13, 15, 16]) (.leaf [1, 2, 3, 5, 6, 7, 14, 8, 4, 9, 0, 10, 11, 12, 13, 15, 16]))))))) (.node 8 14 (.node 0 9 (.leaf [1, 2, 5, 6, 7, 8, 14, 3, 4, 0, 9, 10, 11, 12, 13, 15, 16]) (.leaf [1, 2, 5, 6, 7, 8, 14, 3, 4, 9, 0, 10, 11, 12, 13, 15, 16])) (.node 4 8 (.node 0 9 (.leaf [1, 2, 5, 6, 7, 14, 3, 4, 0, 8, 9, 10, 11, 12, 13, 15, 16]) (.leaf [1, 2, 5, 6, 7, 14, 3, 4, 8, 9, 0, 10, 11, 12, 13, 15, 16])) (.node 0 9 (.leaf [1, 2, 5, 6, 7, 14, 3, 8, 4, 0, 9, 10, 11, 12, 13, 15, 16]) (.leaf [1, 2, 5, 6, 7, 14, 3, 8, 4, 9, 0, 10, 11, 12, 13, 15, 16])))))) [
   .op (some 57) none (.load true 4 (.t 3)),
   .op (some 58) none (.mov (.t 1)),
   .op (some 59) none (.mov (.t 2)),
   .op (some 60) none (.slice false 1 (.t 58) none (some (.t 59))),
   .op (some 61) none (.call (.s [1344193]) (.c (.fn 21 [])) [.t 60]),
   .op (some 62) none (.mov (.t 1)),
   .op (some 63) none (.mov (.t 2)),
   .op (some 64) none (.bin .add false [] (.t 63) (.c (.int .i64 (1)))),
   .op (some 65) none (.slice false 1 (.t 62) (some (.t 64)) none),
   .op (some 66) none (.append 1 8 (.t 61) (.t 65)),
   .op (some 67) none (.call .f (.c (.fn 20 [])) [.t 57, .t 66]),
   .op (some 56) none (.mov (.t 67)),
   .op (some 68) none (.extract (.t 56) 0),
   .op (some 69) none (.extract (.t 56) 1),
   .op (some 12) none (.alloc 320770 (.agg [.int .i64 (0), .int .i64 (0)])),
   .op (some 11) none (.mov (.t 68)),
   .op none none (.store 2 (.t 12) (.t 69))])
   (.cut
   (.seq
   (.ops [
   .op (some 70) none (.faddr 0 (.t 12)),
   .op (some 71) none (.load false 1 (.t 70)),
   .op (some 72) none (.bin .eql false [.i] (.t 71) (.c (.int .i64 (0)))),
   .op (some 73) none (.mov (.t 72)),
   .op (some 74) (some (73, true)) (.mov (.t 11)),
   .op (some 75) (some (73, true)) (.not (.t 74)),
   .op (some 76) none (.pick (.t 73) (.t 75) (.c (.bool false))),
   .op (some 6) none (.mov (.t 76))])
   .ret)))))))))))))))
def r_L1_PlansMinimalStayWhole : List RVar := [.tmp 6]
def n_L1_PlansMinimalStayWhole : Nat := 77
theorem k_L1_PlansMinimalStayWhole : chkFn Go.Proofs.Try.prog 5 n_L1_PlansMinimalStayWhole r_L1_PlansMinimalStayWhole c_L1_PlansMinimalStayWhole = true := by kernel_rfl
theorem f_L1_PlansMinimalStayWhole (t : STask) (ho : SkOk t) (plan : List Int) (hl : plan.length ≤ 140737488355328) (i : Int) : Fc Go.Proofs.Try.prog 5 [skV t, .sl .p (plan.map i64V), .int .i64 i] (.bool true) := by
  have hT := f_L1_shortens
  by_cases hm : minF t plan = okF
  · obtain ⟨hs, h12⟩ := minF_ok hm
    obtain ⟨hb, hw⟩ := solF_ok hs
    obtain ⟨hv, h60, hr, _⟩ := plFault_ok hb
    have h1 := f_plans_Minimal_ok t ho plan hm
    cases hmb : minB t plan with
    | false =>
      rw [hmb] at h1
      refine Fn.step mixed k_L1_PlansMinimalStayWhole ?_
      repeat' (first | refine i_len rfl ?_ | refine i_s rfl ?_ | refine i_lenm rfl rfl rfl ?_ | refine c_seq ?_ | refine c_cut0 ?_ | refine c_ops ?_ | refine i_nil ?_ | refine e_seq ?_ | refine e_block ?_ | refine c_block ?_ | refine c_skip ?_ | refine c_ret ?_ | refine c_exit ?_ | refine e_exit rfl ?_ | refine i_s0 rfl ?_ | refine c_leaf ?_ | refine i_gt rfl ?_ | refine i_gf rfl ?_ | refine i_gd rfl ?_ | refine c_t rfl ?_ | refine c_f rfl ?_ | refine i_conv rfl (by simp only [InR, List.length_map]; omega) ?_ | refine i_add rfl rfl (by simp only [InR, List.length_map]; omega) ?_ | refine i_sub rfl rfl (by simp only [InR, List.length_map]; omega) ?_ | refine i_ixm rfl rfl (by assumption) ?_ | refine i_iai rfl rfl (by omega) (by assumption) rfl ?_ | refine i_iam rfl rfl (by assumption) rfl ?_ | refine i_tk rfl rfl (by omega) ?_ | refine i_stb rfl ?_ | refine i_alloc rfl ?_ | refine i_box rfl rfl ?_ | refine i_nv rfl ?_ | refine c_node ?_ ?_ | refine i_g rfl (fun h => ?_) (fun h => ?_) | refine c_cond rfl (fun h => ?_) (fun h => ?_) | refine i_f rfl rfl (hT) rfl ?_ | refine i_f rfl rfl (h1) rfl ?_)
      all_goals first
        | (exfalso; clear hT h1 ho hv hr; simp at *; done)
        | exact e_ret ⟨rfl, _, rfl, rfl⟩
    | true =>
      rw [hmb] at h1
      have hmin := (minB_iff t plan).1 hmb
      have h3 := f_plans_Reduce_ok t ho plan hs
      have hsub := redL_sub t plan 0
      have hrl := redL_works t plan 0 hw
      have he : redL t plan 0 = plan := by
        by_cases c : (redL t plan 0).length < plan.length
        · rw [hmin _ hsub c] at hrl; cases hrl
        · exact hsub.eq_of_length_le (by omega)
      rw [he] at h3
      have h4 := f_Ints_same plan (by omega)
      have h5 := f_R1_In i 0 ((plan.length : Int) - 1)
      by_cases hin : 0 ≤ i ∧ i < plan.length
      · obtain ⟨n, rfl⟩ : ∃ n : Nat, i = n := ⟨i.toNat, by omega⟩
        have hn : n < plan.length := by omega
        rw [show (decide ((0 : Int) ≤ (n : Int)) && decide ((n : Int) ≤ (plan.length : Int) - 1)) = true from by simp; omega] at h5
        have hq := skip_sub hn
        have hql : (plan.take n ++ plan.drop (n + 1)).length < plan.length := by simp; omega
        have h6 := f_strips_Solves_ok t ho (plan.take n ++ plan.drop (n + 1)) (plF_sub hb hq)
        rw [hmin _ hq hql, show V.sl .p ((plan.take n ++ plan.drop (n + 1)).map i64V) = .sl .p ((((plan.take n ++ plan.drop (n + 1)).map i64V).drop 0).take (plan.take n ++ plan.drop (n + 1)).length) from (msl_all rfl).symm] at h6
        have htl : (plan.take n).length ≤ 12 := by simp; omega
        have hdl : (plan.drop (n + 1)).length ≤ 12 := by simp; omega
        have hn0 : (0 : Int) ≤ (n : Int) := by omega
        clear hs hb hw hv hr hsub hrl he hmin hmb hm hq hql
        refine Fn.step mixed k_L1_PlansMinimalStayWhole ?_
        repeat' (first | refine i_len rfl ?_ | refine i_s rfl ?_ | refine i_lenm rfl rfl rfl ?_ | refine c_seq ?_ | refine c_cut0 ?_ | refine c_ops ?_ | refine i_nil ?_ | refine e_seq ?_ | refine e_block ?_ | refine c_block ?_ | refine c_skip ?_ | refine c_ret ?_ | refine c_exit ?_ | refine e_exit rfl ?_ | refine i_s0 rfl ?_ | refine c_leaf ?_ | refine i_gt rfl ?_ | refine i_gf rfl ?_ | refine i_gd rfl ?_ | refine c_t rfl ?_ | refine c_f rfl ?_ | refine i_conv rfl (by simp only [InR, List.length_map]; omega) ?_ | refine i_add rfl rfl (by simp only [InR, List.length_map]; omega) ?_ | refine i_sub rfl rfl (by simp only [InR, List.length_map]; omega) ?_ | refine i_ixm rfl rfl (by assumption) ?_ | refine i_iai rfl rfl (by omega) (by assumption) rfl ?_ | refine i_iam rfl rfl (by assumption) rfl ?_ | refine i_tk rfl rfl (by omega) ?_ | refine i_stb rfl ?_ | refine i_alloc rfl ?_ | refine i_box rfl rfl ?_ | refine i_nv rfl ?_ | refine c_node ?_ ?_ | refine i_g rfl (fun h => ?_) (fun h => ?_) | refine c_cond rfl (fun h => ?_) (fun h => ?_) | refine i_f rfl rfl (hT) rfl ?_ | refine i_f rfl rfl (h1) rfl ?_ | refine i_f rfl rfl (h3) rfl ?_ | refine i_f rfl rfl (h4) rfl ?_ | refine i_f rfl rfl (h5) rfl ?_)
        all_goals first | (exfalso; clear hT h1 h3 h4 h5 h6 ho; simp at *; done) | skip
        all_goals clear hT h1 h3 h4 h5 ho
        all_goals
          repeat (first | refine i_len rfl ?_ | refine i_s rfl ?_ | refine i_lenm rfl rfl rfl ?_ | refine c_seq ?_ | refine c_cut0 ?_ | refine c_ops ?_ | refine i_nil ?_ | refine e_seq ?_ | refine e_block ?_ | refine c_block ?_ | refine c_skip ?_ | refine c_ret ?_ | refine c_exit ?_ | refine e_exit rfl ?_ | refine i_s0 rfl ?_ | refine c_leaf ?_ | refine i_gt rfl ?_ | refine i_gf rfl ?_ | refine i_gd rfl ?_ | refine c_t rfl ?_ | refine c_f rfl ?_ | refine i_conv rfl (by simp only [InR, List.length_map]; omega) ?_ | refine i_add rfl rfl (by simp only [InR, List.length_map]; omega) ?_ | refine i_sub rfl rfl (by simp only [InR, List.length_map]; omega) ?_ | refine i_ixm rfl rfl (by assumption) ?_ | refine i_iai rfl rfl (by omega) (by assumption) rfl ?_ | refine i_iam rfl rfl (by assumption) rfl ?_ | refine i_tk rfl rfl (by omega) ?_ | refine i_stb rfl ?_ | refine i_alloc rfl ?_ | refine i_box rfl rfl ?_ | refine i_nv rfl ?_ | refine i_f rfl rfl (h6) rfl ?_ | refine i_tk rfl rfl (by omega) ?_ | refine i_dr (f := i64V) (l := plan) (k := n + 1) rfl rfl (by omega) (fun c => rfl) ?_ | refine i_appmM (plan.drop (n + 1)) rfl rfl rfl rfl rfl (fun c hc => ⟨rfl, rfl⟩) (by omega) (by omega) ?_ | (refine i_c rfl rfl rfl (ct_R1_Copy1 (plan.take n) (by omega) _ _ rfl fun nm h => restr_mem nm h) ?_; rintro _ _ _ ⟨rfl, rfl, rfl⟩))
        all_goals exact e_ret ⟨rfl, _, rfl, rfl⟩
      · rw [show (decide ((0 : Int) ≤ i) && decide (i ≤ (plan.length : Int) - 1)) = false from by simp; omega] at h5
        clear hs hb hw hv hr hsub hrl he hmin hmb hm
        refine Fn.step mixed k_L1_PlansMinimalStayWhole ?_
        repeat' (first | refine i_len rfl ?_ | refine i_s rfl ?_ | refine i_lenm rfl rfl rfl ?_ | refine c_seq ?_ | refine c_cut0 ?_ | refine c_ops ?_ | refine i_nil ?_ | refine e_seq ?_ | refine e_block ?_ | refine c_block ?_ | refine c_skip ?_ | refine c_ret ?_ | refine c_exit ?_ | refine e_exit rfl ?_ | refine i_s0 rfl ?_ | refine c_leaf ?_ | refine i_gt rfl ?_ | refine i_gf rfl ?_ | refine i_gd rfl ?_ | refine c_t rfl ?_ | refine c_f rfl ?_ | refine i_conv rfl (by simp only [InR, List.length_map]; omega) ?_ | refine i_add rfl rfl (by simp only [InR, List.length_map]; omega) ?_ | refine i_sub rfl rfl (by simp only [InR, List.length_map]; omega) ?_ | refine i_ixm rfl rfl (by assumption) ?_ | refine i_iai rfl rfl (by omega) (by assumption) rfl ?_ | refine i_iam rfl rfl (by assumption) rfl ?_ | refine i_tk rfl rfl (by omega) ?_ | refine i_stb rfl ?_ | refine i_alloc rfl ?_ | refine i_box rfl rfl ?_ | refine i_nv rfl ?_ | refine c_node ?_ ?_ | refine i_g rfl (fun h => ?_) (fun h => ?_) | refine c_cond rfl (fun h => ?_) (fun h => ?_) | refine i_f rfl rfl (hT) rfl ?_ | refine i_f rfl rfl (h1) rfl ?_ | refine i_f rfl rfl (h3) rfl ?_ | refine i_f rfl rfl (h4) rfl ?_ | refine i_f rfl rfl (h5) rfl ?_)
        all_goals first
          | (exfalso; clear hT h1 h3 h4 h5 ho; simp at *; done)
          | exact e_ret ⟨rfl, _, rfl, rfl⟩
  · have h1 := f_plans_Minimal_bad t ho plan hl hm
    have hne : (minF t plan).code ≠ 0 := fun h => hm ((minF_code _ _).1 h)
    clear hm
    generalize minF t plan = SF at *
    refine Fn.step mixed k_L1_PlansMinimalStayWhole ?_
    repeat' (first | refine i_len rfl ?_ | refine i_s rfl ?_ | refine i_lenm rfl rfl rfl ?_ | refine c_seq ?_ | refine c_cut0 ?_ | refine c_ops ?_ | refine i_nil ?_ | refine e_seq ?_ | refine e_block ?_ | refine c_block ?_ | refine c_skip ?_ | refine c_ret ?_ | refine c_exit ?_ | refine e_exit rfl ?_ | refine i_s0 rfl ?_ | refine c_leaf ?_ | refine i_gt rfl ?_ | refine i_gf rfl ?_ | refine i_gd rfl ?_ | refine c_t rfl ?_ | refine c_f rfl ?_ | refine i_conv rfl (by simp only [InR, List.length_map]; omega) ?_ | refine i_add rfl rfl (by simp only [InR, List.length_map]; omega) ?_ | refine i_sub rfl rfl (by simp only [InR, List.length_map]; omega) ?_ | refine i_ixm rfl rfl (by assumption) ?_ | refine i_iai rfl rfl (by omega) (by assumption) rfl ?_ | refine i_iam rfl rfl (by assumption) rfl ?_ | refine i_tk rfl rfl (by omega) ?_ | refine i_stb rfl ?_ | refine i_alloc rfl ?_ | refine i_box rfl rfl ?_ | refine i_nv rfl ?_ | refine c_node ?_ ?_ | refine i_g rfl (fun h => ?_) (fun h => ?_) | refine c_cond rfl (fun h => ?_) (fun h => ?_) | refine i_f rfl rfl (hT) rfl ?_ | refine i_f rfl rfl (h1) rfl ?_)
    all_goals first
      | (exfalso; clear hT h1 ho; simp at *; done)
      | (exfalso; clear hT h1 ho; simp at *; omega)
      | (refine e_ret ⟨rfl, _, rfl, congrArg V.bool ?_⟩; first | rfl | (simp; done))
end Hm
end
