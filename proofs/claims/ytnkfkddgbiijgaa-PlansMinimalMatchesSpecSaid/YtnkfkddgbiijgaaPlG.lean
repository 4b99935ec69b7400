/- Contracts: parts of plans, as the reference tries them. -/
import Derived.Test.YtnkfkddgbiijgaaPlB
section
/- Contracts: parts of plans, as the reference tries them. -/
namespace Hm
open Go
set_option maxRecDepth 100000
set_option maxHeartbeats 4000000
set_option linter.unusedSimpArgs false
set_option linter.unusedVariables false
def c_R2_shorter : Cmd :=
  (.seq
   (.ops [
   .op (some 4) none (.box 2496260 4 (.t 0)),
   .op (some 8) none (.mov (.c (.bool false)))])
   (.cut
   (.seq
   (.seq
   (.ops [
   .op (some 9) none (.mov (.t 2)),
   .op (some 10) none (.len false (.t 9)),
   .op (some 11) none (.bin .eql false [.i] (.t 10) (.c (.int .i64 (0))))])
   (.cut
   (.cond (.t 11)
   (.seq
   (.ops [
   .op (some 12) none (.mov (.t 3)),
   .op (some 13) none (.mov (.t 12)),
   .op (some 14) (some (13, true)) (.load true 4 (.t 4)),
   .op (some 15) (some (13, true)) (.mov (.t 1)),
   .op (some 16) (some (13, true)) (.call .f (.c (.fn 32 [])) [.t 14, .t 15]),
   .op (some 17) none (.pick (.t 13) (.t 16) (.c (.bool false))),
   .op (some 8) none (.mov (.t 17))])
   .ret)
   .skip)))
   (.cut
   (.seq
   (.opsT (.node 0 2 (.node 2 3 (.node 2 8 (.node 2 10 (.node 7 9 (.leaf [0, 1, 2, 3, 4, 5, 6, 7, 8, 9, 10, 11, 12, 13, 14, 15, 16, 17, 18, 19]) (.leaf [0, 1, 2, 3, 4, 5, 6, 8, 9, 7, 10, 11, 12, 13, 14, 15, 16, 17, 18, 19])) (.node 7 9 (.leaf [0, 1, 10, 2, 3, 4, 5, 6, 7, 8, 9, 11, 12, 13, 14, 15, 16, 17, 18, 19]) (.leaf [0, 1, 10, 2, 3, 4, 5, 6, 8, 9, 7, 11, 12, 13, 14, 15, 16, 17, 18, 19]))) (.node 2 9 (.node 2 10 (.node 7 9 (.leaf [0, 1, 8, 2, 3, 4, 5, 6, 7, 9, 10, 11, 12, 13, 14, 15, 16, 17, 18, 19]) (.leaf [0, 1, 8, 2, 3, 4, 5, 6, 9, 7, 10, 11, 12, 13, 14, 15, 16, 17, 18, 19])) (.node 7 9 (.leaf [0, 1, 8, 10, 2, 3, 4, 5, 6, 7, 9, 11, 12, 13, 14, 15, 16, 17, 18, 19]) (.leaf [0, 1, 8, 10, 2, 3, 4, 5, 6, 9, 7, 11, 12, 13, 14, 15, 16, 17, 18, 19]))) (.node 2 10 (.leaf [0, 1, 8, 9, 2, 3, 4, 5, 6, 7, 10, 11, 12, 13, 14, 15, 16, 17, 18, 19]) (.leaf [0, 1, 8, 9, 10, 2, 3, 4, 5, 6, 7, 11, 12, 13, 14, 15, 16, 17, 18, 19])))) (.node 2 4 (.node 2 8 (.node 2 10 (.node 7 9 (.leaf [0, 1, 3, 2, 4, 5, 6, 7, 8, 9, 10, 11, 12, 13, 14, 15, 16, 17, 18, 19]) (.leaf [0, 1, 3, 2, 4, 5, 6, 8, 9, 7, 10, 11, 12, 13, 14, 15, 16, 17, 18, 19])) (.node 7 9 (.leaf [0, 1, 3, 10, 2, 4, 5, 6, 7, 8, 9, 11, 12, 13, 14, 15, 16, 17, 18, 19]) (.leaf [0, 1, 3, 10, 2, 4, 5, 6, 8, 9, 7, 11, 12, 13, 14, 15, 16, 17, 18, 19]))) (.node 2 9 (.node 2 10 (.node 7 9 (.leaf [0, 1, 3, 8, 2, 4, 5, 6, 7, 9, 10, 11, 12, 13, 14, 15, 16, 17, 18, 19]) (.leaf [0, 1, 3, 8, 2, 4, 5, 6, 9, 7, 10, 11, 12, 13, 14, 15, 16, 17, 18, 19])) (.node 7 9 (.leaf [0, 1, 3, 8, 10, 2, 4, 5, 6, 7, 9, 11, 12, 13, 14, 15, 16, 17, 18, 19]) (.leaf [0, 1, 3, 8, 10, 2, 4, 5, 6, 9, 7, 11, 12, 13, 14, 15, 16, 17, 18, 19]))) (.node 2 10 (.leaf [0, 1, 3, 8, 9, 2, 4, 5, 6, 7, 10, 11, 12, 13, 14, 15, 16, 17, 18, 19]) (.leaf [0, 1, 3, 8, 9, 10, 2, 4, 5, 6, 7, 11, 12, 13, 14, 15, 16, 17, 18, 19])))) (.node 2 5 (.node 2 8 (.node 2 10 (.node 7 9 (.leaf [0, 1, 3, 4, 2, 5, 6, 7, 8, 9, 10, 11, 12, 13, 14, 15, 16, 17, 18, 19]) (.leaf [0, 1, 3, 4, 2, 5, 6, 8, 9, 7, 10, 11, 12, 13, 14, 15, 16, 17, 18, 19])) (.node 7 9 (.leaf [0, 1, 3, 4, 10, 2, 5, 6, 7, 8, 9, 11, 12, 13, 14, 15, 16, 17, 18, 19]) (.leaf [0, 1, 3, 4, 10, 2, 5, 6, 8, 9, 7, 11, 12, 13, 14, 15, 16, 17, 18, 19]))) (.node 2 9 (.node 2 10 (.node 7 9 (.leaf [0, 1, 3, 4, 8, 2, 5, 6, 7, 9, 10, 11, 12, 13, 14, 15, 16, 17, 18, 19]) (.leaf [0, 1, 3, 4, 8, 2, 5, 6, 9, 7, 10, 11, 12, 13, 14, 15, 16, 17, 18, 19])) (.node 7 9 (.leaf [0, 1, 3, 4, 8, 10, 2, 5, 6, 7, 9, 11, 12, 13, 14, 15, 16, 17, 18, 19]) (.leaf [0, 1, 3, 4, 8, 10, 2, 5, 6, 9, 7, 11, 12, 13, 14, 15, 16, 17, 18, 19]))) (.node 2 10 (.leaf [0, 1, 3, 4, 8, 9, 2, 5, 6, 7, 10, 11, 12, 13, 14, 15, 16, 17, 18, 19]) (.leaf [0, 1, 3, 4, 8, 9, 10, 2, 5, 6, 7, 11, 12, 13, 14, 15, 16, 17, 18, 19])))) (.node 2 6 (.node 2 8 (.node 2 10 (.node 7 9 (.leaf [0, 1, 3, 4, 5, 2, 6, 7, 8, 9, 10, 11, 12, 13, 14, 15, 16, 17, 18, 19]) (.leaf [0, 1, 3, 4, 5, 2, 6, 8, 9, 7, 10, 11, 12, 13, 14, 15, 16, 17, 18, 19])) (.node 7 9 (.leaf [0, 1, 3, 4, 5, 10, 2, 6, 7, 8, 9, 11, 12, 13, 14, 15, 16, 17, 18, 19]) (.leaf [0, 1, 3, 4, 5, 10, 2, 6, 8, 9, 7, 11, 12, 13, 14, 15, 16, 17, 18, 19]))) (.node 2 9 (.node 2 10 (.node 7 9 (.leaf [0, 1, 3, 4, 5, 8, 2, 6, 7, 9, 10, 11, 12, 13, 14, 15, 16, 17, 18, 19]) (.leaf [0, 1, 3, 4, 5, 8, 2, 6, 9, 7, 10, 11, 12, 13, 14, 15, 16, 17, 18, 19])) (.node 7 9 (.leaf [0, 1, 3, 4, 5, 8, 10, 2, 6, 7, 9, 11, 12, 13, 14, 15, 16, 17, 18, 19]) (.leaf [0, 1, 3, 4, 5, 8, 10, 2, 6, 9, 7, 11, 12, 13, 14, 15, 16, 17, 18, 19]))) (.node 2 10 (.leaf [0, 1, 3, 4, 5, 8, 9, 2, 6, 7, 10, 11, 12, 13, 14, 15, 16, 17, 18, 19]) (.leaf [0, 1, 3, 4, 5, 8, 9, 10, 2, 6, 7, 11, 12, 13, 14, 15, 16, 17, 18, 19])))) (.node 2 8 (.node 2 10 (.node 7 9 (.leaf [0, 1, 3, 4, 5, 6, 2, 7, 8, 9, 10, 11, 12, 13, 14, 15, 16, 17, 18, 19]) (.leaf [0, 1, 3, 4, 5, 6, 2, 8, 9, 7, 10, 11, 12, 13, 14, 15, 16, 17, 18, 19])) (.node 7 9 (.leaf [0, 1, 3, 4, 5, 6, 10, 2, 7, 8, 9, 11, 12, 13, 14, 15, 16, 17, 18, 19]) (.leaf [0, 1, 3, 4, 5, 6, 10, 2, 8, 9, 7, 11, 12, 13, 14, 15, 16, 17, 18, 19]))) (.node 2 9 (.node 2 10 (.node 7 9 (.leaf [0, 1, 3, 4, 5, 6, 8, 2, 7, 9, 10, 11, 12, 13, 14, 15, 16, 17, 18, 19]) (.leaf [0, 1, 3, 4, 5, 6, 8, 2, 9, 7, 10, 11, 12, 13, 14, 15, 16, 17, 18, 19])) (.node 7 9 (.leaf [0, 1, 3, 4, 5, 6, 8, 10, 2, 7, 9, 11, 12, 13, 14, 15, 16, 17, 18, 19]) (.leaf [0, 1, 3, 4, 5, 6, 8, 10, 2, 9, 7, 11, 12, 13, 14, 15, 16, 17, 18, 19]))) (.node 2 10 (.leaf [0, 1, 3, 4, 5, 6, 8, 9, 2, 7, 10, 11, 12, 13, 14, 15, 16, 17, 18, 19]) (.leaf [0, 1, 3, 4, 5, 6, 8, 9, 10, 2, 7, 11, 12, 13, 14, 15, 16, 17, 18, 19])))))))) (.node 2 3 (.node 2 8 (.node 2 10 (.node 0 7 (.node 7 9 (.leaf [1, 2, 0, 3, 4, 5, 6, 7, 8, 9, 10, 11, 12, 13, 14, 15, 16, 17, 18, 19]) (.leaf [1, 2, 0, 3, 4, 5, 6, 8, 9, 7, 10, 11, 12, 13, 14, 15, 16, 17, 18, 19])) (.node 7 9 (.leaf [1, 2, 3, 4, 5, 6, 7, 0, 8, 9, 10, 11, 12, 13, 14, 15, 16, 17, 18, 19]) (.leaf [1, 2, 3, 4, 5, 6, 8, 9, 7, 0, 10, 11, 12, 13, 14, 15, 16, 17, 18, 19]))) (.node 0 7 (.node 7 9 (.leaf [1, 10, 2, 0, 3, 4, 5, 6, 7, 8, 9, 11, 12, 13, 14, 15, 16, 17, 18, 19]) (.leaf [1, 10, 2, 0, 3, 4, 5, 6, 8, 9, 7, 11, 12, 13, 14, 15, 16, 17, 18, 19])) (.node 7 9 (.leaf [1, 10, 2, 3, 4, 5, 6, 7, 0, 8, 9, 11, 12, 13, 14, 15, 16, 17, 18, 19]) (.leaf [1, 10, 2, 3, 4, 5, 6, 8, 9, 7, 0, 11, 12, 13, 14, 15, 16, 17, 18, 19])))) (.node 2 9 (.node 2 10 (.node 0 7 (.node 7 9 (.leaf [1, 8, 2, 0, 3, 4, 5, 6, 7, 9, 10, 11, 12, 13, 14, 15, 16, 17, 18, 19]) (.leaf [1, 8, 2, 0, 3, 4, 5, 6, 9, 7, 10, 11, 12, 13, 14, 15, 16, 17, 18, 19])) (.node 7 9 (.leaf [1, 8, 2, 3, 4, 5, 6, 7, 0, 9, 10, 11, 12, 13, 14, 15, 16, 17, 18, 19]) (.leaf [1, 8, 2, 3, 4, 5, 6, 9, 7, 0, 10, 11, 12, 13, 14, 15, 16, 17, 18, 19]))) (.node 0 7 (.node 7 9 (.leaf [1, 8, 10, 2, 0, 3, 4, 5, 6, 7, 9, 11, 12, 13, 14, 15, 16, 17, 18, 19]) (.leaf [1, 8, 10, 2, 0, 3, 4, 5, 6, 9, 7, 11, 12, 13, 14, 15, 16, 17, 18, 19])) (.node 7 9 (.leaf [1, 8, 10, 2, 3, 4, 5, 6, 7, 0, 9, 11, 12, 13, 14, 15, 16, 17, 18, 19]) (.leaf [1, 8, 10, 2, 3, 4, 5, 6, 9, 7, 0, 11, 12, 13, 14, 15, 16, 17, 18, 19])))) (.node 2 10 (.node 0 7 (.leaf [1, 8, 9, 2, 0, 3, 4, 5, 6, 7, 10, 11, 12, 13, 14, 15, 16, 17, 18, 19]) (.leaf [1, 8, 9, 2, 3, 4, 5, 6, 7, 0, 10, 11, 12, 13, 14, 15, 16, 17, 18, 19])) (.node 0 7 (.leaf [1, 8, 9, 10, 2, 0, 3, 4, 5, 6, 7, 11, 12, 13, 14, 15, 16, 17, 18, 19]) (.leaf [1, 8, 9, 10, 2, 3, 4, 5, 6, 7, 0, 11, 12, 13, 14, 15, 16, 17, 18, 19]))))) (.node 2 4 (.node 2 8 (.node 2 10 (.node 0 7 (.node 7 9 (.leaf [1, 3, 2, 0, 4, 5, 6, 7, 8, 9, 10, 11, 12, 13, 14, 15, 16, 17, 18, 19]) (.leaf [1, 3, 2, 0, 4, 5, 6, 8, 9, 7, 10, 11, 12, 13, 14, 15, 16, 17, 18, 19])) (.node 7 9 (.leaf [1, 3, 2, 4, 5, 6, 7, 0, 8, 9, 10, 11, 12, 13, 14, 15, 16, 17, 18, 19]) (.leaf [1, 3, 2, 4, 5, 6, 8, 9, 7, 0, 10, 11, 12, 13, 14, 15, 16, 17, 18, 19]))) (.node 0 7 (.node 7 9 (.leaf [1, 3, 10, 2, 0, 4, 5, 6, 7, 8, 9, 11, 12, 13, 14, 15, 16, 17, 18, 19]) (.leaf [1, 3, 10, 2, 0, 4, 5, 6, 8, 9, 7, 11, 12, 13, 14, 15, 16, 17, 18, 19])) (.node 7 9 (.leaf [1, 3, 10, 2, 4, 5, 6, 7, 0, 8, 9, 11, 12, 13, 14, 15, 16, 17, 18, 19]) (.leaf [1, 3, 10, 2, 4, 5, 6, 8, 9, 7, 0, 11, 12, 13, 14, 15, 16, 17, 18, 19])))) (.node 2 9 (.node 2 10 (.node 0 7 (.node 7 9 (.leaf [1, 3, 8, 2, 0, 4, 5, 6, 7, 9, 10, 11, 12, 13, 14, 15, 16, 17, 18, 19]) (.leaf [1, 3, 8, 2, 0, 4, 5, 6, 9, 7, 10, 11, 12, 13, 14, 15, 16, 17, 18, 19])) (.node 7 9 (.leaf [1, 3, 8, 2, 4, 5, 6, 7, 0, 9, 10, 11, 12, 13, 14, 15, 16, 17, 18, 19]) (.leaf [1, 3, 8, 2, 4, 5, 6, 9, 7, 0, 10, 11, 12, 13, 14, 15, 16, 17, 18, 19]))) (.node 0 7 (.node 7 9 (.leaf [1, 3, 8, 10, 2, 0, 4, 5, 6, 7, 9, 11, 12, 13, 14, 15, 16, 17, 18, 19]) (.leaf [1, 3, 8, 10, 2, 0, 4, 5, 6, 9, 7, 11, 12, 13, 14, 15, 16, 17, 18, 19])) (.node 7 9 (.leaf [1, 3, 8, 10, 2, 4, 5, 6, 7, 0, 9, 11, 12, 13, 14, 15, 16, 17, 18, 19]) (.leaf [1, 3, 8, 10, 2, 4, 5, 6, 9, 7, 0, 11, 12, 13, 14, 15, 16, 17, 18, 19])))) (.node 2 10 (.node 0 7 (.leaf [1, 3, 8, 9, 2, 0, 4, 5, 6, 7, 10, 11, 12, 13, 14, 15, 16, 17, 18, 19]) (.leaf [1, 3, 8, 9, 2, 4, 5, 6, 7, 0, 10, 11, 12, 13, 14, 15, 16, 17, 18, 19])) (.node 0 7 (.leaf [1, 3, 8, 9, 10, 2, 0, 4, 5, 6, 7, 11, 12, 13, 14, 15, 16, 17, 18, 19]) (.leaf [1, 3, 8, 9, 10, 2, 4, 5, 6, 7, 0, 11, 12, 13, 14, 15, 16, 17, 18, 19]))))) (.node 2 5 (.node 2 8 (.node 2 10 (.node 0 7 (.node 7 9 (.leaf [1, 3, 4, 2, 0, 5, 6, 7, 8, 9, 10, 11, 12, 13, 14, 15, 16, 17, 18, 19]) (.leaf [1, 3, 4, 2, 0, 5, 6, 8, 9, 7, 10, 11, 12, 13, 14, 15, 16, 17, 18, 19])) (.node 7 9 (.leaf [1, 3, 4, 2, 5, 6, 7, 0, 8, 9, 10, 11, 12, 13, 14, 15, 16, 17, 18, 19]) (.leaf [1, 3, 4, 2, 5, 6, 8, 9, 7, 0, 10, 11, 12, 13, 14, 15, 16, 17, 18, 19]))) (.node 0 7 (.node 7 9 (.leaf [1, 3, 4, 10, 2, 0, 5, 6, 7, 8, 9, 11, 12, 13, 14, 15, 16, 17, 18, 19]) (.leaf [1, 3, 4, 10, 2, 0, 5, 6, 8, 9, 7, 11, 12, 13, 14, 15, 16, 17, 18, 19])) (.node 7 9 (.leaf [1, 3, 4, 10, 2, 5, 6, 7, 0, 8, 9, 11, 12, 13, 14, 15, 16, 17, 18, 19]) (.leaf [1, 3, 4, 10, 2, 5, 6, 8, 9, 7, 0, 11, 12, 13, 14, 15, 16, 17, 18, 19])))) (.node 2 9 (.node 2 10 (.node 0 7 (.node 7 9 (.leaf [1, 3, 4, 8, 2, 0, 5, 6, 7, 9, 10, 11, 12, 13, 14, 15, 16, 17, 18, 19]) (.leaf [1, 3, 4, 8, 2, 0, 5, 6, 9, 7, 10, 11, 12, 13, 14, 15, 16, 17, 18, 19])) (.node 7 9 (.leaf [1, 3, 4, 8, 2, 5, 6, 7, 0, 9, 10, 11, 12, 13, 14, 15, 16, 17, 18, 19]) (.leaf [1, 3, 4, 8, 2, 5, 6, 9, 7, 0, 10, 11, 12, 13, 14, 15, 16, 17, 18, 19]))) (.node 0 7 (.node 7 9 (.leaf [1, 3, 4, 8, 10, 2, 0, 5, 6, 7, 9, 11, 12, 13, 14, 15, 16, 17, 18, 19]) (.leaf [1, 3, 4, 8, 10, 2, 0, 5, 6, 9, 7, 11, 12, 13, 14, 15, 16, 17, 18, 19])) (.node 7 9 (.leaf [1, 3, 4, 8, 10, 2, 5, 6, 7, 0, 9, 11, 12, 13, 14, 15, 16, 17, 18, 19]) (.leaf [1, 3, 4, 8, 10, 2, 5, 6, 9, 7, 0, 11, 12, 13, 14, 15, 16, 17, 18, 19])))) (.node 2 10 (.node 0 7 (.leaf [1, 3, 4, 8, 9, 2, 0, 5, 6, 7, 10, 11, 12, 13, 14, 15, 16, 17, 18, 19]) (.leaf [1, 3, 4, 8, 9, 2, 5, 6, 7, 0, 10, 11, 12, 13, 14, 15, 16, 17, 18, 19])) (.node 0 7 (.leaf [1, 3, 4, 8, 9, 10, 2, 0, 5, 6, 7, 11, 12, 13, 14, 15, 16, 17, 18, 19]) (.leaf [1, 3, 4, 8, 9, 10, 2, 5, 6, 7, 0, 11, 12, 13, 14, 15, 16, 17, 18, 19]))))) (.node 2 6 (.node 2 8 (.node 2 10 (.node 0 7 (.node 7 9 (.leaf [1, 3, 4, 5, 2, 0, 6, 7, 8, 9, 10, 11, 12, 13, 14, 15, 16, 17, 18, 19]) (.leaf [1, 3, 4, 5, 2, 0, 6, 8, 9, 7, 10, 11, 12, 13, 14, 15, 16, 17, 18, 19])) (.node 7 9 (.leaf [1, 3, 4, 5, 2, 6, 7, 0, 8, 9, 10, 11, 12, 13, 14, 15, 16, 17, 18, 19]) (.leaf [1, 3, 4, 5, 2, 6, 8, 9, 7, 0, 10, 11, 12, 13, 14, 15, 16, 17, 18, 19]))) (.node 0 7 (.node 7 9 (.leaf [1, 3, 4, 5, 10, 2, 0, 6, 7, 8, 9, 11, 12, 13, 14, 15, 16, 17, 18, 19]) (.leaf [1, 3, 4, 5, 10, 2, 0, 6, 8, 9, 7, 11, 12, 13, 14, 15, 16, 17, 18, 19])) (.node 7 9 (.leaf [1, 3, 4, 5, 10, 2, 6, 7, 0, 8, 9, 11, 12, 13, 14, 15, 16, 17, 18, 19]) (.leaf [1, 3, 4, 5, 10, 2, 6, 8, 9, 7, 0, 11, 12, 13, 14, 15, 16, 17, 18, 19])))) (.node 2 9 (.node 2 10 (.node 0 7 (.node 7 9 (.leaf [1, 3, 4, 5, 8, 2, 0, 6, 7, 9, 10, 11, 12, 13, 14, 15, 16, 17, 18, 19]) (.leaf [1, 3, 4, 5, 8, 2, 0, 6, 9, 7, 10, 11, 12, 13, 14, 15, 16, 17, 18, 19])) (.node 7 9 (.leaf [1, 3, 4, 5, 8, 2, 6, 7, 0, 9, 10, 11, 12, 13, 14, 15, 16, 17, 18, 19]) (.leaf [1, 3, 4, 5, 8, 2, 6, 9, 7, 0, 10, 11, 12, 13, 14, 15, 16, 17, 18, 19]))) (.node 0 7 (.node 7 9 (.leaf [1, 3, 4, 5, 8, 10, 2, 0, 6, 7, 9, 11, 12, 13, 14, 15, 16, 17, 18, 19]) (.leaf [1, 3, 4, 5, 8, 10, 2, 0, 6, 9, 7, 11, 12, 13, 14, 15, 16, 17, 18, 19])) (.node 7 9 (.leaf [1, 3, 4, 5, 8, 10, 2, 6, 7, 0, 9, 11, 12, 13, 14, 15, 16, 17, 18, 19]) (.leaf [1, 3, 4, 5, 8, 10, 2, 6, 9, 7, 0, 11, 12, 13, 14, 15, 16, 17, 18, 19])))) (.node 2 10 (.node 0 7 (.leaf [1, 3, 4, 5, 8, 9, 2, 0, 6, 7, 10, 11, 12, 13, 14, 15, 16, 17, 18, 19]) (.leaf [1, 3, 4, 5, 8, 9, 2, 6, 7, 0, 10, 11, 12, 13, 14, 15, 16, 17, 18, 19])) (.node 0 7 (.leaf [1, 3, 4, 5, 8, 9, 10, 2, 0, 6, 7, 11, 12, 13, 14, 15, 16, 17, 18, 19]) (.leaf [1, 3, 4, 5, 8, 9, 10, 2, 6, 7, 0, 11, 12, 13, 14, 15, 16, 17, 18, 19]))))) (.node 2 8 (.node 2 10 (.node 0 7 (.node 7 9 (.leaf [1, 3, 4, 5, 6, 2, 0, 7, 8, 9, 10, 11, 12, 13, 14, 15, 16, 17, 18, 19]) (.leaf [1, 3, 4, 5, 6, 2, 0, 8, 9, 7, 10, 11, 12, 13, 14, 15, 16, 17, 18, 19])) (.node 7 9 (.leaf [1, 3, 4, 5, 6, 2, 7, 0, 8, 9, 10, 11, 12, 13, 14, 15, 16, 17, 18, 19]) (.leaf [1, 3, 4, 5, 6, 2, 8, 9, 7, 0, 10, 11, 12, 13, 14, 15, 16, 17, 18, 19]))) (.node 0 7 (.node 7 9 (.leaf [1, 3, 4, 5, 6, 10, 2, 0, 7, 8, 9, 11, 12, 13, 14, 15, 16, 17, 18, 19]) (.leaf [1, 3, 4, 5, 6, 10, 2, 0, 8, 9, 7, 11, 12, 13, 14, 15, 16, 17, 18, 19])) (.node 7 9 (.leaf [1, 3, 4, 5, 6, 10, 2, 7, 0, 8, 9, 11, 12, 13, 14, 15, 16, 17, 18, 19]) (.leaf [1, 3, 4, 5, 6, 10, 2, 8, 9, 7, 0, 11, 12, 13, 14, 15, 16, 17, 18, 19])))) (.node 2 9 (.node 2 10 (.node 0 7 (.node 7 9 (.leaf [1, 3, 4, 5, 6, 8, 2, 0, 7, 9, 10, 11, 12, 13, 14, 15, 16, 17, 18, 19]) (.leaf [1, 3, 4, 5, 6, 8, 2, 0, 9, 7, 10, 11, 12, 13, 14, 15, 16, 17, 18, 19])) (.node 7 9 (.leaf [1, 3, 4, 5, 6, 8, 2, 7, 0, 9, 10, 11, 12, 13, 14, 15, 16, 17, 18, 19]) (.leaf [1, 3, 4, 5, 6, 8, 2, 9, 7, 0, 10, 11, 12, 13, 14, 15, 16, 17, 18, 19]))) (.node 0 7 (.node 7 9 (.leaf [1, 3, 4, 5, 6, 8, 10, 2, 0, 7, 9, 11, 12, 13, 14, 15, 16, 17, 18, 19]) (.leaf [1, 3, 4, 5, 6, 8, 10, 2, 0, 9, 7, 11, 12, 13, 14, 15, 16, 17, 18, 19])) (.node 7 9 (.leaf [1, 3, 4, 5, 6, 8, 10, 2, 7, 0, 9, 11, 12, 13, 14, 15, 16, 17, 18, 19]) (.leaf [1, 3, 4, 5, 6, 8, 10, 2, 9, 7, 0, 11, 12, 13, 14, 15, 16, 17, 18, 19])))) (.node 2 10 (.node 0 7 (.leaf [1, 3, 4, 5, 6, 8, 9, 2, 0, 7, 10, 11, 12, 13, 14, 15, 16, 17, 18, 19]) (.leaf [1, 3, 4, 5, 6, 8, 9, 2, 7, 0, 10, 11, 12, 13, 14, 15, 16, 17, 18, 19])) (.node 0 7 (.leaf [1, 3, 4, 5, 6, 8, 9, 10, 2, 0, 7, 11, 12, 13, 14, 15, 16, 17, 18, 19]) (.leaf [1, 3, 4, 5, 6, 8, 9, 10, 2, 7, 0, 11, 12, 13, 14, 15, 16, 17, 18, 19])))))))))) [
   .op (some 18) none (.load true 4 (.t 4)),
   .op (some 19) none (.mov (.t 1)),
   .op (some 20) none (.call (.s [1344193]) (.c (.fn 21 [])) [.t 19]),
   .op (some 21) none (.mov (.t 2)),
   .op (some 22) none (.iaddr 1 (.t 21) (.c (.int .i64 (0)))),
   .op (some 23) none (.load false 1 (.t 22)),
   .op (some 24) none (.bsl 1 [.t 23]),
   .op (some 25) none (.append 1 8 (.t 20) (.t 24)),
   .op (some 26) none (.mov (.t 2)),
   .op (some 27) none (.slice false 1 (.t 26) (some (.c (.int .i64 (1)))) none),
   .op (some 28) none (.mov (.t 3)),
   .op (some 29) none (.call .f (.c (.fn 39 [])) [.t 18, .t 25, .t 27, .t 28]),
   .op (some 30) none (.mov (.t 29)),
   .op (some 31) (some (30, false)) (.load true 4 (.t 4)),
   .op (some 32) (some (30, false)) (.mov (.t 1)),
   .op (some 33) (some (30, false)) (.mov (.t 2)),
   .op (some 34) (some (30, false)) (.slice false 1 (.t 33) (some (.c (.int .i64 (1)))) none),
   .op (some 35) (some (30, false)) (.call .f (.c (.fn 39 [])) [.t 31, .t 32, .t 34, .c (.bool true)]),
   .op (some 36) none (.pick (.t 30) (.c (.bool true)) (.t 35)),
   .op (some 8) none (.mov (.t 36))])
   .ret)))))
def r_R2_shorter : List RVar := [.tmp 8]
def n_R2_shorter : Nat := 37
theorem k_R2_shorter : chkFn Go.Proofs.Try.prog 39 n_R2_shorter r_R2_shorter c_R2_shorter = true := by kernel_rfl
theorem f_R2_shorter (t : STask) (hv : SV t) : ∀ (tail head : List Int) (left : Bool), head.length + tail.length ≤ 1000 → (∀ x ∈ head, 0 ≤ x ∧ x < t.ops.length) → (∀ x ∈ tail, 0 ≤ x ∧ x < t.ops.length) →
    Fc Go.Proofs.Try.prog 39 [skV t, .sl .p (head.map i64V), .sl .p (tail.map i64V), .bool left] (.bool (shB t head tail left)) := by
  intro tail
  induction tail with
  | nil =>
    intro head left hl hh ht
    have hS := f_R1_Solves t hv head (by simp at hl; omega) hh
    simp only [shB]
    cases left
    all_goals
      refine Fn.step mixed k_R2_shorter ?_
      repeat' (first | refine i_len rfl ?_ | refine i_s rfl ?_ | refine i_lenm rfl rfl rfl ?_ | refine c_seq ?_ | refine c_cut0 ?_ | refine c_ops ?_ | refine i_nil ?_ | refine e_seq ?_ | refine e_block ?_ | refine c_block ?_ | refine c_skip ?_ | refine c_ret ?_ | refine c_exit ?_ | refine e_exit rfl ?_ | refine i_s0 rfl ?_ | refine c_leaf ?_ | refine i_gt rfl ?_ | refine i_gf rfl ?_ | refine i_gd rfl ?_ | refine c_t rfl ?_ | refine c_f rfl ?_ | refine i_conv rfl (by simp only [InR, List.length_map]; omega) ?_ | refine i_add rfl rfl (by simp only [InR, List.length_map]; omega) ?_ | refine i_sub rfl rfl (by simp only [InR, List.length_map]; omega) ?_ | refine i_ixm rfl rfl (by assumption) ?_ | refine i_iai rfl rfl (by omega) (by assumption) rfl ?_ | refine i_iam rfl rfl (by assumption) rfl ?_ | refine i_tk rfl rfl (by omega) ?_ | refine i_stb rfl ?_ | refine i_alloc rfl ?_ | refine i_box rfl rfl ?_ | refine i_nv rfl ?_ | refine c_node ?_ ?_ | refine i_g rfl (fun h => ?_) (fun h => ?_) | refine c_cond rfl (fun h => ?_) (fun h => ?_) | refine i_f rfl rfl (hS) rfl ?_)
      exact e_ret ⟨rfl, _, rfl, rfl⟩
  | cons x r ih =>
    intro head left hl hh ht
    have hxr := ht x (by simp)
    have hl' : (head ++ [x]).length + r.length ≤ 1000 := by simp at hl ⊢; omega
    have h1 := ih (head ++ [x]) left hl' (fun y hy => by
      rcases List.mem_append.1 hy with hy | hy
      · exact hh y hy
      · simp at hy; subst hy; exact hxr) (fun y hy => ht y (by simp [hy]))
    have h2 := ih head true (by simp at hl; omega) hh (fun y hy => ht y (by simp [hy]))
    rw [show V.sl .p ((head ++ [x]).map i64V) = .sl .p ((((head ++ [x]).map i64V).drop 0).take (head ++ [x]).length) from (msl_all rfl).symm] at h1
    simp only [shB]
    generalize shB t (head ++ [x]) r left = b1 at *
    generalize shB t head r true = b2 at *
    have hx0 : (x :: r)[(0 : Int).toNat]? = some x := rfl
    have hhl : head.length ≤ 1000 := by omega
    clear ih
    refine Fn.step mixed k_R2_shorter ?_
    repeat (first | refine i_len rfl ?_ | refine i_s rfl ?_ | refine i_lenm rfl rfl rfl ?_ | refine c_seq ?_ | refine c_cut0 ?_ | refine c_ops ?_ | refine i_nil ?_ | refine e_seq ?_ | refine e_block ?_ | refine c_block ?_ | refine c_skip ?_ | refine c_ret ?_ | refine c_exit ?_ | refine e_exit rfl ?_ | refine i_s0 rfl ?_ | refine c_leaf ?_ | refine i_gt rfl ?_ | refine i_gf rfl ?_ | refine i_gd rfl ?_ | refine c_t rfl ?_ | refine c_f rfl ?_ | refine i_conv rfl (by simp only [InR, List.length_map]; omega) ?_ | refine i_add rfl rfl (by simp only [InR, List.length_map]; omega) ?_ | refine i_sub rfl rfl (by simp only [InR, List.length_map]; omega) ?_ | refine i_ixm rfl rfl (by assumption) ?_ | refine i_iai rfl rfl (by omega) (by assumption) rfl ?_ | refine i_iam rfl rfl (by assumption) rfl ?_ | refine i_tk rfl rfl (by omega) ?_ | refine i_stb rfl ?_ | refine i_alloc rfl ?_ | refine i_box rfl rfl ?_ | refine i_nv rfl ?_)
    repeat' (refine c_node ?_ ?_)
    all_goals
      repeat (first | refine i_len rfl ?_ | refine i_s rfl ?_ | refine i_lenm rfl rfl rfl ?_ | refine c_seq ?_ | refine c_cut0 ?_ | refine c_ops ?_ | refine i_nil ?_ | refine e_seq ?_ | refine e_block ?_ | refine c_block ?_ | refine c_skip ?_ | refine c_ret ?_ | refine c_exit ?_ | refine e_exit rfl ?_ | refine i_s0 rfl ?_ | refine c_leaf ?_ | refine i_gt rfl ?_ | refine i_gf rfl ?_ | refine i_gd rfl ?_ | refine c_t rfl ?_ | refine c_f rfl ?_ | refine i_conv rfl (by simp only [InR, List.length_map]; omega) ?_ | refine i_add rfl rfl (by simp only [InR, List.length_map]; omega) ?_ | refine i_sub rfl rfl (by simp only [InR, List.length_map]; omega) ?_ | refine i_ixm rfl rfl (by assumption) ?_ | refine i_iai rfl rfl (by omega) (by assumption) rfl ?_ | refine i_iam rfl rfl (by assumption) rfl ?_ | refine i_tk rfl rfl (by omega) ?_ | refine i_stb rfl ?_ | refine i_alloc rfl ?_ | refine i_box rfl rfl ?_ | refine i_nv rfl ?_)
      first | refine i_dr (f := i64V) (l := x :: r) (k := 1) rfl rfl (by simp) (fun c => rfl) ?_ | skip
      repeat (first | refine i_len rfl ?_ | refine i_s rfl ?_ | refine i_lenm rfl rfl rfl ?_ | refine c_seq ?_ | refine c_cut0 ?_ | refine c_ops ?_ | refine i_nil ?_ | refine e_seq ?_ | refine e_block ?_ | refine c_block ?_ | refine c_skip ?_ | refine c_ret ?_ | refine c_exit ?_ | refine e_exit rfl ?_ | refine i_s0 rfl ?_ | refine c_leaf ?_ | refine i_gt rfl ?_ | refine i_gf rfl ?_ | refine i_gd rfl ?_ | refine c_t rfl ?_ | refine c_f rfl ?_ | refine i_conv rfl (by simp only [InR, List.length_map]; omega) ?_ | refine i_add rfl rfl (by simp only [InR, List.length_map]; omega) ?_ | refine i_sub rfl rfl (by simp only [InR, List.length_map]; omega) ?_ | refine i_ixm rfl rfl (by assumption) ?_ | refine i_iai rfl rfl (by omega) (by assumption) rfl ?_ | refine i_iam rfl rfl (by assumption) rfl ?_ | refine i_tk rfl rfl (by omega) ?_ | refine i_stb rfl ?_ | refine i_alloc rfl ?_ | refine i_box rfl rfl ?_ | refine i_nv rfl ?_)
      refine i_c rfl rfl rfl (ct_R1_Copy1 head (by omega) _ _ rfl fun nm h => restr_mem nm h) ?_
      rintro _ _ _ ⟨rfl, rfl, rfl⟩
      repeat (first | refine i_len rfl ?_ | refine i_s rfl ?_ | refine i_lenm rfl rfl rfl ?_ | refine c_seq ?_ | refine c_cut0 ?_ | refine c_ops ?_ | refine i_nil ?_ | refine e_seq ?_ | refine e_block ?_ | refine c_block ?_ | refine c_skip ?_ | refine c_ret ?_ | refine c_exit ?_ | refine e_exit rfl ?_ | refine i_s0 rfl ?_ | refine c_leaf ?_ | refine i_gt rfl ?_ | refine i_gf rfl ?_ | refine i_gd rfl ?_ | refine c_t rfl ?_ | refine c_f rfl ?_ | refine i_conv rfl (by simp only [InR, List.length_map]; omega) ?_ | refine i_add rfl rfl (by simp only [InR, List.length_map]; omega) ?_ | refine i_sub rfl rfl (by simp only [InR, List.length_map]; omega) ?_ | refine i_ixm rfl rfl (by assumption) ?_ | refine i_iai rfl rfl (by omega) (by assumption) rfl ?_ | refine i_iam rfl rfl (by assumption) rfl ?_ | refine i_tk rfl rfl (by omega) ?_ | refine i_stb rfl ?_ | refine i_alloc rfl ?_ | refine i_box rfl rfl ?_ | refine i_nv rfl ?_)
      first | refine i_dr (f := i64V) (l := x :: r) (k := 1) rfl rfl (by simp) (fun c => rfl) ?_ | skip
      repeat (first | refine i_len rfl ?_ | refine i_s rfl ?_ | refine i_lenm rfl rfl rfl ?_ | refine c_seq ?_ | refine c_cut0 ?_ | refine c_ops ?_ | refine i_nil ?_ | refine e_seq ?_ | refine e_block ?_ | refine c_block ?_ | refine c_skip ?_ | refine c_ret ?_ | refine c_exit ?_ | refine e_exit rfl ?_ | refine i_s0 rfl ?_ | refine c_leaf ?_ | refine i_gt rfl ?_ | refine i_gf rfl ?_ | refine i_gd rfl ?_ | refine c_t rfl ?_ | refine c_f rfl ?_ | refine i_conv rfl (by simp only [InR, List.length_map]; omega) ?_ | refine i_add rfl rfl (by simp only [InR, List.length_map]; omega) ?_ | refine i_sub rfl rfl (by simp only [InR, List.length_map]; omega) ?_ | refine i_ixm rfl rfl (by assumption) ?_ | refine i_iai rfl rfl (by omega) (by assumption) rfl ?_ | refine i_iam rfl rfl (by assumption) rfl ?_ | refine i_tk rfl rfl (by omega) ?_ | refine i_stb rfl ?_ | refine i_alloc rfl ?_ | refine i_box rfl rfl ?_ | refine i_nv rfl ?_)
      refine i_appmM [x] rfl rfl rfl rfl rfl (fun c hc => ⟨rfl, rfl⟩) (by simp only [List.length_singleton]; omega) (by simp only [List.length_singleton]; omega) ?_
      repeat (first | refine i_len rfl ?_ | refine i_s rfl ?_ | refine i_lenm rfl rfl rfl ?_ | refine c_seq ?_ | refine c_cut0 ?_ | refine c_ops ?_ | refine i_nil ?_ | refine e_seq ?_ | refine e_block ?_ | refine c_block ?_ | refine c_skip ?_ | refine c_ret ?_ | refine c_exit ?_ | refine e_exit rfl ?_ | refine i_s0 rfl ?_ | refine c_leaf ?_ | refine i_gt rfl ?_ | refine i_gf rfl ?_ | refine i_gd rfl ?_ | refine c_t rfl ?_ | refine c_f rfl ?_ | refine i_conv rfl (by simp only [InR, List.length_map]; omega) ?_ | refine i_add rfl rfl (by simp only [InR, List.length_map]; omega) ?_ | refine i_sub rfl rfl (by simp only [InR, List.length_map]; omega) ?_ | refine i_ixm rfl rfl (by assumption) ?_ | refine i_iai rfl rfl (by omega) (by assumption) rfl ?_ | refine i_iam rfl rfl (by assumption) rfl ?_ | refine i_tk rfl rfl (by omega) ?_ | refine i_stb rfl ?_ | refine i_alloc rfl ?_ | refine i_box rfl rfl ?_ | refine i_nv rfl ?_)
      first | refine i_dr (f := i64V) (l := x :: r) (k := 1) rfl rfl (by simp) (fun c => rfl) ?_ | skip
      repeat (first | refine i_len rfl ?_ | refine i_s rfl ?_ | refine i_lenm rfl rfl rfl ?_ | refine c_seq ?_ | refine c_cut0 ?_ | refine c_ops ?_ | refine i_nil ?_ | refine e_seq ?_ | refine e_block ?_ | refine c_block ?_ | refine c_skip ?_ | refine c_ret ?_ | refine c_exit ?_ | refine e_exit rfl ?_ | refine i_s0 rfl ?_ | refine c_leaf ?_ | refine i_gt rfl ?_ | refine i_gf rfl ?_ | refine i_gd rfl ?_ | refine c_t rfl ?_ | refine c_f rfl ?_ | refine i_conv rfl (by simp only [InR, List.length_map]; omega) ?_ | refine i_add rfl rfl (by simp only [InR, List.length_map]; omega) ?_ | refine i_sub rfl rfl (by simp only [InR, List.length_map]; omega) ?_ | refine i_ixm rfl rfl (by assumption) ?_ | refine i_iai rfl rfl (by omega) (by assumption) rfl ?_ | refine i_iam rfl rfl (by assumption) rfl ?_ | refine i_tk rfl rfl (by omega) ?_ | refine i_stb rfl ?_ | refine i_alloc rfl ?_ | refine i_box rfl rfl ?_ | refine i_nv rfl ?_ | refine i_f rfl rfl (h1) rfl ?_)
      refine i_g rfl (fun h => ?_) (fun h => ?_)
      · subst h
        repeat (first | refine i_len rfl ?_ | refine i_s rfl ?_ | refine i_lenm rfl rfl rfl ?_ | refine c_seq ?_ | refine c_cut0 ?_ | refine c_ops ?_ | refine i_nil ?_ | refine e_seq ?_ | refine e_block ?_ | refine c_block ?_ | refine c_skip ?_ | refine c_ret ?_ | refine c_exit ?_ | refine e_exit rfl ?_ | refine i_s0 rfl ?_ | refine c_leaf ?_ | refine i_gt rfl ?_ | refine i_gf rfl ?_ | refine i_gd rfl ?_ | refine c_t rfl ?_ | refine c_f rfl ?_ | refine i_conv rfl (by simp only [InR, List.length_map]; omega) ?_ | refine i_add rfl rfl (by simp only [InR, List.length_map]; omega) ?_ | refine i_sub rfl rfl (by simp only [InR, List.length_map]; omega) ?_ | refine i_ixm rfl rfl (by assumption) ?_ | refine i_iai rfl rfl (by omega) (by assumption) rfl ?_ | refine i_iam rfl rfl (by assumption) rfl ?_ | refine i_tk rfl rfl (by omega) ?_ | refine i_stb rfl ?_ | refine i_alloc rfl ?_ | refine i_box rfl rfl ?_ | refine i_nv rfl ?_)
        refine i_dr (f := i64V) (l := x :: r) (k := 1) rfl rfl (by simp) (fun c => rfl) ?_
        repeat (first | refine i_len rfl ?_ | refine i_s rfl ?_ | refine i_lenm rfl rfl rfl ?_ | refine c_seq ?_ | refine c_cut0 ?_ | refine c_ops ?_ | refine i_nil ?_ | refine e_seq ?_ | refine e_block ?_ | refine c_block ?_ | refine c_skip ?_ | refine c_ret ?_ | refine c_exit ?_ | refine e_exit rfl ?_ | refine i_s0 rfl ?_ | refine c_leaf ?_ | refine i_gt rfl ?_ | refine i_gf rfl ?_ | refine i_gd rfl ?_ | refine c_t rfl ?_ | refine c_f rfl ?_ | refine i_conv rfl (by simp only [InR, List.length_map]; omega) ?_ | refine i_add rfl rfl (by simp only [InR, List.length_map]; omega) ?_ | refine i_sub rfl rfl (by simp only [InR, List.length_map]; omega) ?_ | refine i_ixm rfl rfl (by assumption) ?_ | refine i_iai rfl rfl (by omega) (by assumption) rfl ?_ | refine i_iam rfl rfl (by assumption) rfl ?_ | refine i_tk rfl rfl (by omega) ?_ | refine i_stb rfl ?_ | refine i_alloc rfl ?_ | refine i_box rfl rfl ?_ | refine i_nv rfl ?_ | refine i_f rfl rfl (h2) rfl ?_)
        exact e_ret ⟨rfl, _, rfl, rfl⟩
      · subst h
        repeat (first | refine i_len rfl ?_ | refine i_s rfl ?_ | refine i_lenm rfl rfl rfl ?_ | refine c_seq ?_ | refine c_cut0 ?_ | refine c_ops ?_ | refine i_nil ?_ | refine e_seq ?_ | refine e_block ?_ | refine c_block ?_ | refine c_skip ?_ | refine c_ret ?_ | refine c_exit ?_ | refine e_exit rfl ?_ | refine i_s0 rfl ?_ | refine c_leaf ?_ | refine i_gt rfl ?_ | refine i_gf rfl ?_ | refine i_gd rfl ?_ | refine c_t rfl ?_ | refine c_f rfl ?_ | refine i_conv rfl (by simp only [InR, List.length_map]; omega) ?_ | refine i_add rfl rfl (by simp only [InR, List.length_map]; omega) ?_ | refine i_sub rfl rfl (by simp only [InR, List.length_map]; omega) ?_ | refine i_ixm rfl rfl (by assumption) ?_ | refine i_iai rfl rfl (by omega) (by assumption) rfl ?_ | refine i_iam rfl rfl (by assumption) rfl ?_ | refine i_tk rfl rfl (by omega) ?_ | refine i_stb rfl ?_ | refine i_alloc rfl ?_ | refine i_box rfl rfl ?_ | refine i_nv rfl ?_)
        exact e_ret ⟨rfl, _, rfl, rfl⟩
def c_R2_MinimalOf : Cmd :=
  (.seq
   (.ops [
   .op (some 2) none (.box 1152132 4 (.t 0)),
   .op (some 4) none (.mov (.c (.bool false)))])
   (.cut
   (.seq
   (.ops [
   .op (some 5) none (.load true 4 (.t 2)),
   .op (some 6) none (.mov (.t 1)),
   .op (some 7) none (.call .f (.c (.fn 39 [])) [.t 5, .c (.sl .nil []), .t 6, .c (.bool false)]),
   .op (some 8) none (.not (.t 7)),
   .op (some 4) none (.mov (.t 8))])
   .ret)))
def r_R2_MinimalOf : List RVar := [.tmp 4]
def n_R2_MinimalOf : Nat := 9
theorem k_R2_MinimalOf : chkFn Go.Proofs.Try.prog 18 n_R2_MinimalOf r_R2_MinimalOf c_R2_MinimalOf = true := by kernel_rfl
theorem f_R2_MinimalOf (t : STask) (hv : SV t) (plan : List Int) (hl : plan.length ≤ 1000) (hp : ∀ x ∈ plan, 0 ≤ x ∧ x < t.ops.length) : Fc Go.Proofs.Try.prog 18 [skV t, .sl .p (plan.map i64V)] (.bool (minB t plan)) := by
  have h := f_R2_shorter t hv plan [] false (by simpa using hl) (by simp) hp
  refine Fn.step mixed k_R2_MinimalOf ?_
  repeat (first | refine i_len rfl ?_ | refine i_s rfl ?_ | refine i_lenm rfl rfl rfl ?_ | refine c_seq ?_ | refine c_cut0 ?_ | refine c_ops ?_ | refine i_nil ?_ | refine e_seq ?_ | refine e_block ?_ | refine c_block ?_ | refine c_skip ?_ | refine c_ret ?_ | refine c_exit ?_ | refine e_exit rfl ?_ | refine i_s0 rfl ?_ | refine c_leaf ?_ | refine i_gt rfl ?_ | refine i_gf rfl ?_ | refine i_gd rfl ?_ | refine c_t rfl ?_ | refine c_f rfl ?_ | refine i_conv rfl (by simp only [InR, List.length_map]; omega) ?_ | refine i_add rfl rfl (by simp only [InR, List.length_map]; omega) ?_ | refine i_sub rfl rfl (by simp only [InR, List.length_map]; omega) ?_ | refine i_ixm rfl rfl (by assumption) ?_ | refine i_iai rfl rfl (by omega) (by assumption) rfl ?_ | refine i_iam rfl rfl (by assumption) rfl ?_ | refine i_tk rfl rfl (by omega) ?_ | refine i_stb rfl ?_ | refine i_alloc rfl ?_ | refine i_box rfl rfl ?_ | refine i_nv rfl ?_ | refine i_f rfl rfl (h) rfl ?_)
  exact e_ret ⟨rfl, _, rfl, rfl⟩
end Hm
end

section
/- The law of minimal plans answers true. -/
namespace Hm
open Go
set_option maxRecDepth 100000
set_option maxHeartbeats 4000000
set_option linter.unusedSimpArgs false
set_option linter.unusedVariables false
def c_L1_PlansMinimalMatchesSpec : Cmd :=
  (.seq
   (.ops [
   .op (some 2) none (.box 256132 4 (.t 0)),
   .op (some 4) none (.mov (.c (.bool false)))])
   (.cut
   (.seq
   (.seq
   (.ops [
   .op (some 8) none (.call .f (.c (.fn 10 [])) []),
   .op (some 9) none (.not (.t 8))])
   (.cut
   (.cond (.t 9)
   (.seq
   (.ops [
   .op (some 4) none (.mov (.c (.bool false)))])
   .ret)
   .skip)))
   (.cut
   (.seq
   (.ops [
   .op (some 10) none (.load true 4 (.t 2)),
   .op (some 11) none (.mov (.t 1)),
   .op (some 12) none (.call .f (.c (.fn 12 [])) [.t 10, .t 11]),
   .op (some 5) none (.alloc 256322 (.agg [.int .i64 (0), .int .i64 (0)])),
   .op none none (.store 2 (.t 5) (.t 12))])
   (.cut
   (.seq
   (.seq
   (.ops [
   .op (some 13) none (.faddr 0 (.t 5)),
   .op (some 14) none (.load false 1 (.t 13)),
   .op (some 15) none (.bin .eql false [.i] (.t 14) (.c (.int .i64 (0)))),
   .op (some 16) none (.mov (.t 15)),
   .op (some 17) (some (16, true)) (.mov (.t 1)),
   .op (some 18) (some (16, true)) (.len false (.t 17)),
   .op (some 19) (some (16, true)) (.bin .gtr false [] (.t 18) (.c (.int .i64 (12)))),
   .op (some 20) none (.pick (.t 16) (.t 19) (.c (.bool false)))])
   (.cut
   (.cond (.t 20)
   (.ops [
   .op (some 21) none (.call .f (.c (.fn 16 [])) [.c (.int .i64 (10)), .c (.int .i64 (-8))]),
   .op none none (.store 2 (.t 5) (.t 21))])
   .skip)))
   (.cut
   (.seq
   (.ops [
   .op (some 23) none (.load true 4 (.t 2)),
   .op (some 24) none (.mov (.t 1)),
   .op (some 25) none (.call .f (.c (.fn 17 [])) [.t 23, .t 24]),
   .op (some 22) none (.mov (.t 25)),
   .op (some 26) none (.extract (.t 22) 0),
   .op (some 27) none (.extract (.t 22) 1),
   .op (some 7) none (.alloc 256450 (.agg [.int .i64 (0), .int .i64 (0)])),
   .op (some 6) none (.mov (.t 26)),
   .op none none (.store 2 (.t 7) (.t 27))])
   (.cut
   (.seq
   (.ops [
   .op (some 28) none (.load true 2 (.t 7)),
   .op (some 29) none (.load true 2 (.t 5)),
   .op (some 30) none (.bin .eql true [.i, .i] (.t 28) (.t 29)),
   .op (some 31) none (.mov (.t 30)),
   .op (some 32) (some (31, true)) (.mov (.t 6)),
   .op (some 33) (some (31, true)) (.faddr 0 (.t 5)),
   .op (some 34) (some (31, true)) (.load false 1 (.t 33)),
   .op (some 35) (some (31, true)) (.bin .eql false [.i] (.t 34) (.c (.int .i64 (0)))),
   .op (some 36) (some (31, true)) (.mov (.t 35)),
   .op (some 37) (some (36, true)) (.load true 4 (.t 2)),
   .op (some 38) (some (36, true)) (.mov (.t 1)),
   .op (some 39) (some (36, true)) (.call .f (.c (.fn 18 [])) [.t 37, .t 38]),
   .op (some 40) (some (31, true)) (.pick (.t 36) (.t 39) (.c (.bool false))),
   .op (some 41) (some (31, true)) (.bin .eql false [.b] (.t 32) (.t 40)),
   .op (some 42) none (.pick (.t 31) (.t 41) (.c (.bool false))),
   .op (some 4) none (.mov (.t 42))])
   .ret)))))))))))
def r_L1_PlansMinimalMatchesSpec : List RVar := [.tmp 4]
def n_L1_PlansMinimalMatchesSpec : Nat := 43
theorem k_L1_PlansMinimalMatchesSpec : chkFn Go.Proofs.Try.prog 4 n_L1_PlansMinimalMatchesSpec r_L1_PlansMinimalMatchesSpec c_L1_PlansMinimalMatchesSpec = true := by kernel_rfl
theorem f_L1_PlansMinimalMatchesSpec (t : STask) (ho : SkOk t) (plan : List Int) (hl : plan.length ≤ 140737488355328) : Fc Go.Proofs.Try.prog 4 [skV t, .sl .p (plan.map i64V)] (.bool true) := by
  have hT := f_L1_shortens
  have hS := f_R2_SolutionFault t ho plan hl
  by_cases hs : solF t plan = okF
  · obtain ⟨hb, hw⟩ := solF_ok hs
    obtain ⟨hv, h60, hr, _⟩ := plFault_ok hb
    rw [hs] at hS
    by_cases h12 : plan.length > 12
    · have e : minF t plan = ⟨10, -8⟩ := by unfold minF; rw [if_pos hs, if_pos h12]
      have h1 := f_plans_Minimal_bad t ho plan hl (by rw [e]; simp [okF])
      rw [e] at h1
      refine Fn.step mixed k_L1_PlansMinimalMatchesSpec ?_
      repeat' (first | refine i_len rfl ?_ | refine i_s rfl ?_ | refine i_lenm rfl rfl rfl ?_ | refine c_seq ?_ | refine c_cut0 ?_ | refine c_ops ?_ | refine i_nil ?_ | refine e_seq ?_ | refine e_block ?_ | refine c_block ?_ | refine c_skip ?_ | refine c_ret ?_ | refine c_exit ?_ | refine e_exit rfl ?_ | refine i_s0 rfl ?_ | refine c_leaf ?_ | refine i_gt rfl ?_ | refine i_gf rfl ?_ | refine i_gd rfl ?_ | refine c_t rfl ?_ | refine c_f rfl ?_ | refine i_conv rfl (by simp only [InR, List.length_map]; omega) ?_ | refine i_add rfl rfl (by simp only [InR, List.length_map]; omega) ?_ | refine i_sub rfl rfl (by simp only [InR, List.length_map]; omega) ?_ | refine i_ixm rfl rfl (by assumption) ?_ | refine i_iai rfl rfl (by omega) (by assumption) rfl ?_ | refine i_iam rfl rfl (by assumption) rfl ?_ | refine i_tk rfl rfl (by omega) ?_ | refine i_stb rfl ?_ | refine i_alloc rfl ?_ | refine i_box rfl rfl ?_ | refine i_nv rfl ?_ | refine c_node ?_ ?_ | refine i_g rfl (fun h => ?_) (fun h => ?_) | refine c_cond rfl (fun h => ?_) (fun h => ?_) | refine i_f rfl rfl (hT) rfl ?_ | refine i_f rfl rfl (hS) rfl ?_ | refine i_f rfl rfl (h1) rfl ?_ | refine i_f rfl rfl (f_R1_At _ _) rfl ?_)
      all_goals first
        | (exfalso; clear hT hS h1 ho hv hr; simp at *; omega)
        | (refine e_ret ⟨rfl, _, rfl, congrArg V.bool ?_⟩; first | rfl | (simp; done))
    · have e : minF t plan = okF := by unfold minF; rw [if_pos hs, if_neg h12]
      have h1 := f_plans_Minimal_ok t ho plan e
      have h2 := f_R2_MinimalOf t hv plan (by omega) hr
      generalize minB t plan = mb at *
      refine Fn.step mixed k_L1_PlansMinimalMatchesSpec ?_
      repeat' (first | refine i_len rfl ?_ | refine i_s rfl ?_ | refine i_lenm rfl rfl rfl ?_ | refine c_seq ?_ | refine c_cut0 ?_ | refine c_ops ?_ | refine i_nil ?_ | refine e_seq ?_ | refine e_block ?_ | refine c_block ?_ | refine c_skip ?_ | refine c_ret ?_ | refine c_exit ?_ | refine e_exit rfl ?_ | refine i_s0 rfl ?_ | refine c_leaf ?_ | refine i_gt rfl ?_ | refine i_gf rfl ?_ | refine i_gd rfl ?_ | refine c_t rfl ?_ | refine c_f rfl ?_ | refine i_conv rfl (by simp only [InR, List.length_map]; omega) ?_ | refine i_add rfl rfl (by simp only [InR, List.length_map]; omega) ?_ | refine i_sub rfl rfl (by simp only [InR, List.length_map]; omega) ?_ | refine i_ixm rfl rfl (by assumption) ?_ | refine i_iai rfl rfl (by omega) (by assumption) rfl ?_ | refine i_iam rfl rfl (by assumption) rfl ?_ | refine i_tk rfl rfl (by omega) ?_ | refine i_stb rfl ?_ | refine i_alloc rfl ?_ | refine i_box rfl rfl ?_ | refine i_nv rfl ?_ | refine c_node ?_ ?_ | refine i_g rfl (fun h => ?_) (fun h => ?_) | refine c_cond rfl (fun h => ?_) (fun h => ?_) | refine i_f rfl rfl (hT) rfl ?_ | refine i_f rfl rfl (hS) rfl ?_ | refine i_f rfl rfl (h1) rfl ?_ | refine i_f rfl rfl (h2) rfl ?_ | refine i_f rfl rfl (f_R1_At _ _) rfl ?_)
      all_goals first
        | (exfalso; clear hT hS h1 h2 ho hv hr; simp at *; omega)
        | (refine e_ret ⟨rfl, _, rfl, congrArg V.bool ?_⟩; first | rfl | (simp; done))
  · have e : minF t plan = solF t plan := by unfold minF; rw [if_neg hs]
    have h1 := f_plans_Minimal_bad t ho plan hl (by rw [e]; exact hs)
    rw [e] at h1
    have hne : (solF t plan).code ≠ 0 := fun h => hs ((solF_code _ _).1 h)
    clear hs e
    generalize solF t plan = SF at *
    refine Fn.step mixed k_L1_PlansMinimalMatchesSpec ?_
    repeat' (first | refine i_len rfl ?_ | refine i_s rfl ?_ | refine i_lenm rfl rfl rfl ?_ | refine c_seq ?_ | refine c_cut0 ?_ | refine c_ops ?_ | refine i_nil ?_ | refine e_seq ?_ | refine e_block ?_ | refine c_block ?_ | refine c_skip ?_ | refine c_ret ?_ | refine c_exit ?_ | refine e_exit rfl ?_ | refine i_s0 rfl ?_ | refine c_leaf ?_ | refine i_gt rfl ?_ | refine i_gf rfl ?_ | refine i_gd rfl ?_ | refine c_t rfl ?_ | refine c_f rfl ?_ | refine i_conv rfl (by simp only [InR, List.length_map]; omega) ?_ | refine i_add rfl rfl (by simp only [InR, List.length_map]; omega) ?_ | refine i_sub rfl rfl (by simp only [InR, List.length_map]; omega) ?_ | refine i_ixm rfl rfl (by assumption) ?_ | refine i_iai rfl rfl (by omega) (by assumption) rfl ?_ | refine i_iam rfl rfl (by assumption) rfl ?_ | refine i_tk rfl rfl (by omega) ?_ | refine i_stb rfl ?_ | refine i_alloc rfl ?_ | refine i_box rfl rfl ?_ | refine i_nv rfl ?_ | refine c_node ?_ ?_ | refine i_g rfl (fun h => ?_) (fun h => ?_) | refine c_cond rfl (fun h => ?_) (fun h => ?_) | refine i_f rfl rfl (hT) rfl ?_ | refine i_f rfl rfl (hS) rfl ?_ | refine i_f rfl rfl (h1) rfl ?_)
    all_goals first
      | (exfalso; clear hT hS h1 ho; simp at *; done)
      | (exfalso; clear hT hS h1 ho; simp at *; omega)
      | (refine e_ret ⟨rfl, _, rfl, congrArg V.bool ?_⟩; first | rfl | (simp; done))
end Hm
end
