/- Part VPB of the proof. -/
import Derived.Test.YtkbiopblaggdoaaGreatDoorVPA
import Derived.ProofKit
import Derived.SizedLaws
import Derived.Carry
import Derived.Deep.Slices
import Derived.OpenShut
set_option linter.unusedVariables false
set_option linter.unusedSimpArgs false
section
namespace Hm
open Go
set_option maxRecDepth 100000
set_option maxHeartbeats 4000000
def c_R1_SameAtoms : Cmd :=
 (qS [qb 4 false]
 (qT (qS [qm 6 0, qn 7 6, qm 8 1, qn 9 8, qu 10 .neq [.i] 7 9]
 (.cond (.t 10) (.seq (.ops [qb 4 false]) .ret) .skip))
 (qT (qS [qc 5 0]
 (.block 0 (.loop (qT (qS [qm 11 5, qm 12 0, qn 13 12, qu 14 .lss [] 11 13]
 (.cond (.t 14) .skip (.exit 0)))
 (qT (.block 1 (qS [qm 17 0, qm 18 5, qi 19 2 17 18, qL 20 2 19, qm 21 1, qm 22 5, qi 23 2 21 22, qL 24 2 23, qk 25 88 [20, 24], qq 26 (.not (.t 25))]
 (.cond (.t 26) (.seq (.ops [qb 4 false]) .ret) .skip)))
 (.ops [qm 15 5, qv 16 .add [] 15 1, qm 5 16]))))))
 (.seq (.ops [qb 4 true]) .ret))))
def r_R1_SameAtoms : List RVar := [.tmp 4]
def n_R1_SameAtoms : Nat := 27
theorem k_R1_SameAtoms : chkFn PG 61 n_R1_SameAtoms r_R1_SameAtoms c_R1_SameAtoms = true := by kernel_rfl
theorem f_R1_SameAtomsR (a : List At) (hl : a.length ≤ 4398046511104) (ha : ∀ x ∈ a, AtOk x) : Fc PG 61 [.sl .p (a.map atV), .sl .p (a.map atV)] (.bool true) := by
 refine Fn.step mixed k_R1_SameAtoms ?_
 repeat' (first | refine i_len rfl ?_ | refine i_s rfl ?_ | refine sw ?_ | refine c_cond rfl (fun h => ?_) (fun h => ?_))
 all_goals first
  | (exfalso; simp at *; done)
  | skip
 refine c_for a.length (fun i => [(0, .sl .p (a.map atV)), (1, .sl .p (a.map atV)), (5, .int .i64 i)]) (fun _ => []) (fun _ => True) trivial ft fun i hi _ => ?_
 by_cases hlt : i < a.length
 · obtain ⟨x, hx⟩ := get_some hlt
   have hS := f_R1_SameAtom x x (ha x (mem_get hx)) (ha x (mem_get hx))
   rw [decide_eq_true rfl] at hS
   repeat' (first | refine i_len rfl ?_ | refine i_s rfl ?_ | refine sw ?_ | refine c_f rfl ?_ | refine ja rfl rfl ?_ | refine jd rfl rfl ?_ | refine c_cond rfl (fun h => ?_) (fun h => ?_) | refine sf rfl rfl hS ?_ | fail)
   all_goals first
    | (exact e_for hlt trivial ft)
    | (exfalso; clear hS; simp at *; done)
    | (exfalso; clear hS; simp at *; omega)
 · repeat' (first | refine i_len rfl ?_ | refine i_s rfl ?_ | refine sw ?_ | refine c_cond rfl (fun h => ?_) (fun h => ?_))
   all_goals first
    | exact e_ret ⟨rfl, _, rfl, rfl⟩
    | (exfalso; simp at *; done)
    | (exfalso; simp at *; omega)
def c_R1_SameLiterals : Cmd :=
 (qS [qb 4 false]
 (qT (qS [qm 6 0, qn 7 6, qm 8 1, qn 9 8, qu 10 .neq [.i] 7 9]
 (.cond (.t 10) (.seq (.ops [qb 4 false]) .ret) .skip))
 (qT (qS [qc 5 0]
 (.block 0 (.loop (qT (qS [qm 11 5, qm 12 0, qn 13 12, qu 14 .lss [] 11 13]
 (.cond (.t 14) .skip (.exit 0)))
 (qT (.block 1 (qS [qm 17 0, qm 18 5, qi 19 3 17 18, qf 20 0 19, ql 21 1 20, qm 22 1, qm 23 5, qi 24 3 22 23, qf 25 0 24, ql 26 1 25, qu 27 .neq [.b] 21 26, qm 28 27, qg 29 28 false (.mov (.t 0)), qg 30 28 false (.mov (.t 5)), qg 31 28 false (.iaddr 3 (.t 29) (.t 30)), qg 32 28 false (.faddr 1 (.t 31)), qg 33 28 false (.load true 2 (.t 32)), qg 34 28 false (.mov (.t 1)), qg 35 28 false (.mov (.t 5)), qg 36 28 false (.iaddr 3 (.t 34) (.t 35)), qg 37 28 false (.faddr 1 (.t 36)), qg 38 28 false (.load true 2 (.t 37)), qg 39 28 false (.call .f (.c (.fn 88 [])) [.t 33, .t 38]), qg 40 28 false (.not (.t 39)), qq 41 (.pick (.t 28) (.c (.bool true)) (.t 40))]
 (.cond (.t 41) (.seq (.ops [qb 4 false]) .ret) .skip)))
 (.ops [qm 15 5, qv 16 .add [] 15 1, qm 5 16]))))))
 (.seq (.ops [qb 4 true]) .ret))))
def r_R1_SameLiterals : List RVar := [.tmp 4]
def n_R1_SameLiterals : Nat := 42
theorem k_R1_SameLiterals : chkFn PG 62 n_R1_SameLiterals r_R1_SameLiterals c_R1_SameLiterals = true := by kernel_rfl
theorem f_R1_SameLiteralsR (a : List Lit) (hl : a.length ≤ 4398046511104) (ha : ∀ x ∈ a, AtOk x.at_) : Fc PG 62 [.sl .p (a.map litV), .sl .p (a.map litV)] (.bool true) := by
 refine Fn.step mixed k_R1_SameLiterals ?_
 repeat' (first | refine i_len rfl ?_ | refine i_s rfl ?_ | refine sw ?_ | refine c_cond rfl (fun h => ?_) (fun h => ?_))
 all_goals first
  | (exfalso; simp at *; done)
  | skip
 refine c_for a.length (fun i => [(0, .sl .p (a.map litV)), (1, .sl .p (a.map litV)), (5, .int .i64 i)]) (fun _ => []) (fun _ => True) trivial ft fun i hi _ => ?_
 by_cases hlt : i < a.length
 · obtain ⟨x, hx⟩ := get_some hlt
   have hS := f_R1_SameAtom x.at_ x.at_ (ha x (mem_get hx)) (ha x (mem_get hx))
   rw [decide_eq_true rfl] at hS
   repeat' (first | refine i_len rfl ?_ | refine i_s rfl ?_ | refine sw ?_ | refine i_gt rfl ?_ | refine i_gf rfl ?_ | refine c_t rfl ?_ | refine c_f rfl ?_ | refine ja rfl rfl ?_ | refine jd rfl rfl ?_ | (refine sp ?_ ?_ <;> try intro h) | refine sf rfl rfl hS ?_ | fail)
   all_goals first
    | (exact e_for hlt trivial ft)
    | (exfalso; clear hS; simp at *; done)
    | (exfalso; clear hS; simp at *; omega)
 · repeat' (first | refine i_len rfl ?_ | refine i_s rfl ?_ | refine sw ?_ | refine c_cond rfl (fun h => ?_) (fun h => ?_))
   all_goals first
    | exact e_ret ⟨rfl, _, rfl, rfl⟩
    | (exfalso; simp at *; done)
    | (exfalso; simp at *; omega)
def c_R1_sameSchema : Cmd :=
 (qS [qx 2 3840135 7 0, qx 3 3840199 7 1, qb 4 false]
 (qT (qS [qf 6 0 2, ql 7 1 6, qf 8 0 3, ql 9 1 8, qu 10 .neq [.s] 7 9, qm 11 10, qg 12 11 false (.faddr 6 (.t 2)), qg 13 11 false (.load false 1 (.t 12)), qg 14 11 false (.faddr 6 (.t 3)), qg 15 11 false (.load false 1 (.t 14)), qg 16 11 false (.bin .neq false [.i] (.t 13) (.t 15)), qq 17 (.pick (.t 11) (.c (.bool true)) (.t 16)), qm 18 17, qg 19 18 false (.faddr 1 (.t 2)), qg 20 18 false (.load false 1 (.t 19)), qg 21 18 false (.faddr 1 (.t 3)), qg 22 18 false (.load false 1 (.t 21)), qg 23 18 false (.call .f (.c (.fn 59 [])) [.t 20, .t 22]), qg 24 18 false (.not (.t 23)), qq 25 (.pick (.t 18) (.c (.bool true)) (.t 24)), qm 26 25, qg 27 26 false (.faddr 2 (.t 2)), qg 28 26 false (.load false 1 (.t 27)), qg 29 26 false (.len false (.t 28)), qg 30 26 false (.faddr 2 (.t 3)), qg 31 26 false (.load false 1 (.t 30)), qg 32 26 false (.len false (.t 31)), qg 33 26 false (.bin .neq false [.i] (.t 29) (.t 32)), qq 34 (.pick (.t 26) (.c (.bool true)) (.t 33))]
 (.cond (.t 34) (.seq (.ops [qb 4 false]) .ret) .skip))
 (qT (qS [qc 5 0]
 (.block 0 (.loop (qT (qS [qm 35 5, qf 36 2 2, ql 37 1 36, qn 38 37, qu 39 .lss [] 35 38]
 (.cond (.t 39) .skip (.exit 0)))
 (qT (.block 1 (qS [qf 42 2 2, ql 43 1 42, qm 44 5, qi 45 2 43 44, qL 46 2 45, qf 47 2 3, ql 48 1 47, qm 49 5, qi 50 2 48 49, qL 51 2 50, qq 52 (.bin .neq true [.i, .i] (.t 46) (.t 51))]
 (.cond (.t 52) (.seq (.ops [qb 4 false]) .ret) .skip)))
 (.ops [qm 40 5, qv 41 .add [] 40 1, qm 5 41]))))))
 (.seq (.ops [qf 53 3 2, ql 54 1 53, qf 55 3 3, ql 56 1 55, qk 57 62 [54, 56], qm 58 57, qg 59 58 true (.faddr 4 (.t 2)), qg 60 58 true (.load false 1 (.t 59)), qg 61 58 true (.faddr 4 (.t 3)), qg 62 58 true (.load false 1 (.t 61)), qg 63 58 true (.call .f (.c (.fn 61 [])) [.t 60, .t 62]), qq 64 (.pick (.t 58) (.t 63) (.c (.bool false))), qm 65 64, qg 66 65 true (.faddr 5 (.t 2)), qg 67 65 true (.load false 1 (.t 66)), qg 68 65 true (.faddr 5 (.t 3)), qg 69 65 true (.load false 1 (.t 68)), qg 70 65 true (.call .f (.c (.fn 61 [])) [.t 67, .t 69]), qq 71 (.pick (.t 65) (.t 70) (.c (.bool false))), qm 4 71]) .ret))))
def r_R1_sameSchema : List RVar := [.tmp 4]
def n_R1_sameSchema : Nat := 72
theorem k_R1_sameSchema : chkFn PG 60 n_R1_sameSchema r_R1_sameSchema c_R1_sameSchema = true := by kernel_rfl
theorem f_R1_sameSchemaR (s : Sch) (hs : SchOk s) : Fc PG 60 [schV s, schV s] (.bool true) := by
 have hI := f_R1_Ints s.types s.types (by have := hs.types; omega)
 rw [decide_eq_true rfl] at hI
 have hP := f_R1_SameLiteralsR s.pre (by have := hs.pre; omega) hs.preA
 have hA := f_R1_SameAtomsR s.add hs.add hs.addA
 have hD := f_R1_SameAtomsR s.del hs.del hs.delA
 have hdl := hs.diff
 refine Fn.step mixed k_R1_sameSchema ?_
 repeat' (first | refine i_len rfl ?_ | refine i_s rfl ?_ | refine sw ?_ | refine i_gt rfl ?_ | refine i_gf rfl ?_ | refine c_t rfl ?_ | refine i_box rfl rfl ?_ | (refine sp ?_ ?_ <;> try intro h) | refine sf rfl rfl hI ?_ | fail)
 all_goals first
  | (exfalso; clear hI hP hA hD; simp at *; done)
  | skip
 refine c_for s.diff.length (fun k => [(2, .bptr 3840135 0), (3, .bptr 3840199 0), (5, .int .i64 k)]) (fun _ => [(3840135, .box (schV s)), (3840199, .box (schV s))]) (fun _ => True) trivial ft fun k hk _ => ?_
 by_cases hlt : k < s.diff.length
 · obtain ⟨x, hx⟩ := get_some hlt
   clear hI hP hA hD
   repeat' (first | refine i_len rfl ?_ | refine i_s rfl ?_ | refine sw ?_ | refine ja rfl rfl ?_ | refine jd rfl rfl ?_ | refine c_cond rfl (fun h => ?_) (fun h => ?_))
   all_goals first
    | (exact e_for hlt trivial ft)
    | (exfalso; simp at *; done)
    | (exfalso; simp at *; omega)
 · clear hI
   repeat' (first | refine i_len rfl ?_ | refine i_s rfl ?_ | refine sw ?_ | refine i_gt rfl ?_ | refine c_cond rfl (fun h => ?_) (fun h => ?_) | refine sf rfl rfl hP ?_ | refine sf rfl rfl hA ?_ | refine sf rfl rfl hD ?_ | fail)
   all_goals first
    | exact e_ret ⟨rfl, _, rfl, rfl⟩
    | (exfalso; clear hP hA hD; simp at *; done)
    | (exfalso; clear hP hA hD; simp at *; omega)
def c_R1_SameDomain : Cmd :=
 (qS [qx 2 896134 6 0, qx 3 896198 6 1, qb 4 false]
 (qT (qS [qf 9 0 2, ql 10 1 9, qn 11 10, qf 12 0 3, ql 13 1 12, qn 14 13, qu 15 .neq [.i] 11 14, qm 16 15, qg 17 16 false (.faddr 1 (.t 2)), qg 18 16 false (.load false 1 (.t 17)), qg 19 16 false (.len false (.t 18)), qg 20 16 false (.faddr 1 (.t 3)), qg 21 16 false (.load false 1 (.t 20)), qg 22 16 false (.len false (.t 21)), qg 23 16 false (.bin .neq false [.i] (.t 19) (.t 22)), qq 24 (.pick (.t 16) (.c (.bool true)) (.t 23)), qm 25 24, qg 26 25 false (.faddr 2 (.t 2)), qg 27 25 false (.load false 1 (.t 26)), qg 28 25 false (.len false (.t 27)), qg 29 25 false (.faddr 2 (.t 3)), qg 30 25 false (.load false 1 (.t 29)), qg 31 25 false (.len false (.t 30)), qg 32 25 false (.bin .neq false [.i] (.t 28) (.t 31)), qq 33 (.pick (.t 25) (.c (.bool true)) (.t 32)), qm 34 33, qg 35 34 false (.faddr 3 (.t 2)), qg 36 34 false (.load false 1 (.t 35)), qg 37 34 false (.len false (.t 36)), qg 38 34 false (.faddr 3 (.t 3)), qg 39 34 false (.load false 1 (.t 38)), qg 40 34 false (.len false (.t 39)), qg 41 34 false (.bin .neq false [.i] (.t 37) (.t 40)), qq 42 (.pick (.t 34) (.c (.bool true)) (.t 41))]
 (.cond (.t 42) (.seq (.ops [qb 4 false]) .ret) .skip))
 (qT (qS [qc 5 0]
 (.block 0 (.loop (qT (qS [qm 43 5, qf 44 0 2, ql 45 1 44, qn 46 45, qu 47 .lss [] 43 46]
 (.cond (.t 47) .skip (.exit 0)))
 (qT (.block 1 (qS [qf 50 0 2, ql 51 1 50, qm 52 5, qi 53 2 51 52, qL 54 2 53, qf 55 0 3, ql 56 1 55, qm 57 5, qi 58 2 56 57, qL 59 2 58, qq 60 (.bin .neq true [.s, .i] (.t 54) (.t 59))]
 (.cond (.t 60) (.seq (.ops [qb 4 false]) .ret) .skip)))
 (.ops [qm 48 5, qv 49 .add [] 48 1, qm 5 49]))))))
 (qT (qS [qc 6 0]
 (.block 2 (.loop (qT (qS [qm 61 6, qf 62 1 2, ql 63 1 62, qn 64 63, qu 65 .lss [] 61 64]
 (.cond (.t 65) .skip (.exit 2)))
 (qT (.block 3 (qS [qf 68 1 2, ql 69 1 68, qm 70 6, qi 71 2 69 70, qL 72 2 71, qf 73 1 3, ql 74 1 73, qm 75 6, qi 76 2 74 75, qL 77 2 76, qq 78 (.bin .neq true [.s, .i] (.t 72) (.t 77))]
 (.cond (.t 78) (.seq (.ops [qb 4 false]) .ret) .skip)))
 (.ops [qm 66 6, qv 67 .add [] 66 1, qm 6 67]))))))
 (qT (qS [qc 7 0]
 (.block 4 (.loop (qT (qS [qm 79 7, qf 80 2 2, ql 81 1 80, qn 82 81, qu 83 .lss [] 79 82]
 (.cond (.t 83) .skip (.exit 4)))
 (qT (.block 5 (qS [qf 86 2 2, ql 87 1 86, qm 88 7, qi 89 2 87 88, qf 90 0 89, ql 91 1 90, qf 92 2 3, ql 93 1 92, qm 94 7, qi 95 2 93 94, qf 96 0 95, ql 97 1 96, qu 98 .neq [.s] 91 97, qm 99 98, qg 100 99 false (.faddr 2 (.t 2)), qg 101 99 false (.load false 1 (.t 100)), qg 102 99 false (.mov (.t 7)), qg 103 99 false (.iaddr 2 (.t 101) (.t 102)), qg 104 99 false (.faddr 1 (.t 103)), qg 105 99 false (.load false 1 (.t 104)), qg 106 99 false (.faddr 2 (.t 3)), qg 107 99 false (.load false 1 (.t 106)), qg 108 99 false (.mov (.t 7)), qg 109 99 false (.iaddr 2 (.t 107) (.t 108)), qg 110 99 false (.faddr 1 (.t 109)), qg 111 99 false (.load false 1 (.t 110)), qg 112 99 false (.call .f (.c (.fn 59 [])) [.t 105, .t 111]), qg 113 99 false (.not (.t 112)), qq 114 (.pick (.t 99) (.c (.bool true)) (.t 113))]
 (.cond (.t 114) (.seq (.ops [qb 4 false]) .ret) .skip)))
 (.ops [qm 84 7, qv 85 .add [] 84 1, qm 7 85]))))))
 (qT (qS [qc 8 0]
 (.block 6 (.loop (qT (qS [qm 115 8, qf 116 3 2, ql 117 1 116, qn 118 117, qu 119 .lss [] 115 118]
 (.cond (.t 119) .skip (.exit 6)))
 (qT (.block 7 (qS [qf 122 3 2, ql 123 1 122, qm 124 8, qi 125 7 123 124, qL 126 7 125, qf 127 3 3, ql 128 1 127, qm 129 8, qi 130 7 128 129, qL 131 7 130, qk 132 60 [126, 131], qq 133 (.not (.t 132))]
 (.cond (.t 133) (.seq (.ops [qb 4 false]) .ret) .skip)))
 (.ops [qm 120 8, qv 121 .add [] 120 1, qm 8 121]))))))
 (.seq (.ops [qf 134 4 2, ql 135 1 134, qf 136 4 3, ql 137 1 136, qk 138 61 [135, 137], qm 139 138, qg 140 139 true (.faddr 5 (.t 2)), qg 141 139 true (.load false 1 (.t 140)), qg 142 139 true (.faddr 5 (.t 3)), qg 143 139 true (.load false 1 (.t 142)), qg 144 139 true (.call .f (.c (.fn 62 [])) [.t 141, .t 143]), qq 145 (.pick (.t 139) (.t 144) (.c (.bool false))), qm 4 145]) .ret)))))))
def r_R1_SameDomain : List RVar := [.tmp 4]
def n_R1_SameDomain : Nat := 146
theorem k_R1_SameDomain : chkFn PG 14 n_R1_SameDomain r_R1_SameDomain c_R1_SameDomain = true := by kernel_rfl
theorem f_R1_SameDomainR (d : Dom) (hd : DoOk d) : Fc PG 14 [domV d, domV d] (.bool true) := by
 have hA := f_R1_SameAtomsR d.init hd.init.1 hd.init.2
 have hL := f_R1_SameLiteralsR d.goal (by have := hd.goal.1; omega) hd.goal.2
 have l0 := hd.types.1
 have l1 := hd.objects.1
 have l2 := hd.preds.1
 have l3 := hd.schemas.1
 refine Fn.step mixed k_R1_SameDomain ?_
 repeat' (first | refine i_len rfl ?_ | refine i_s rfl ?_ | refine sw ?_ | refine i_gt rfl ?_ | refine i_gf rfl ?_ | refine c_t rfl ?_ | refine i_box rfl rfl ?_ | (refine sp ?_ ?_ <;> try intro h) | fail)
 all_goals first
  | (exfalso; clear hA hL; simp at *; done)
  | skip
 refine c_for d.types.length (fun k => [(2, .bptr 896134 0), (3, .bptr 896198 0), (5, .int .i64 k)]) (fun _ => [(896134, .box (domV d)), (896198, .box (domV d))]) (fun _ => True) trivial ft fun k hk _ => ?_
 by_cases hlt : k < d.types.length
 · obtain ⟨x, hx⟩ := get_some hlt
   clear hA hL
   repeat' (first | refine i_len rfl ?_ | refine i_s rfl ?_ | refine sw ?_ | refine ja rfl rfl ?_ | refine jd rfl rfl ?_ | refine c_cond rfl (fun h => ?_) (fun h => ?_))
   all_goals first
    | (exact e_for hlt trivial ft)
    | (exfalso; simp at *; done)
    | (exfalso; simp at *; omega)
 repeat' (first | refine i_len rfl ?_ | refine i_s rfl ?_ | refine sw ?_ | refine c_cond rfl (fun h => ?_) (fun h => ?_))
 all_goals first
  | (exfalso; clear hA hL; simp at *; done)
  | (exfalso; clear hA hL; simp at *; omega)
  | skip
 refine c_for d.objects.length (fun k => [(2, .bptr 896134 0), (3, .bptr 896198 0), (6, .int .i64 k)]) (fun _ => [(896134, .box (domV d)), (896198, .box (domV d))]) (fun _ => True) trivial ft fun k hk _ => ?_
 by_cases hlt : k < d.objects.length
 · obtain ⟨x, hx⟩ := get_some hlt
   clear hA hL
   repeat' (first | refine i_len rfl ?_ | refine i_s rfl ?_ | refine sw ?_ | refine ja rfl rfl ?_ | refine jd rfl rfl ?_ | refine c_cond rfl (fun h => ?_) (fun h => ?_))
   all_goals first
    | (exact e_for hlt trivial ft)
    | (exfalso; simp at *; done)
    | (exfalso; simp at *; omega)
 repeat' (first | refine i_len rfl ?_ | refine i_s rfl ?_ | refine sw ?_ | refine c_cond rfl (fun h => ?_) (fun h => ?_))
 all_goals first
  | (exfalso; clear hA hL; simp at *; done)
  | (exfalso; clear hA hL; simp at *; omega)
  | skip
 refine c_for d.preds.length (fun k => [(2, .bptr 896134 0), (3, .bptr 896198 0), (7, .int .i64 k)]) (fun _ => [(896134, .box (domV d)), (896198, .box (domV d))]) (fun _ => True) trivial ft fun k hk _ => ?_
 by_cases hlt : k < d.preds.length
 · obtain ⟨x, hx⟩ := get_some hlt
   clear hA hL
   have hI := f_R1_Ints x.types x.types (by have := (hd.preds.2 x (mem_get hx)).2; omega)
   rw [decide_eq_true rfl] at hI
   repeat' (first | refine i_len rfl ?_ | refine i_s rfl ?_ | refine sw ?_ | refine i_gt rfl ?_ | refine i_gf rfl ?_ | refine c_t rfl ?_ | refine c_f rfl ?_ | refine ja rfl rfl ?_ | refine jd rfl rfl ?_ | (refine sp ?_ ?_ <;> try intro h) | refine sf rfl rfl hI ?_ | fail)
   all_goals first
    | (exact e_for hlt trivial ft)
    | (exfalso; clear hI; simp at *; done)
    | (exfalso; clear hI; simp at *; omega)
 repeat' (first | refine i_len rfl ?_ | refine i_s rfl ?_ | refine sw ?_ | refine c_cond rfl (fun h => ?_) (fun h => ?_))
 all_goals first
  | (exfalso; clear hA hL; simp at *; done)
  | (exfalso; clear hA hL; simp at *; omega)
  | skip
 refine c_for d.schemas.length (fun k => [(2, .bptr 896134 0), (3, .bptr 896198 0), (8, .int .i64 k)]) (fun _ => [(896134, .box (domV d)), (896198, .box (domV d))]) (fun _ => True) trivial ft fun k hk _ => ?_
 by_cases hlt : k < d.schemas.length
 · obtain ⟨x, hx⟩ := get_some hlt
   clear hA hL
   have hI := f_R1_sameSchemaR x (hd.schemas.2 x (mem_get hx))
   repeat' (first | refine i_len rfl ?_ | refine i_s rfl ?_ | refine sw ?_ | refine c_f rfl ?_ | refine ja rfl rfl ?_ | refine jd rfl rfl ?_ | refine c_cond rfl (fun h => ?_) (fun h => ?_) | refine sf rfl rfl hI ?_ | fail)
   all_goals first
    | (exact e_for hlt trivial ft)
    | (exfalso; clear hI; simp at *; done)
    | (exfalso; clear hI; simp at *; omega)
 · repeat' (first | refine i_len rfl ?_ | refine i_s rfl ?_ | refine sw ?_ | refine i_gt rfl ?_ | refine c_cond rfl (fun h => ?_) (fun h => ?_) | refine sf rfl rfl hA ?_ | refine sf rfl rfl hL ?_ | fail)
   all_goals first
    | exact e_ret ⟨rfl, _, rfl, rfl⟩
    | (exfalso; clear hA hL; simp at *; done)
    | (exfalso; clear hA hL; simp at *; omega)
end Hm
end
section
namespace Hm
open Go
mutual
def dv {H : Type} : DataW H → V
 | .lit (.bool b) => .bool b
 | .lit (.int k n) => .int k n
 | .lit (.string l) => .str l
 | .slice elems _ => .sl .p (dvL elems)
 | .agg parts => .agg (dvC parts)
 | .nil => .sl .p []
 | _ => .any
def dvL {H : Type} : List (DataW H) → List V
 | [] => []
 | d :: r => dv d :: dvL r
def dvC {H : Type} : List (DataW H) → List V
 | [] => []
 | d :: r => (dv d).cells ++ dvC r
end
theorem dvL_map {H : Type} : ∀ l : List (DataW H), dvL l = l.map dv
 | [] => rfl
 | d :: r => by simp only [dvL, List.map_cons, dvL_map r]
def lay (P : Program) : List Field → Nat → Option Nat
 | [], o => some o
 | f :: r, o => bif Nat.beq f.offset o then lay P r (o + P.cellsOf f.type) else none
def pl (P : Program) : Nat → TypeId → Bool
 | 0, _ => false
 | n + 1, t => match P.underlying t with
   | some .bool => true
   | some (.int _) => true
   | some .string => true
   | some (.slice e) => Nat.blt 0 (P.cellsOf e) && pl P n e
   | some (.struct fs) => (match lay P fs.toList 0 with
     | some m => Nat.beq m (P.cellsOf t)
     | none => false) && fs.toList.all fun f => pl P n f.type
   | some (.array len e) => Nat.beq (len * P.cellsOf e) (P.cellsOf t) && pl P n e
   | _ => false
def arrF (e : TypeId) (c i : Nat) : Field := { name := "", type := e, offset := i * c, embedded := false, tag := "", pkgPath := "", byteOffset := 0 }
theorem lay_arr {P : Program} {e : TypeId} : ∀ (len k : Nat), lay P ((List.range' k len).map (arrF e (P.cellsOf e))) (k * P.cellsOf e) = some ((k + len) * P.cellsOf e)
 | 0, k => rfl
 | len + 1, k => by
  simp only [List.range'_succ, List.map_cons, lay, arrF, Nat.beq_refl, cond_true]
  have := lay_arr (P := P) (e := e) len (k + 1)
  rw [Nat.succ_mul] at this
  rw [show k + (len + 1) = k + 1 + len from by omega]
  exact this
section
variable {H : Type} {enc : TypeId × Value → H} {P : Program} {w : World} {sp : Nat → Bool}
theorem fields_rep {S : Nat → Prop} {cs : List Value} : ∀ (fl : List Field) (ys : List (DataW H × List MemPlace)) (o m : Nat), lay P fl o = some m → m ≤ cs.length → ys.length = fl.length →
  (∀ (i : Nat) (f : Field) (y : DataW H × List MemPlace), fl[i]? = some f → ys[i]? = some y → ((cs.drop f.offset).take (P.cellsOf f.type)).length = (dv y.1).cells.length ∧
    ∀ (j : Nat) (v : V) (x : Value), (dv y.1).cells[j]? = some v → ((cs.drop f.offset).take (P.cellsOf f.type))[j]? = some x → RepP w S v x) →
  o ≤ m ∧ (dvC (ys.map (·.1))).length = m - o ∧ ∀ (j : Nat) (v : V) (x : Value), (dvC (ys.map (·.1)))[j]? = some v → cs[o + j]? = some x → RepP w S v x
 | [], [], o, m, hl, _, _, _ => by
  simp only [lay, Option.some.injEq] at hl
  subst hl
  exact ⟨Nat.le_refl _, by simp [dvC], fun j v x h => by simp [dvC] at h⟩
 | f :: fl, y :: ys, o, m, hl, hm, hlen, h => by
  simp only [lay] at hl
  cases hb : Nat.beq f.offset o with
  | false => rw [hb] at hl; cases hl
  | true =>
   rw [hb] at hl
   have ho := Nat.eq_of_beq_eq_true hb
   obtain ⟨h1, h2, h3⟩ := fields_rep fl ys (o + P.cellsOf f.type) m hl hm (by simpa using hlen) (fun i f y hf hy => h (i + 1) f y (by simpa using hf) (by simpa using hy))
   obtain ⟨k1, k2⟩ := h 0 f y rfl rfl
   rw [ho] at k1 k2
   have hk : (dv y.1).cells.length = P.cellsOf f.type := by
    rw [← k1, List.length_take, List.length_drop]; omega
   refine ⟨by omega, by simp only [List.map_cons, dvC, List.length_append, h2, hk]; omega, fun j v x hv hx => ?_⟩
   simp only [List.map_cons, dvC] at hv
   by_cases hj : j < P.cellsOf f.type
   · rw [List.getElem?_append_left (by omega)] at hv
     refine k2 j v x hv ?_
     rw [List.getElem?_take, if_pos hj, List.getElem?_drop]
     exact hx
   · rw [List.getElem?_append_right (by omega), hk] at hv
     exact h3 _ v x hv (by rw [show o + P.cellsOf f.type + (j - P.cellsOf f.type) = o + j from by omega]; exact hx)
 | [], _ :: _, _, _, _, _, hlen, _ => by simp at hlen
 | _ :: _, [], _, _, _, _, hlen, _ => by simp at hlen
theorem cells_get {w : World} {a : Addr} {n : Nat} {cs : List Value} (h : w.cells? 0 a n = some cs) : cs.length = n ∧ ∀ i, i < n → w.cell? (a.add i) = cs[i]? := by
 unfold World.cells? at h
 rw [if_pos (Nat.zero_le _)] at h
 exact ⟨by simpa using mapM_some_length h, fun i hi => mapM_some_get h i i (by simp [hi])⟩
theorem cell_lt {w : World} {a : Addr} {v : Value} (h : w.cell? a = some v) : a.block < w.heap.size ∧ a.spot = none := by
 unfold World.cell? at h
 split at h
 · rename_i c t fr hc
   refine ⟨(Array.getElem?_eq_some_iff.1 hc).1, ?_⟩
   cases hs : a.spot with
   | none => rfl
   | some _ => rw [hs] at h; simp at h
 · cases h
theorem trod_rep : ∀ (n : Nat) (t : TypeId) (fuel : Nat) (cs : List Value) (x : DataW H × List MemPlace), pl P n t = true → DataW.trod enc P w 0 sp true fuel t cs = some x →
  cs.length = (dv x.1).cells.length ∧ ∀ (i : Nat) (v : V) (y : Value), (dv x.1).cells[i]? = some v → cs[i]? = some y → RepP w (fun b => b < w.heap.size) v y
 | 0, t, fuel, cs, x, hp, _ => by cases hp
 | n + 1, t, fuel, cs, x, hp, h => by
  unfold pl at hp
  split at hp
  · rename_i ht
    obtain ⟨b, rfl, rfl⟩ := DataW.trod_bool ht h
    refine ⟨rfl, fun i v y hv hy => ?_⟩
    cases i with
    | zero => simp [dv, V.cells] at hv hy; subst hv hy; exact .bool b
    | succ i => simp at hy
  · rename_i k ht
    obtain ⟨m, rfl, rfl, _⟩ := DataW.trod_int ht h
    refine ⟨rfl, fun i v y hv hy => ?_⟩
    cases i with
    | zero => simp [dv, V.cells] at hv hy; subst hv hy; exact .int k m
    | succ i => simp at hy
  · rename_i ht
    obtain ⟨s, rfl, rfl, _⟩ := DataW.trod_string ht h
    refine ⟨rfl, fun i v y hv hy => ?_⟩
    cases i with
    | zero =>
     simp [dv, V.cells] at hv hy
     subst hv hy
     have := RepP.str (w := w) (S := fun b => b < w.heap.size) s.data.toList
     simpa using this
    | succ i => simp at hy
  · rename_i e ht
    simp only [Bool.and_eq_true] at hp
    obtain ⟨hc0, hpe⟩ := hp
    have hc : 0 < P.cellsOf e := by simpa [Nat.blt_eq] using hc0
    rcases Go.Deep.open_slice ht h with ⟨rfl, rfl⟩ | ⟨a, len, cap, m, q, D, Pl, rfl, _, hlc, _, hm, rfl, hcell⟩
    · refine ⟨rfl, fun i v y hv hy => ?_⟩
      cases i with
      | zero => simp [dv, V.cells] at hv hy; subst hv hy; exact .emp none 0
      | succ i => simp at hy
    · refine ⟨rfl, fun i v y hv hy => ?_⟩
      cases i with
      | succ i => simp at hy
      | zero =>
       simp only [dv, V.cells, List.getElem?_cons_zero, Option.some.injEq] at hv hy
       subst hv hy
       rw [dvL_map, List.map_map]
       cases len with
       | zero => exact .emp (some a) cap
       | succ len =>
        have hle : len + 1 ≤ m := by rw [hm]; split <;> omega
        have key : ∀ i, i < len + 1 → (∃ cs' : List Value, (∀ j, j < P.cellsOf e → w.cell? ((a.add (i * P.cellsOf e)).add j) = cs'[j]?) ∧ cs'.length = P.cellsOf e ∧ cs'.length = (dv (D i)).cells.length ∧
          ∀ (j : Nat) (v : V) (y : Value), (dv (D i)).cells[j]? = some v → cs'[j]? = some y → RepP w (fun b => b < w.heap.size) v y) := by
         intro i hi
         obtain ⟨cs', h1, h2⟩ := hcell i (by omega)
         obtain ⟨h3, h4⟩ := cells_get h1
         obtain ⟨h5, h6⟩ := trod_rep n e q cs' _ hpe h2
         exact ⟨cs', h4, h3, h5, h6⟩
        obtain ⟨cs0, k1, k2, _, _⟩ := key 0 (by omega)
        have k3 := k1 0 hc
        rw [List.getElem?_eq_getElem (by omega)] at k3
        obtain ⟨hblt, hspot⟩ := cell_lt k3
        simp only [Nat.zero_mul, Addr.add_zero'] at hblt hspot
        have hb : a.block < w.heap.size := hblt
        have hs : a.spot = none := hspot
        obtain ⟨b, off, spot⟩ := a
        simp only at hb hs
        subst hs
        have e1 : len + 1 = ((List.range (len + 1)).map (dv ∘ D)).length := by simp
        have goal : RepP w (fun b => b < w.heap.size) (.sl .p ((List.range (len + 1)).map (dv ∘ D))) (.slice (some ⟨b, off, none⟩) ((List.range (len + 1)).map (dv ∘ D)).length cap) := by
         refine .sl _ b off cap (P.cellsOf e) (fun i j => (w.cell? ⟨b, off + i * P.cellsOf e + j, none⟩).getD default) hb (by omega) (fun row hrow => ?_) (fun i j row v hr hv => ?_) (fun i j row v hr hv => ?_)
         · obtain ⟨i, hi, rfl⟩ := List.mem_map.1 hrow
           obtain ⟨cs', _, g1, g2, _⟩ := key i (List.mem_range.1 hi)
           show (dv (D i)).cells.length = _
           omega
         · rw [List.getElem?_map] at hr
           have hi : i < len + 1 := by
            have := (List.getElem?_eq_some_iff.1 (Option.map_eq_some_iff.1 hr).choose_spec.1).1
            simpa using this
           rw [List.getElem?_range hi] at hr
           simp only [Option.map_some, Option.some.injEq, Function.comp] at hr
           subst hr
           obtain ⟨cs', g0, g1, g2, g3⟩ := key i hi
           have hj := (List.getElem?_eq_some_iff.1 hv).1
           have := g0 j (by omega)
           simp only [Addr.add_lit] at this
           rw [this, List.getElem?_eq_getElem (by omega)]
           rfl
         · rw [List.getElem?_map] at hr
           have hi : i < len + 1 := by
            have := (List.getElem?_eq_some_iff.1 (Option.map_eq_some_iff.1 hr).choose_spec.1).1
            simpa using this
           rw [List.getElem?_range hi] at hr
           simp only [Option.map_some, Option.some.injEq, Function.comp] at hr
           subst hr
           obtain ⟨cs', g0, g1, g2, g3⟩ := key i hi
           have hj := (List.getElem?_eq_some_iff.1 hv).1
           have := g0 j (by omega)
           simp only [Addr.add_lit] at this
           rw [this, List.getElem?_eq_getElem (by omega)]
           exact g3 j v _ hv (by rw [List.getElem?_eq_getElem (by omega)]; rfl)
        rw [← e1] at goal
        exact goal
  · rename_i fs ht
    simp only [Bool.and_eq_true, List.all_eq_true] at hp
    obtain ⟨hlay, hall⟩ := hp
    split at hlay
    · rename_i m hm
      have hme := Nat.eq_of_beq_eq_true hlay
      obtain ⟨xs, q, _, rfl, hlen, hxl, hseg⟩ := DataW.trod_struct ht h
      obtain ⟨_, g1, g2⟩ := fields_rep (P := P) (w := w) (S := fun b => b < w.heap.size) (cs := cs) fs.toList xs 0 m hm (by omega) (by simpa using hxl) (fun i f y hf hy => by
       have hf' : fs[i]? = some f := by simpa using hf
       have := hseg i f hf'
       rw [hy] at this
       exact trod_rep n f.type q _ y (hall f (List.mem_of_getElem? hf)) this)
      refine ⟨by simp only [dv, V.cells, g1]; omega, fun i v y hv hy => g2 i v y (by simpa [dv, V.cells] using hv) (by simpa using hy)⟩
    · cases hlay
  · rename_i len e ht
    simp only [Bool.and_eq_true] at hp
    obtain ⟨hlay, hpe⟩ := hp
    have hme := Nat.eq_of_beq_eq_true hlay
    obtain ⟨xs, q, _, rfl, hlen, hxl, hseg⟩ := DataW.trod_array ht h
    have hla := lay_arr (P := P) (e := e) len 0
    rw [Nat.zero_mul, Nat.zero_add] at hla
    obtain ⟨_, g1, g2⟩ := fields_rep (P := P) (w := w) (S := fun b => b < w.heap.size) (cs := cs) _ xs 0 _ hla (by omega) (by simpa using hxl) (fun i f y hf hy => by
     have hi : i < len := by have := (List.getElem?_eq_some_iff.1 hy).1; omega
     rw [List.getElem?_map, List.getElem?_range' hi] at hf
     simp only [Option.map_some, Option.some.injEq, Nat.zero_add, Nat.one_mul] at hf
     subst hf
     have := hseg i hi
     rw [hy] at this
     exact trod_rep n e q _ y hpe this)
    refine ⟨by simp only [dv, V.cells, g1]; omega, fun i v y hv hy => g2 i v y (by simpa [dv, V.cells] using hv) (by simpa using hy)⟩
  · cases hp
theorem arg_rep {n base : Nat} {t : TypeId} {v : Value} {d : DataW H} {ps : List MemPlace} (hp : pl P n t = true) (hok : Value.okWide P w .any base t v) (h : DataW.Trod enc P w 0 sp true t v d ps) : RepP w (fun b => b < w.heap.size) (dv d) v := by
 obtain ⟨fuel, h⟩ := h
 obtain ⟨h1, h2⟩ := trod_rep n t fuel _ _ hp h
 cases n with
 | zero => cases hp
 | succ n =>
  unfold pl at hp
  split at hp
  · rename_i ht
    obtain ⟨b, e, e2⟩ := DataW.trod_bool ht h
    injection e2 with e2 _
    subst e2
    cases v <;> simp [Value.okWide, ht, Cell.okWide, Cell.ok] at hok
    simp [Value.cells] at e
    subst e
    exact .bool _
  · rename_i k ht
    obtain ⟨m, e, e2, _⟩ := DataW.trod_int ht h
    injection e2 with e2 _
    subst e2
    cases v <;> simp [Value.okWide, ht, Cell.okWide, Cell.ok] at hok
    simp [Value.cells] at e
    obtain ⟨rfl, rfl⟩ := e
    exact .int _ _
  · rename_i ht
    obtain ⟨s, e, e2, _⟩ := DataW.trod_string ht h
    injection e2 with e2 _
    subst e2
    cases v <;> simp [Value.okWide, ht, Cell.okWide, Cell.ok] at hok
    simp [Value.cells] at e
    subst e
    exact h2 0 _ _ rfl rfl
  · rename_i e ht
    have hv : v.cells = #[v] := by
     cases v <;> first | rfl | (simp [Value.okWide, ht, Cell.okWide, Cell.ok] at hok)
    have hd : (dv d).cells = [dv d] := by
     rcases Go.Deep.open_slice ht h with ⟨_, e2⟩ | ⟨_, _, _, _, _, _, _, _, _, _, _, _, e2, _⟩ <;> (injection e2 with e2 _; subst e2; rfl)
    exact h2 0 _ _ (by rw [hd]; rfl) (by rw [hv]; rfl)
  · rename_i fs ht
    simp only [Value.okWide, ht] at hok
    obtain ⟨cs, rfl, _, _⟩ := hok
    obtain ⟨xs, q, _, e2, _⟩ := DataW.trod_struct ht h
    injection e2 with e2 _
    subst e2
    have := RepP.agg (w := w) (S := fun b => b < w.heap.size) (dvC (xs.map (·.1))) cs.toList (by
     have := h1
     simp only [dv, V.cells, Value.cells] at this
     exact this.symm) (fun i v x hv hx => h2 i v x (by simpa [dv, V.cells] using hv) (by simpa [Value.cells] using hx))
    simpa [dv] using this
  · rename_i len e ht
    simp only [Value.okWide, ht] at hok
    obtain ⟨cs, rfl, _, _⟩ := hok
    obtain ⟨xs, q, _, e2, _⟩ := DataW.trod_array ht h
    injection e2 with e2 _
    subst e2
    have := RepP.agg (w := w) (S := fun b => b < w.heap.size) (dvC (xs.map (·.1))) cs.toList (by
     have := h1
     simp only [dv, V.cells, Value.cells] at this
     exact this.symm) (fun i v x hv hx => h2 i v x (by simpa [dv, V.cells] using hv) (by simpa [Value.cells] using hx))
    simpa [dv] using this
  · cases hp
theorem args_rep {n base : Nat} : ∀ (ts : List TypeId) (vs : List Value) (ds : List (DataW H)) (ps : List MemPlace), ts.all (pl P n) = true → (∀ (j : Nat) t v, ts[j]? = some t → vs[j]? = some v → Value.okWide P w .any base t v) →
  DataW.TrodAll enc P w 0 sp true ts vs ds ps → Reps (RepP w (fun b => b < w.heap.size)) (ds.map dv) vs
 | [], [], [], _, _, _, _ => ⟨rfl, fun i v x h => by simp at h⟩
 | t :: ts, v :: vs, d :: ds, ps, hp, hok, h => by
  obtain ⟨p, q, h1, h2, _⟩ := h
  simp only [List.all_cons, Bool.and_eq_true] at hp
  have ih := args_rep ts vs ds q hp.2 (fun j t v ht hv => hok (j + 1) t v (by simpa using ht) (by simpa using hv)) h2
  refine ⟨by simpa using ih.1, fun i u x hu hx => ?_⟩
  cases i with
  | zero =>
   simp at hu hx
   subst hu hx
   exact arg_rep hp.1 (hok 0 t v rfl rfl) h1
  | succ i => exact ih.2 i u x (by simpa using hu) (by simpa using hx)
 | [], _ :: _, _, _, _, _, h => by simp [DataW.TrodAll] at h
 | [], [], _ :: _, _, _, _, h => by simp [DataW.TrodAll] at h
 | _ :: _, [], _, _, _, _, h => by simp [DataW.TrodAll] at h
 | _ :: _, _ :: _, [], _, _, _, h => by simp [DataW.TrodAll] at h
def wt (P : Program) {H : Type} : Nat → TypeId → DataW H → Prop
 | 0, _, _ => False
 | n + 1, t, d => match P.underlying t with
   | some .bool => ∃ b, d = .lit (.bool b)
   | some (.int k) => ∃ m, d = .lit (.int k m) ∧ (Lit.int k m).wf = true
   | some .string => ∃ l, d = .lit (.string l) ∧ l.length ≤ reachBytes
   | some (.slice e) => d = .nil ∨ ∃ elems spare, d = .slice elems spare ∧ elems.length * P.bytesOf e ≤ reachBytes ∧ ∀ x ∈ elems, wt P n e x
   | some (.struct fs) => ∃ parts, d = .agg parts ∧ parts.length = fs.size ∧ ∀ (i : Nat) (f : Field) (p : DataW H), fs[i]? = some f → parts[i]? = some p → wt P n f.type p
   | some (.array len e) => ∃ parts, d = .agg parts ∧ parts.length = len ∧ ∀ x ∈ parts, wt P n e x
   | _ => True
theorem weightsAll_mem {e : TypeId} : ∀ {l : List (DataW H)} {x : DataW H}, x ∈ l → ∀ n ∈ x.weights P e, n ∈ DataW.weightsAll P e l
 | d :: r, x, hx, n, hn => by
  simp only [DataW.weightsAll, List.mem_append]
  rcases List.mem_cons.1 hx with rfl | hx
  · exact .inl hn
  · exact .inr (weightsAll_mem hx n hn)
theorem trod_wt : ∀ (fuel : Nat) (t : TypeId) (cs : List Value) (x : DataW H × List MemPlace), DataW.trod enc P w 0 sp true fuel t cs = some x → (∀ n ∈ x.1.weights P t, n ≤ reachBytes) → wt P fuel t x.1
 | 0, t, cs, x, h, _ => by simp [DataW.trod] at h
 | fuel + 1, t, cs, x, h, hw => by
  unfold wt
  split
  · rename_i ht
    obtain ⟨b, _, rfl⟩ := DataW.trod_bool ht h
    exact ⟨b, rfl⟩
  · rename_i k ht
    obtain ⟨m, _, rfl, hm⟩ := DataW.trod_int ht h
    exact ⟨m, rfl, hm⟩
  · rename_i ht
    obtain ⟨s, _, rfl, _⟩ := DataW.trod_string ht h
    exact ⟨_, rfl, hw _ (by simp [DataW.weights])⟩
  · rename_i e ht
    rcases DataW.trod_slice ht h with ⟨_, rfl⟩ | ⟨a, len, cap, elems, rest, n, hn, _, rfl, _, _, _, hlen, hel, _, _⟩
    · exact .inl rfl
    · injection hn with hn
      subst hn
      refine .inr ⟨_, _, rfl, ?_, fun y hy => ?_⟩
      · have := hw ((elems.length + rest.length) * P.bytesOf e) (by simp [DataW.weights, ht])
        simp only [List.length_map]
        exact Nat.le_trans (Nat.mul_le_mul_right _ (Nat.le_add_right _ _)) this
      · obtain ⟨z, hz, rfl⟩ := List.mem_map.1 hy
        obtain ⟨i, hi, ez⟩ := List.getElem_of_mem hz
        have := hel i (by omega)
        rw [List.getElem?_eq_getElem hi, ez] at this
        obtain ⟨cs', h1, h2⟩ := Option.bind_eq_some_iff.1 this
        refine trod_wt fuel e cs' z h2 fun n hn => hw n ?_
        simp only [DataW.weights, ht, List.mem_cons, List.mem_append]
        exact .inr (.inl (weightsAll_mem hy n hn))
  · rename_i fs ht
    obtain ⟨xs, n, hn, rfl, _, hxl, hseg⟩ := DataW.trod_struct ht h
    injection hn with hn
    subst hn
    refine ⟨_, rfl, by simpa using hxl, fun i f p hf hp => ?_⟩
    rw [List.getElem?_map] at hp
    obtain ⟨z, hz, rfl⟩ := Option.map_eq_some_iff.1 hp
    have := hseg i f hf
    rw [hz] at this
    refine trod_wt fuel f.type _ z this fun n hn => hw n ?_
    simp only [DataW.weights, ht]
    exact DataW.weights_mem_each (j := i) (by rw [List.getElem?_map]; simp [hf]) (by rw [List.getElem?_map, hz]; rfl) n hn
  · rename_i len e ht
    obtain ⟨xs, n, hn, rfl, _, hxl, hseg⟩ := DataW.trod_array ht h
    injection hn with hn
    subst hn
    refine ⟨_, rfl, by simpa using hxl, fun y hy => ?_⟩
    obtain ⟨z, hz, rfl⟩ := List.mem_map.1 hy
    obtain ⟨i, hi, ez⟩ := List.getElem_of_mem hz
    have := hseg i (by omega)
    rw [List.getElem?_eq_getElem hi, ez] at this
    refine trod_wt fuel e _ z this fun n hn => hw n ?_
    simp only [DataW.weights, ht]
    exact weightsAll_mem hy n hn
  · trivial
theorem args_wt : ∀ (ts : List TypeId) (vs : List Value) (ds : List (DataW H)) (ps : List MemPlace), DataW.TrodAll enc P w 0 sp true ts vs ds ps → (∀ n ∈ DataW.weightsEach P ts ds, n ≤ reachBytes) →
  ds.length = ts.length ∧ ∀ (j : Nat) t d, ts[j]? = some t → ds[j]? = some d → ∃ n, wt P n t d
 | [], [], [], _, _, _ => ⟨rfl, fun j t d h => by simp at h⟩
 | t :: ts, v :: vs, d :: ds, ps, h, hw => by
  obtain ⟨p, q, ⟨fuel, h1⟩, h2, _⟩ := h
  have ih := args_wt ts vs ds q h2 (fun n hn => hw n (by simp only [DataW.weightsEach, List.mem_append]; exact .inr hn))
  refine ⟨by simpa using ih.1, fun j t' d' ht hd => ?_⟩
  cases j with
  | zero =>
   simp at ht hd
   subst ht hd
   exact ⟨fuel, trod_wt fuel t _ _ h1 fun n hn => hw n (by simp only [DataW.weightsEach, List.mem_append]; exact .inl hn)⟩
  | succ j => exact ih.2 j t' d' (by simpa using ht) (by simpa using hd)
 | [], _ :: _, _, _, h, _ => by simp [DataW.TrodAll] at h
 | [], [], _ :: _, _, h, _ => by simp [DataW.TrodAll] at h
 | _ :: _, [], _, _, h, _ => by simp [DataW.TrodAll] at h
 | _ :: _, _ :: _, [], _, h, _ => by simp [DataW.TrodAll] at h
end
section
variable {H : Type} {enc : TypeId × Value → H} {P : Program}
theorem below_all (hl : laidOutB P = true) {W W' : World} (hb : Go.RowKit.Below W.heap.size W W') : ∀ (ts : List TypeId) (vs : List Value) (ds : List (DataW H)) (ps : List MemPlace), (ts.all fun t => P.readableRec t && decide (t < P.types.size)) = true → (∀ x ∈ ps, x.block < W.heap.size) →
  DataW.TrodAll enc P W 0 (fun _ => true) true ts vs ds ps → DataW.TrodAll enc P W' 0 (fun b => decide (b < W.heap.size)) true ts vs ds ps
 | [], [], [], _, _, _, h => h
 | t :: ts, v :: vs, d :: ds, ps, hr, hlt, h => by
  obtain ⟨p, q, h1, h2, rfl⟩ := h
  simp only [List.all_cons, Bool.and_eq_true] at hr
  exact ⟨p, q, Go.RowKit.Below.trod hl hr.1.1 (of_decide_eq_true hr.1.2) h1 hb (fun x hx => hlt x (by simp [hx])), below_all hl hb ts vs ds q hr.2 (fun x hx => hlt x (by simp [hx])) h2, rfl⟩
 | [], _ :: _, _, _, _, _, h => by simp [DataW.TrodAll] at h
 | [], [], _ :: _, _, _, _, h => by simp [DataW.TrodAll] at h
 | _ :: _, [], _, _, _, _, h => by simp [DataW.TrodAll] at h
 | _ :: _, _ :: _, [], _, _, _, h => by simp [DataW.TrodAll] at h
end
theorem law_call {C : Checked} {f : FuncId} {fn : Func} {s : ChangeSpec} {H : Type} {enc : TypeId × Value → H} {tb : TypeId} {n : Nat}
  (hvars : s.vars = []) (hs : ∀ ds : List (DataW H), ds.length = fn.params.toList.length → (s.fn H (ds ++ [])).results = [.lit (.bool true)] ∧ (s.fn H (ds ++ [])).args = ds ∧ (s.fn H (ds ++ [])).vars = [])
  (hlaid : laidOutB C.prog = true) (hp : (fn.params.toList.all (pl C.prog n)) = true) (hr : (fn.params.toList.all fun t => C.prog.readableRec t && decide (t < C.prog.types.size)) = true)
  (hres : fn.resultTypes = #[tb]) (htb : C.prog.underlying tb = some .bool)
  (hc : ∀ ds : List (DataW H), ds.length = fn.params.toList.length → (∀ (j : Nat) t d, fn.params.toList[j]? = some t → ds[j]? = some d → ∃ n, wt C.prog n t d) → Fc C.prog f (ds.map dv) (.bool true))
  (W : World) (base : Nat) (args : Array Value) (ds gs : List (DataW H)) (before : List MemPlace)
  (hval : ∀ (j : Nat) t v, fn.params[j]? = some t → args[j]? = some v → Value.okWide C.prog W .any base t v)
  (hW : DataW.Whole enc C.prog fn.params.toList s.vars false W args.toList ds gs before)
  (hsz : (DataW.weightsEach C.prog (fn.params.toList ++ s.plain.varTypes C.prog) (ds ++ gs)).all (· ≤ reachBytes) = true)
  (hgl : ∀ p ∈ glb, ∃ (cs : List Value) (e : TypeId) (fr : Nat × Nat), W.heap[p.1]? = some (.cells cs.toArray e fr) ∧ p.2 cs) :
  Calls C.prog f args W fun e W' => ∃ v, e = .returned v ∧ s.post enc C.prog fn false true false false W args v W' := by
 have hW' := hW
 obtain ⟨p, q, hA, hV, hbe, hfz, hnd⟩ := hW
 rw [hvars] at hV
 have hg : gs = [] ∧ q = [] := by
  cases gs with
  | nil => exact ⟨rfl, by simpa [DataW.TrodVars] using hV⟩
  | cons g gs => simp [DataW.TrodVars] at hV
 obtain ⟨rfl, rfl⟩ := hg
 have hw : ∀ n ∈ DataW.weightsEach C.prog fn.params.toList ds, n ≤ reachBytes := by
  intro n hn
  have h1 := List.all_eq_true.1 hsz n
  have hlen : ds.length = fn.params.toList.length := by
   have : ∀ (ts : List TypeId) (vs : List Value) (ds : List (DataW H)) (ps : List MemPlace), DataW.TrodAll enc C.prog W 0 (fun _ => true) true ts vs ds ps → ds.length = ts.length := by
    intro ts
    induction ts with
    | nil => intro vs ds ps h; cases vs <;> cases ds <;> simp [DataW.TrodAll] at h ⊢
    | cons t ts ih =>
     intro vs ds ps h
     cases vs <;> cases ds <;> simp [DataW.TrodAll] at h ⊢
     obtain ⟨p, _, q, h2, _⟩ := h
     exact ih _ _ _ h2
   exact this _ _ _ _ hA
  have h2 : n ∈ DataW.weightsEach C.prog (fn.params.toList ++ s.plain.varTypes C.prog) (ds ++ []) := by
   have : ∀ (ts us : List TypeId) (ds : List (DataW H)), ds.length = ts.length → ∀ n ∈ DataW.weightsEach C.prog ts ds, n ∈ DataW.weightsEach C.prog (ts ++ us) ds := by
    intro ts
    induction ts with
    | nil => intro us ds h n hn; simp [DataW.weightsEach] at hn
    | cons t ts ih =>
     intro us ds h n hn
     cases ds with
     | nil => simp at h
     | cons d ds =>
      simp only [List.cons_append, DataW.weightsEach, List.mem_append] at hn ⊢
      rcases hn with hn | hn
      · exact .inl hn
      · exact .inr (ih us ds (by simpa using h) n hn)
   rw [List.append_nil]
   exact this _ _ _ hlen n hn
  exact of_decide_eq_true (h1 h2)
 obtain ⟨hdl, hwt⟩ := args_wt _ _ _ _ hA hw
 have hrep := args_rep (n := n) (base := base) _ _ _ _ hp (fun j t v ht hv => hval j t v (by simpa using ht) (by simpa using hv)) hA
 obtain ⟨_, hcall⟩ := (hc ds hdl hwt).out
 have hcw := callsIn_wide.1 (hcall W (fun b => b < W.heap.size) args.toList (fun b h => h) (fun p hp => by
  obtain ⟨cs, e, fr, h1, h2⟩ := hgl p hp
  exact ⟨(Array.getElem?_eq_some_iff.1 h1).1, cs, e, fr, h1, h2⟩) hrep)
 simp only [Array.toArray_toList] at hcw
 refine hcw.mono fun e W' ⟨x', S', he, hx, _, _, hgrow⟩ => ?_
 subst he
 cases hx
 have hb : Go.RowKit.Below W.heap.size W W' := ⟨hgrow.os, hgrow.tape, hgrow.output.1, hgrow.size, fun k hk => hgrow.same k hk⟩
 obtain ⟨s1, s2, s3⟩ := hs ds hdl
 refine ⟨_, rfl, ds, [], before, [], p, [], hW', ?_, ?_, ?_, ?_, fun h => by cases h⟩
 · rw [s1, hres]
   refine ⟨[], [], ⟨1, ?_⟩, rfl, rfl⟩
   unfold DataW.trod
   rw [htb]
   rfl
 · rw [s2]
   have hlt : ∀ x ∈ p, x.block < W.heap.size := fun x hx => hW'.lt x (by rw [hbe]; simp [hx])
   exact below_all hlaid hb _ _ _ _ hr hlt hA
 · rw [s3, hvars]; rfl
 · exact hb.frame _
end Hm
namespace Hm
open Go
section
variable {H : Type} {P : Program}
def wtE (P : Program) {H : Type} (n : Nat) : List TypeId → List (DataW H) → Prop
 | [], [] => True
 | t :: ts, d :: ds => wt P n t d ∧ wtE P n ts ds
 | _, _ => False
theorem wtE_of {n : Nat} : ∀ (ts : List TypeId) (ds : List (DataW H)), ds.length = ts.length → (∀ (i : Nat) (t : TypeId) (d : DataW H), ts[i]? = some t → ds[i]? = some d → wt P n t d) → wtE P n ts ds
 | [], [], _, _ => trivial
 | t :: ts, d :: ds, hl, h => ⟨h 0 t d rfl rfl, wtE_of ts ds (by simpa using hl) fun i t d h1 h2 => h (i + 1) t d (by simpa using h1) (by simpa using h2)⟩
 | [], _ :: _, hl, _ => by simp at hl
 | _ :: _, [], hl, _ => by simp at hl
theorem wt_st {n : Nat} {t : TypeId} {d : DataW H} {fs : Array Field} (ht : P.underlying t = some (.struct fs)) (h : wt P n t d) : ∃ parts m, d = .agg parts ∧ wtE P m (fs.toList.map (·.type)) parts := by
 cases n with
 | zero => exact h.elim
 | succ n =>
  simp only [wt, ht] at h
  obtain ⟨parts, rfl, hl, h⟩ := h
  refine ⟨parts, n, rfl, wtE_of _ _ (by simpa using hl) fun i t d h1 h2 => ?_⟩
  rw [List.getElem?_map] at h1
  obtain ⟨f, hf, rfl⟩ := Option.map_eq_some_iff.1 h1
  exact h i f d (by simpa using hf) h2
theorem wt_arr {n len : Nat} {t e : TypeId} {d : DataW H} (ht : P.underlying t = some (.array len e)) (h : wt P n t d) : ∃ parts m, d = .agg parts ∧ parts.length = len ∧ ∀ x ∈ parts, wt P m e x := by
 cases n with
 | zero => exact h.elim
 | succ n =>
  simp only [wt, ht] at h
  obtain ⟨parts, rfl, hl, h⟩ := h
  exact ⟨parts, n, rfl, hl, h⟩
theorem wt_int {n : Nat} {t : TypeId} {d : DataW H} (ht : P.underlying t = some (.int .i64)) (h : wt P n t d) : ∃ m, d = .lit (.int .i64 m) ∧ InR .i64 m := by
 cases n with
 | zero => exact h.elim
 | succ n =>
  simp only [wt, ht] at h
  obtain ⟨m, rfl, h⟩ := h
  refine ⟨m, rfl, ?_⟩
  simpa [Lit.wf, IntKind.min, IntKind.max, IntKind.signed, IntKind.bits, InR] using h
theorem wt_bool {n : Nat} {t : TypeId} {d : DataW H} (ht : P.underlying t = some .bool) (h : wt P n t d) : ∃ b, d = .lit (.bool b) := by
 cases n with
 | zero => exact h.elim
 | succ n => simpa only [wt, ht] using h
theorem wt_str {n : Nat} {t : TypeId} {d : DataW H} (ht : P.underlying t = some .string) (h : wt P n t d) : ∃ l, d = .lit (.string l) ∧ l.length ≤ 140737488351232 := by
 cases n with
 | zero => exact h.elim
 | succ n =>
  simp only [wt, ht] at h
  exact h
theorem ex_map {α : Type} {f : α → V} {Q : α → Prop} : ∀ (ds : List (DataW H)), (∀ d ∈ ds, ∃ a, dv d = f a ∧ Q a) → ∃ l : List α, dvL ds = l.map f ∧ l.length = ds.length ∧ ∀ a ∈ l, Q a
 | [], _ => ⟨[], rfl, rfl, fun a h => by cases h⟩
 | d :: ds, h => by
  obtain ⟨a, h1, h2⟩ := h d (by simp)
  obtain ⟨l, h3, h4, h5⟩ := ex_map ds fun x hx => h x (by simp [hx])
  refine ⟨a :: l, by simp only [dvL, List.map_cons, h1, h3], by simp [h4], fun b hb => ?_⟩
  rcases List.mem_cons.1 hb with rfl | hb
  · exact h2
  · exact h5 b hb
theorem wt_sl {α : Type} {f : α → V} {Q : α → Prop} {t e : TypeId} (ht : P.underlying t = some (.slice e)) (he : ∀ (n : Nat) (d : DataW H), wt P n e d → ∃ a, dv d = f a ∧ Q a) {n : Nat} {d : DataW H} (h : wt P n t d) :
  ∃ l : List α, dv d = .sl .p (l.map f) ∧ l.length * P.bytesOf e ≤ 140737488351232 ∧ ∀ a ∈ l, Q a := by
 cases n with
 | zero => exact h.elim
 | succ n =>
  simp only [wt, ht] at h
  rcases h with rfl | ⟨elems, spare, rfl, hl, h⟩
  · exact ⟨[], rfl, by simp, fun a h => by cases h⟩
  · obtain ⟨l, h1, h2, h3⟩ := ex_map elems fun x hx => he n x (h x hx)
    exact ⟨l, by simp only [dv, h1], by rw [h2]; exact hl, h3⟩
end
theorem in_Typ {H : Type} (n : Nat) (d : DataW H) (h : wt Go.Proofs.Tryz.prog n 83 d) : ∃ t : Typ, dv d = tyV t ∧ t.name.length ≤ 140737488351232 ∧ InR .i64 t.parent := by
 obtain ⟨parts, m, rfl, hp⟩ := wt_st Go.Proofs.Tryz.underlying83 h
 match parts, hp with
 | [d0, d1], hp =>
  obtain ⟨h0, h1, _⟩ := hp
  obtain ⟨s, rfl, hs⟩ := wt_str Go.Proofs.Tryz.underlying9 h0
  obtain ⟨k, rfl, hk⟩ := wt_int Go.Proofs.Tryz.underlying3 h1
  exact ⟨⟨s, k⟩, rfl, hs, hk⟩
theorem in_Obj {H : Type} (n : Nat) (d : DataW H) (h : wt Go.Proofs.Tryz.prog n 52 d) : ∃ t : Obj, dv d = obV t ∧ t.name.length ≤ 140737488351232 ∧ InR .i64 t.type := by
 obtain ⟨parts, m, rfl, hp⟩ := wt_st Go.Proofs.Tryz.underlying52 h
 match parts, hp with
 | [d0, d1], hp =>
  obtain ⟨h0, h1, _⟩ := hp
  obtain ⟨s, rfl, hs⟩ := wt_str Go.Proofs.Tryz.underlying9 h0
  obtain ⟨k, rfl, hk⟩ := wt_int Go.Proofs.Tryz.underlying3 h1
  exact ⟨⟨s, k⟩, rfl, hs, hk⟩
theorem by_Typ : Program.bytesOf Go.Proofs.Tryz.prog 83 = 24 := by kernel_rfl
theorem by_Obj : Program.bytesOf Go.Proofs.Tryz.prog 52 = 24 := by kernel_rfl
theorem in_Typs {H : Type} {n : Nat} {d : DataW H} (h : wt Go.Proofs.Tryz.prog n 22 d) : ∃ l : List Typ, dv d = .sl .p (l.map tyV) ∧ l.length ≤ 140737488355328 ∧ ∀ t ∈ l, t.name.length ≤ 140737488355328 := by
 obtain ⟨l, h1, h2, h3⟩ := wt_sl Go.Proofs.Tryz.underlying22 in_Typ h
 rw [by_Typ] at h2
 exact ⟨l, h1, by omega, fun t ht => by have := (h3 t ht).1; omega⟩
theorem in_Objs {H : Type} {n : Nat} {d : DataW H} (h : wt Go.Proofs.Tryz.prog n 23 d) : ∃ l : List Obj, dv d = .sl .p (l.map obV) ∧ l.length ≤ 140737488355328 ∧ ∀ t ∈ l, t.name.length ≤ 140737488355328 := by
 obtain ⟨l, h1, h2, h3⟩ := wt_sl Go.Proofs.Tryz.underlying23 in_Obj h
 rw [by_Obj] at h2
 exact ⟨l, h1, by omega, fun t ht => by have := (h3 t ht).1; omega⟩
theorem by_intD : Program.bytesOf Go.Proofs.Tryz.prog 3 = 8 := by kernel_rfl
theorem by_Pair : Program.bytesOf Go.Proofs.Tryz.prog 99 = 16 := by kernel_rfl
theorem by_Atom : Program.bytesOf Go.Proofs.Tryz.prog 49 = 32 := by kernel_rfl
theorem by_Lit : Program.bytesOf Go.Proofs.Tryz.prog 129 = 40 := by kernel_rfl
theorem by_Prd : Program.bytesOf Go.Proofs.Tryz.prog 67 = 40 := by kernel_rfl
theorem by_Sch : Program.bytesOf Go.Proofs.Tryz.prog 60 = 144 := by kernel_rfl
theorem in_Int1 {H : Type} (n : Nat) (d : DataW H) (h : wt Go.Proofs.Tryz.prog n 3 d) : ∃ m, dv d = i64V m ∧ InR .i64 m := by
 obtain ⟨m, rfl, hm⟩ := wt_int Go.Proofs.Tryz.underlying3 h
 exact ⟨m, rfl, hm⟩
theorem in_Ints {H : Type} {n : Nat} {d : DataW H} (h : wt Go.Proofs.Tryz.prog n 47 d) : ∃ l : List Int, dv d = .sl .p (l.map i64V) ∧ l.length ≤ 17592186044416 ∧ ∀ c ∈ l, InR .i64 c := by
 obtain ⟨l, h1, h2, h3⟩ := wt_sl Go.Proofs.Tryz.underlying47 in_Int1 h
 rw [by_intD] at h2
 exact ⟨l, h1, by omega, h3⟩
theorem in_Pair {H : Type} (n : Nat) (d : DataW H) (h : wt Go.Proofs.Tryz.prog n 99 d) : ∃ p : Int × Int, dv d = pairV p ∧ True := by
 obtain ⟨parts, m, rfl, hl, hp⟩ := wt_arr Go.Proofs.Tryz.underlying99 h
 match parts, hl with
 | [d0, d1], _ =>
  obtain ⟨x, rfl, _⟩ := wt_int Go.Proofs.Tryz.underlying3 (hp d0 (by simp))
  obtain ⟨y, rfl, _⟩ := wt_int Go.Proofs.Tryz.underlying3 (hp d1 (by simp))
  exact ⟨(x, y), rfl, trivial⟩
theorem in_Pairs {H : Type} {n : Nat} {d : DataW H} (h : wt Go.Proofs.Tryz.prog n 58 d) : ∃ l : List (Int × Int), dv d = .sl .p (l.map pairV) ∧ l.length ≤ 17592186044416 := by
 obtain ⟨l, h1, h2, h3⟩ := wt_sl Go.Proofs.Tryz.underlying58 in_Pair h
 rw [by_Pair] at h2
 exact ⟨l, h1, by omega⟩
theorem in_Atom {H : Type} (n : Nat) (d : DataW H) (h : wt Go.Proofs.Tryz.prog n 49 d) : ∃ a : At, dv d = atV a ∧ AtOk a := by
 obtain ⟨parts, m, rfl, hp⟩ := wt_st Go.Proofs.Tryz.underlying49 h
 match parts, hp with
 | [d0, d1], hp =>
  obtain ⟨h0, h1, _⟩ := hp
  obtain ⟨k, rfl, hk⟩ := wt_int Go.Proofs.Tryz.underlying3 h0
  obtain ⟨l, e1, b1, r1⟩ := in_Ints h1
  refine ⟨⟨k, l⟩, ?_, ⟨b1, r1, hk⟩⟩
  simp only [dv, dvC, V.cells, e1, List.append_nil, atV, List.cons_append, List.nil_append]
theorem in_Atoms {H : Type} {n : Nat} {d : DataW H} (h : wt Go.Proofs.Tryz.prog n 26 d) : ∃ l : List At, dv d = .sl .p (l.map atV) ∧ l.length ≤ 4398046511104 ∧ ∀ a ∈ l, AtOk a := by
 obtain ⟨l, h1, h2, h3⟩ := wt_sl Go.Proofs.Tryz.underlying26 in_Atom h
 rw [by_Atom] at h2
 exact ⟨l, h1, by omega, h3⟩
theorem in_Lit {H : Type} (n : Nat) (d : DataW H) (h : wt Go.Proofs.Tryz.prog n 129 d) : ∃ x : Lit, dv d = litV x ∧ AtOk x.at_ := by
 obtain ⟨parts, m, rfl, hp⟩ := wt_st Go.Proofs.Tryz.underlying129 h
 match parts, hp with
 | [d0, d1], hp =>
  obtain ⟨h0, h1, _⟩ := hp
  obtain ⟨b, rfl⟩ := wt_bool Go.Proofs.Tryz.underlying4 h0
  obtain ⟨a, e1, o1⟩ := in_Atom _ _ h1
  refine ⟨⟨b, a⟩, ?_, o1⟩
  simp only [dv, dvC, V.cells, e1, atV, List.append_nil, litV, List.cons_append, List.nil_append]
theorem in_Lits {H : Type} {n : Nat} {d : DataW H} (h : wt Go.Proofs.Tryz.prog n 27 d) : ∃ l : List Lit, dv d = .sl .p (l.map litV) ∧ l.length ≤ 3518437208883 ∧ ∀ x ∈ l, AtOk x.at_ := by
 obtain ⟨l, h1, h2, h3⟩ := wt_sl Go.Proofs.Tryz.underlying27 in_Lit h
 rw [by_Lit] at h2
 exact ⟨l, h1, by omega, h3⟩
theorem in_Prd {H : Type} (n : Nat) (d : DataW H) (h : wt Go.Proofs.Tryz.prog n 67 d) : ∃ p : Prd, dv d = prdV p ∧ (p.name.length ≤ 140737488355328 ∧ p.types.length ≤ 17592186044416) := by
 obtain ⟨parts, m, rfl, hp⟩ := wt_st Go.Proofs.Tryz.underlying67 h
 match parts, hp with
 | [d0, d1], hp =>
  obtain ⟨h0, h1, _⟩ := hp
  obtain ⟨s, rfl, hs⟩ := wt_str Go.Proofs.Tryz.underlying9 h0
  obtain ⟨l, e1, b1, r1⟩ := in_Ints h1
  refine ⟨⟨s, l⟩, ?_, by simp only; omega, b1⟩
  simp only [dv, dvC, V.cells, e1, List.append_nil, prdV, List.cons_append, List.nil_append]
theorem in_Prds {H : Type} {n : Nat} {d : DataW H} (h : wt Go.Proofs.Tryz.prog n 24 d) : ∃ l : List Prd, dv d = .sl .p (l.map prdV) ∧ l.length ≤ 140737488355328 ∧ ∀ p ∈ l, p.name.length ≤ 140737488355328 ∧ p.types.length ≤ 17592186044416 := by
 obtain ⟨l, h1, h2, h3⟩ := wt_sl Go.Proofs.Tryz.underlying24 in_Prd h
 rw [by_Prd] at h2
 exact ⟨l, h1, by omega, h3⟩
theorem in_Sch {H : Type} (n : Nat) (d : DataW H) (h : wt Go.Proofs.Tryz.prog n 60 d) : ∃ s : Sch, dv d = schV s ∧ SchOk s := by
 obtain ⟨parts, m, rfl, hp⟩ := wt_st Go.Proofs.Tryz.underlying60 h
 match parts, hp with
 | [d0, d1, d2, d3, d4, d5, d6], hp =>
  obtain ⟨h0, h1, h2, h3, h4, h5, h6, _⟩ := hp
  obtain ⟨s, rfl, hs⟩ := wt_str Go.Proofs.Tryz.underlying9 h0
  obtain ⟨l1, e1, b1, r1⟩ := in_Ints h1
  obtain ⟨l2, e2, b2⟩ := in_Pairs h2
  obtain ⟨l3, e3, b3, r3⟩ := in_Lits h3
  obtain ⟨l4, e4, b4, r4⟩ := in_Atoms h4
  obtain ⟨l5, e5, b5, r5⟩ := in_Atoms h5
  obtain ⟨k, rfl, hk⟩ := wt_int Go.Proofs.Tryz.underlying3 h6
  refine ⟨⟨s, l1, l2, l3, l4, l5, k⟩, ?_, ⟨by simp only; omega, b1, b2, b3, b4, b5, r3, r4, r5⟩⟩
  simp only [dv, dvC, V.cells, e1, e2, e3, e4, e5, List.append_nil, schV, List.cons_append, List.nil_append]
theorem in_Schs {H : Type} {n : Nat} {d : DataW H} (h : wt Go.Proofs.Tryz.prog n 25 d) : ∃ l : List Sch, dv d = .sl .p (l.map schV) ∧ l.length ≤ 140737488355328 ∧ ∀ s ∈ l, SchOk s := by
 obtain ⟨l, h1, h2, h3⟩ := wt_sl Go.Proofs.Tryz.underlying25 in_Sch h
 rw [by_Sch] at h2
 exact ⟨l, h1, by omega, h3⟩
theorem in_Dom {H : Type} {n : Nat} {d : DataW H} (h : wt Go.Proofs.Tryz.prog n 29 d) : ∃ x : Dom, dv d = domV x ∧ DoOk x := by
 obtain ⟨parts, m, rfl, hp⟩ := wt_st Go.Proofs.Tryz.underlying29 h
 match parts, hp with
 | [d0, d1, d2, d3, d4, d5], hp =>
  obtain ⟨h0, h1, h2, h3, h4, h5, _⟩ := hp
  obtain ⟨l0, e0, b0⟩ := in_Typs h0
  obtain ⟨l1, e1, b1⟩ := in_Objs h1
  obtain ⟨l2, e2, b2⟩ := in_Prds h2
  obtain ⟨l3, e3, b3⟩ := in_Schs h3
  obtain ⟨l4, e4, b4⟩ := in_Atoms h4
  obtain ⟨l5, e5, b5⟩ := in_Lits h5
  refine ⟨⟨l0, l1, l2, l3, l4, l5⟩, ?_, ⟨b0, b1, b2, b3, b4, b5⟩⟩
  simp only [dv, dvC, V.cells, e0, e1, e2, e3, e4, e5, List.append_nil, domV, List.cons_append, List.nil_append]
end Hm
end
