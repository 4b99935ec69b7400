/- Part T4PA of the proof. -/
import Derived.Test.YtkbiopblaggdoaaGreatDoorTPA
import Derived.Test.YtkbiopblaggdoaaGreatDoorT4A
set_option linter.unusedVariables false
set_option linter.unusedSimpArgs false
section
namespace Hm
open Go
set_option maxRecDepth 100000
set_option maxHeartbeats 1000000
def c_R1_In : Cmd :=
 (qS [qb 6 false]
 (.seq (.ops [qm 7 0, qm 8 1, qu 9 .geq [] 7 8, qm 10 9, qg 11 10 true (.mov (.t 0)), qg 12 10 true (.mov (.t 2)), qg 13 10 true (.bin .leq false [] (.t 11) (.t 12)), qq 14 (.pick (.t 10) (.t 13) (.c (.bool false))), qm 6 14]) .ret))
def r_R1_In : List RVar := [.tmp 6]
def n_R1_In : Nat := 15
theorem k_R1_In : chkFn Go.Proofs.Tryz.prog 17 n_R1_In r_R1_In c_R1_In = true := by kernel_rfl
theorem f_R1_In (x lo hi : Int) : Fc Go.Proofs.Tryz.prog 17 [.int .i64 x, .int .i64 lo, .int .i64 hi] (.bool (decide (lo ≤ x) && decide (x ≤ hi))) := by
  refine Fn.step mixed k_R1_In ?_
  repeat' (first | refine i_s rfl ?_ | refine sw ?_ | refine i_gt rfl ?_ | refine i_gf rfl ?_ | refine i_g rfl (fun h => ?_) (fun h => ?_))
  all_goals refine e_ret ⟨rfl, _, rfl, congrArg V.bool ?_⟩
  · have := of_decide_eq_true h; simp; omega
  · have := of_decide_eq_false h; simp; omega
def checkF (l : List Typ) (us : List Int) : Flt := if typesFault l = okF then (if us.any (badT l.length) = true then ⟨3, -2⟩ else okF) else typesFault l
def c_types_check : Cmd :=
 (qS [qq 4 (.alloc 7936258 (.agg [.int .i64 0, .int .i64 0]))]
 (qT (qS [qm 8 0, qk 9 23 [8], qq 5 (.alloc 7936322 (.agg [.int .i64 0, .int .i64 0])), qs 2 5 9]
 (qS [qL 10 2 5, qq 11 (.build [.int .i64 0, .int .i64 0] []), qq 12 (.bin .neq true [.i, .i] (.t 10) (.t 11))]
 (.cond (.t 12) (.seq (.ops [qL 13 2 5, qs 2 4 13]) .ret) .skip)))
 (qT (qS [qm 14 1, qn 15 14, qc 16 0]
 (.block 0 (.loop (qS [qu 17 .lss [] 16 15]
 (qT (.cond (.t 17) .skip (.exit 0))
 (qT (.block 1 (qS [qi 18 1 14 16, ql 19 1 18, qm 7 19]
 (qS [qm 20 7, qv 21 .lss [] 20 (-1), qm 22 21, qg 23 22 false (.mov (.t 7)), qg 24 22 false (.mov (.t 0)), qg 25 22 false (.len false (.t 24)), qg 26 22 false (.bin .geq false [] (.t 23) (.t 25)), qq 27 (.pick (.t 22) (.c (.bool true)) (.t 26))]
 (.cond (.t 27) (.seq (.ops [qq 28 (.build [.int .i64 0, .int .i64 0] [(0 , 1 , .c (.int .i64 3)), (1 , 1 , .c (.int .i64 (-2)))]), qs 2 4 28]) .ret) .skip))))
 (.ops [qv 29 .add [] 16 1, qm 16 29])))))))
 (.seq (.ops [qq 30 (.build [.int .i64 0, .int .i64 0] []), qs 2 4 30]) .ret))))
def r_types_check : List RVar := [.cell true 2 4]
def n_types_check : Nat := 31
theorem k_types_check : chkFn Go.Proofs.Tryz.prog 124 n_types_check r_types_check c_types_check = true := by kernel_rfl
theorem f_types_check (l : List Typ) (ho : TyOk l) (us : List Int) (hu : us.length ≤ 140737488355328) : Fc Go.Proofs.Tryz.prog 124 [.sl .p (l.map tyV), .sl .p (us.map i64V)] (ftV (checkF l us)) := by
  have hl := ho.1
  refine Fn.step mixed k_types_check ?_
  repeat' (first | refine i_len rfl ?_ | refine i_s rfl ?_ | refine sw ?_ | refine i_stb rfl ?_ | refine i_alloc rfl ?_ | refine c_cond rfl (fun h => ?_) (fun h => ?_) | refine sf rfl rfl (f_types_Validate _ ho) ?_ | fail)
  · have := ne_ok h
    exact e_ret ⟨rfl, _, rfl, congr_ft (by rw [checkF, if_neg this])⟩
  have h1 := eq_ok h
  clear h
  refine c_for us.length (fun k => [(0, .sl .p (l.map tyV)), (14, .sl .p (us.map i64V)), (4, .bptr 7936258 0), (15, .int .i64 us.length), (16, .int .i64 k)]) (fun _ => [(7936258, .box (ftV okF))]) (fun k => (us.take k).any (badT l.length) = false) (by simp) ft fun k hk hi => ?_
  repeat (first | refine i_s rfl ?_ | refine sw ?_)
  refine c_cond rfl (fun h => ?_) (fun h => ?_)
  · have hlt : k < us.length := by simpa using h
    obtain ⟨t, ht⟩ := get_some hlt
    clear h
    repeat' (first | refine i_len rfl ?_ | refine i_s rfl ?_ | refine sw ?_ | refine i_gt rfl ?_ | refine i_gf rfl ?_ | refine c_t rfl ?_ | refine ja rfl rfl ?_ | refine jd rfl rfl ?_ | refine i_stb rfl ?_ | (refine sp ?_ ?_ <;> try intro h) | fail)
    · refine e_ret ⟨rfl, _, rfl, congr_ft ?_⟩
      have : badT l.length t = true := by simp only [badT, List.length_map] at *; grind
      rw [checkF, if_pos h1, if_pos (List.any_eq_true.2 ⟨t, mem_get ht, this⟩)]
    · refine e_for hlt ?_ ft
      rw [take_succ_get ht, List.any_append, hi]
      try simp only [List.length_map] at h
      simp [badT]; grind
    · refine e_ret ⟨rfl, _, rfl, congr_ft ?_⟩
      have : badT l.length t = true := by simp only [badT, List.length_map] at *; grind
      rw [checkF, if_pos h1, if_pos (List.any_eq_true.2 ⟨t, mem_get ht, this⟩)]
  · have hge : ¬ k < us.length := by simpa using h
    rw [List.take_of_length_le (by omega)] at hi
    repeat' (first | refine i_s rfl ?_ | refine sw ?_ | refine i_stb rfl ?_)
    exact e_ret ⟨rfl, _, rfl, congr_ft (by rw [checkF, if_pos h1, hi]; rfl)⟩
theorem checkF_valid {l : List Typ} {us : List Int} (h : checkF l us = okF) : TyValid l ∧ ∀ a ∈ us, -1 ≤ a ∧ a < l.length := by
  unfold checkF at h
  split at h
  · rename_i h1
    refine ⟨typesFault_valid h1, fun a ha => ?_⟩
    split at h
    · cases h
    · rename_i h2
      rw [Bool.not_eq_true, List.any_eq_false] at h2
      have := h2 a ha
      simp [badT] at this
      omega
  · rename_i h1
    exact absurd h h1
theorem checkF_code (l : List Typ) (us : List Int) : (checkF l us).code = 0 ↔ checkF l us = okF := by
  refine ⟨fun h => ?_, fun h => by rw [h]; rfl⟩
  unfold checkF at h ⊢
  split at h
  · rename_i h1
    split at h
    · cases h
    · rename_i h2
      rw [if_pos h1, if_neg h2]
  · rename_i h1
    rw [if_neg h1, ← typesFault_code]
    exact h
def c_types_Sub : Cmd :=
 (qS [qb 6 false, qq 7 (.alloc 4480450 (.agg [.int .i64 0, .int .i64 0]))]
 (qT (qS [qm 9 0, qm 10 1, qm 11 2, qq 12 (.bsl 1 [.t 10, .t 11]), qk 13 124 [9, 12], qq 8 (.alloc 4480514 (.agg [.int .i64 0, .int .i64 0])), qs 2 8 13]
 (qS [qL 14 2 8, qq 15 (.build [.int .i64 0, .int .i64 0] []), qq 16 (.bin .neq true [.i, .i] (.t 14) (.t 15))]
 (.cond (.t 16) (.seq (.ops [qL 17 2 8, qb 6 false, qs 2 7 17]) .ret) .skip)))
 (.seq (.ops [qm 18 0, qm 19 1, qm 20 2, qk 21 125 [18, 19, 20], qq 22 (.build [.int .i64 0, .int .i64 0] []), qm 6 21, qs 2 7 22]) .ret)))
def r_types_Sub : List RVar := [.tmp 6, .cell true 2 7]
def n_types_Sub : Nat := 23
theorem k_types_Sub : chkFn Go.Proofs.Tryz.prog 70 n_types_Sub r_types_Sub c_types_Sub = true := by kernel_rfl
theorem f_types_Sub_bad (l : List Typ) (ho : TyOk l) (a b : Int) (hb : checkF l [a, b] ≠ okF) : Fc Go.Proofs.Tryz.prog 70 [.sl .p (l.map tyV), .int .i64 a, .int .i64 b] (.tup [.bool false, ftV (checkF l [a, b])]) := by
  refine Fn.step mixed k_types_Sub ?_
  repeat' (first | refine i_s rfl ?_ | refine sw ?_ | refine i_stb rfl ?_ | refine i_alloc rfl ?_ | refine c_cond rfl (fun h => ?_) (fun h => ?_) | refine sf rfl rfl (f_types_check l ho [a, b] (by simp)) ?_ | fail)
  · exact e_ret ⟨rfl, _, rfl, rfl⟩
  · exact absurd (eq_ok h) hb
theorem f_types_Sub_ok (l : List Typ) (ho : TyOk l) (a b : Int) (hb : checkF l [a, b] = okF) : Fc Go.Proofs.Tryz.prog 70 [.sl .p (l.map tyV), .int .i64 a, .int .i64 b] (.tup [.bool (subB l a b), ftV okF]) := by
  obtain ⟨hv, hr⟩ := checkF_valid hb
  have hra := hr a (by simp)
  refine Fn.step mixed k_types_Sub ?_
  repeat' (first | refine i_s rfl ?_ | refine sw ?_ | refine i_stb rfl ?_ | refine i_alloc rfl ?_ | refine c_cond rfl (fun h => ?_) (fun h => ?_) | refine sf rfl rfl (f_types_check l ho [a, b] (by simp)) ?_ | refine sf rfl rfl (f_types_Is l hv a b hra.1 hra.2) ?_ | fail)
  · exact absurd hb (ne_ok h)
  · exact e_ret ⟨rfl, _, rfl, rfl⟩
def c_L1_sub : Cmd :=
 (qS [qb 6 false]
 (qS [qm 10 0, qm 11 1, qm 12 2, qk 13 70 [10, 11, 12], qm 9 13, qq 14 (.extract (.t 9) 0), qq 15 (.extract (.t 9) 1), qq 8 (.alloc 1152514 (.agg [.int .i64 0, .int .i64 0])), qm 7 14, qs 2 8 15]
 (.seq (.ops [qf 16 0 8, ql 17 1 16, qv 18 .eql [.i] 17 0, qm 19 18, qg 20 19 true (.mov (.t 7)), qq 21 (.pick (.t 19) (.t 20) (.c (.bool false))), qm 6 21]) .ret)))
def r_L1_sub : List RVar := [.tmp 6]
def n_L1_sub : Nat := 22
theorem k_L1_sub : chkFn Go.Proofs.Tryz.prog 18 n_L1_sub r_L1_sub c_L1_sub = true := by kernel_rfl
theorem f_L1_sub (l : List Typ) (ho : TyOk l) (a b : Int) : Fc Go.Proofs.Tryz.prog 18 [.sl .p (l.map tyV), .int .i64 a, .int .i64 b] (.bool (decide (checkF l [a, b] = okF) && subB l a b)) := by
  by_cases hb : checkF l [a, b] = okF
  · refine Fn.step mixed k_L1_sub ?_
    repeat' (first | refine i_s rfl ?_ | refine sw ?_ | refine i_gt rfl ?_ | refine i_stb rfl ?_ | refine i_alloc rfl ?_ | refine sf rfl rfl (f_types_Sub_ok l ho a b hb) ?_ | fail)
    exact e_ret ⟨rfl, _, rfl, by simp [hb]; rfl⟩
  · have hc := checkF_code l [a, b]
    refine Fn.step mixed k_L1_sub ?_
    repeat' (first | refine i_s rfl ?_ | refine sw ?_ | refine i_stb rfl ?_ | refine i_alloc rfl ?_ | refine i_g rfl (fun h => ?_) (fun h => ?_) | refine sf rfl rfl (f_types_Sub_bad l ho a b hb) ?_ | fail)
    · exact absurd (hc.1 (by simpa using h)) hb
    · exact e_ret ⟨rfl, _, rfl, by simp [hb]; rfl⟩
end Hm
end
section
namespace Hm
open Go
theorem in_int {H : Type} {n : Nat} {d : DataW H} (h : wt Go.Proofs.Tryz.prog n 3 d) : ∃ m, dv d = .int .i64 m ∧ InR .i64 m := by
  obtain ⟨m, rfl, hm⟩ := wt_int Go.Proofs.Tryz.underlying3 h
  exact ⟨m, rfl, hm⟩
end Hm
end
