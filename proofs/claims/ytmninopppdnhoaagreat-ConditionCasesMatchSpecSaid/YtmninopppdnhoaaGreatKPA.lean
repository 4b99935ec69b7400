/- Part KPA of the proof. -/
import Derived.Test.YtmninopppdnhoaaGreatKC
import Derived.Test.YtmninopppdnhoaaGreatProg
import Derived.ProofKit
set_option linter.unusedVariables false
set_option linter.unusedSimpArgs false
section
namespace Hm
open Go
theorem mixed : Go.Proofs.Tryz.prog.follows .mixedOrders = true := by kernel_rfl
end Hm
end
section
namespace Hm
open Go
set_option maxRecDepth 100000
set_option maxHeartbeats 1000000
def c_R1_At : Cmd :=
 (qS [qq 4 (.alloc 1088258 (.agg [.int .i64 0, .int .i64 0]))]
 (.seq (.ops [qm 5 0, qm 6 1, qq 7 (.build [.int .i64 0, .int .i64 0] [(0 , 1 , .t 5), (1 , 1 , .t 6)]), qs 2 4 7]) .ret))
def r_R1_At : List RVar := [.cell true 2 4]
def n_R1_At : Nat := 8
theorem k_R1_At : chkFn Go.Proofs.Tryz.prog 17 n_R1_At r_R1_At c_R1_At = true := by kernel_rfl
theorem f_R1_At (c i : Int) : Fc Go.Proofs.Tryz.prog 17 [.int .i64 c, .int .i64 i] (.agg [.int .i64 c, .int .i64 i]) := by
  refine Fn.step mixed k_R1_At ?_
  repeat' (first | refine i_s rfl ?_ | refine sw ?_ | refine i_stb rfl ?_ | refine i_alloc rfl ?_)
  exact e_ret ⟨rfl, _, rfl, rfl⟩
end Hm
end
section
namespace Hm
open Go
set_option maxRecDepth 100000
set_option maxHeartbeats 4000000
def c_cmp_isNaN_int : Cmd :=
 (qS [qb 2 false]
 (.seq (.ops [qm 3 0, qm 4 0, qu 5 .neq [.i] 3 4, qm 2 5]) .ret))
def r_cmp_isNaN_int : List RVar := [.tmp 2]
def n_cmp_isNaN_int : Nat := 6
theorem k_cmp_isNaN_int : chkFn Go.Proofs.Tryz.prog 118 n_cmp_isNaN_int r_cmp_isNaN_int c_cmp_isNaN_int = true := by kernel_rfl
theorem f_isNaN_int (a : Int) : Fc Go.Proofs.Tryz.prog 118 [.int .i64 a] (.bool false) := by
  refine Fn.step mixed k_cmp_isNaN_int ?_
  repeat' (first | refine i_s rfl ?_ | refine sw ?_ | fail)
  all_goals first
    | exact e_ret ⟨rfl, _, rfl, congrArg V.bool (by simp)⟩
def c_cmp_Compare_int : Cmd :=
 (qS [qc 4 0]
 (qS [qm 7 0, qk 8 118 [7], qm 5 8]
 (qS [qm 9 1, qk 10 118 [9], qm 6 10]
 (qT (qS [qm 11 5]
 (.cond (.t 11) (qT (qS [qm 12 6]
 (.cond (.t 12) (.seq (.ops [qc 4 0]) .ret) .skip))
 (.seq (.ops [qc 4 (-1)]) .ret)) .skip))
 (qT (qS [qm 13 6]
 (.cond (.t 13) (.seq (.ops [qc 4 1]) .ret) .skip))
 (qT (qS [qm 14 0, qm 15 1, qu 16 .lss [] 14 15]
 (.cond (.t 16) (.seq (.ops [qc 4 (-1)]) .ret) .skip))
 (qT (qS [qm 17 0, qm 18 1, qu 19 .gtr [] 17 18]
 (.cond (.t 19) (.seq (.ops [qc 4 1]) .ret) .skip))
 (.seq (.ops [qc 4 0]) .ret))))))))
def r_cmp_Compare_int : List RVar := [.tmp 4]
def n_cmp_Compare_int : Nat := 20
theorem k_cmp_Compare_int : chkFn Go.Proofs.Tryz.prog 87 n_cmp_Compare_int r_cmp_Compare_int c_cmp_Compare_int = true := by kernel_rfl
theorem f_Compare_int (a b : Int) : Fc Go.Proofs.Tryz.prog 87 [.int .i64 a, .int .i64 b] (.int .i64 (signI a b)) := by
  refine Fn.step mixed k_cmp_Compare_int ?_
  repeat' (first | refine i_s rfl ?_ | refine sw ?_ | refine c_f rfl ?_ | refine c_cond rfl (fun h => ?_) (fun h => ?_) | refine sf rfl rfl (f_isNaN_int a) ?_ | refine sf rfl rfl (f_isNaN_int b) ?_ | fail)
  all_goals first
    | (exfalso; simp at *; done)
    | (refine e_ret ⟨rfl, _, rfl, congrArg (V.int .i64) ?_⟩; unfold signI; simp at *; (repeat' split) <;> omega)
def c_cmp_Or_int : Cmd :=
 (qS [qc 2 0]
 (qS [qc 3 0]
 (qT (qS [qm 6 0, qn 7 6, qc 8 0]
 (.block 0 (.loop (qS [qu 9 .lss [] 8 7]
 (qT (.cond (.t 9) .skip (.exit 0))
 (qT (.block 1 (qS [qi 10 1 6 8, ql 11 1 10, qm 5 11]
 (qS [qm 12 5, qm 13 3, qu 14 .neq [.i] 12 13]
 (.cond (.t 14) (.seq (.ops [qm 15 5, qm 2 15]) .ret) .skip))))
 (.ops [qv 16 .add [] 8 1, qm 8 16])))))))
 (.seq (.ops [qm 17 3, qm 2 17]) .ret))))
def r_cmp_Or_int : List RVar := [.tmp 2]
def n_cmp_Or_int : Nat := 18
theorem k_cmp_Or_int : chkFn Go.Proofs.Tryz.prog 86 n_cmp_Or_int r_cmp_Or_int c_cmp_Or_int = true := by kernel_rfl
theorem f_Or2 (a b : Int) : Fc Go.Proofs.Tryz.prog 86 [.sl .p ([a, b].map i64V)] (.int .i64 (if a ≠ 0 then a else b)) := by
  refine Fn.step mixed k_cmp_Or_int ?_
  repeat' (first | refine i_len rfl ?_ | refine i_s rfl ?_ | refine sw ?_ | fail)
  refine c_for 2 (fun k => [(6, .sl .p ([a, b].map i64V)), (7, .int .i64 2), (3, .int .i64 0), (8, .int .i64 k)]) (fun _ => []) (fun k => 0 < k → a = 0 ∧ (1 < k → b = 0)) (by simp) ft fun k hk hi => ?_
  have ha : ([a, b] : List Int)[0]? = some a := rfl
  have hb : ([a, b] : List Int)[1]? = some b := rfl
  have hk3 : k = 0 ∨ k = 1 ∨ k = 2 := by omega
  rcases hk3 with rfl | rfl | rfl
  · clear hi
    by_cases h0 : a = 0
    · repeat' (first | refine i_s rfl ?_ | refine sw ?_ | refine c_t rfl ?_ | refine ja rfl rfl ?_ | refine jd rfl rfl ?_ | refine c_cond rfl (fun h => ?_) (fun h => ?_))
      all_goals first
        | (exfalso; simp_all; done)
        | (exact e_for (by omega) (fun _ => ⟨h0, fun h => by omega⟩) ft)
    · rw [if_pos h0]
      repeat' (first | refine i_s rfl ?_ | refine sw ?_ | refine c_t rfl ?_ | refine ja rfl rfl ?_ | refine jd rfl rfl ?_ | refine c_cond rfl (fun h => ?_) (fun h => ?_))
      all_goals first
        | exact e_ret ⟨rfl, _, rfl, rfl⟩
        | (exfalso; simp_all; done)
  · obtain ⟨h0, _⟩ := hi (by omega)
    rw [if_neg (by simp [h0])]
    clear hi
    by_cases h1 : b = 0
    · repeat' (first | refine i_s rfl ?_ | refine sw ?_ | refine c_t rfl ?_ | refine ja rfl rfl ?_ | refine jd rfl rfl ?_ | refine c_cond rfl (fun h => ?_) (fun h => ?_))
      all_goals first
        | (exfalso; simp_all; done)
        | (exact e_for (by omega) (fun _ => ⟨h0, fun h => h1⟩) ft)
    · repeat' (first | refine i_s rfl ?_ | refine sw ?_ | refine c_t rfl ?_ | refine ja rfl rfl ?_ | refine jd rfl rfl ?_ | refine c_cond rfl (fun h => ?_) (fun h => ?_))
      all_goals first
        | exact e_ret ⟨rfl, _, rfl, rfl⟩
        | (exfalso; simp_all; done)
  · obtain ⟨h0, h1⟩ := hi (by omega)
    have h1 := h1 (by omega)
    subst h0
    subst h1
    clear hi
    repeat' (first | refine i_s rfl ?_ | refine sw ?_ | refine c_f rfl ?_)
    all_goals first
      | exact e_ret ⟨rfl, _, rfl, rfl⟩
      | (exfalso; simp_all; done)
def c_slices_Compare_int : Cmd :=
 (qS [qc 4 0]
 (qT (qS [qm 9 0, qn 10 9, qc 11 0]
 (.block 0 (.loop (qS [qu 12 .lss [] 11 10]
 (qT (.cond (.t 12) .skip (.exit 0))
 (qT (.block 1 (qS [qm 13 11, qi 14 1 9 11, ql 15 1 14, qm 5 13, qm 6 15]
 (qT (qS [qm 16 5, qm 17 1, qn 18 17, qu 19 .geq [] 16 18]
 (.cond (.t 19) (.seq (.ops [qc 4 1]) .ret) .skip))
 (qS [qm 20 1, qm 21 5, qi 22 1 20 21, ql 23 1 22, qm 7 23]
 (qS [qm 24 6, qm 25 7, qk 26 87 [24, 25], qm 8 26]
 (qS [qm 27 8, qv 28 .neq [.i] 27 0]
 (.cond (.t 28) (.seq (.ops [qm 29 8, qm 4 29]) .ret) .skip)))))))
 (.ops [qv 30 .add [] 11 1, qm 11 30])))))))
 (qT (qS [qm 31 0, qn 32 31, qm 33 1, qn 34 33, qu 35 .lss [] 32 34]
 (.cond (.t 35) (.seq (.ops [qc 4 (-1)]) .ret) .skip))
 (.seq (.ops [qc 4 0]) .ret))))
def r_slices_Compare_int : List RVar := [.tmp 4]
def n_slices_Compare_int : Nat := 36
theorem k_slices_Compare_int : chkFn Go.Proofs.Tryz.prog 88 n_slices_Compare_int r_slices_Compare_int c_slices_Compare_int = true := by kernel_rfl
theorem f_slices_Compare (a b : List Int) (ha : a.length ≤ 140737488355328) (hb : b.length ≤ 140737488355328) : Fc Go.Proofs.Tryz.prog 88 [.sl .p (a.map i64V), .sl .p (b.map i64V)] (.int .i64 (cmpL a b)) := by
  refine Fn.step mixed k_slices_Compare_int ?_
  repeat (first | refine i_len rfl ?_ | refine i_s rfl ?_ | refine sw ?_)
  refine c_for a.length (fun k => [(0, .sl .p (a.map i64V)), (1, .sl .p (b.map i64V)), (9, .sl .p (a.map i64V)), (10, .int .i64 a.length), (11, .int .i64 k)]) (fun _ => []) (fun k => k ≤ b.length ∧ a.take k = b.take k) (by simp) ft fun k hk hi => ?_
  obtain ⟨hkb, hi⟩ := hi
  repeat (first | refine i_s rfl ?_ | refine sw ?_)
  refine c_cond rfl (fun h => ?_) (fun h => ?_)
  · have hlt : k < a.length := by simpa using h
    obtain ⟨x, hx⟩ := get_some hlt
    clear h
    by_cases hk2 : k < b.length
    · obtain ⟨y, hy⟩ := get_some hk2
      by_cases hxy : x = y
      · have hz : signI x y = 0 := signI_zero.2 hxy
        have hs := f_Compare_int x y
        rw [hz] at hs
        repeat' (first | refine i_len rfl ?_ | refine i_s rfl ?_ | refine sw ?_ | refine c_f rfl ?_ | refine ja rfl rfl ?_ | refine jd rfl rfl ?_ | refine c_cond rfl (fun h => ?_) (fun h => ?_) | refine sf rfl rfl hs ?_ | fail)
        all_goals first
          | (exact e_for hlt ⟨hk2, by rw [take_succ_get hx, take_succ_get hy, hi, hxy]⟩ ft)
          | (exfalso; clear hs; simp at *; omega)
      · have hz : signI x y ≠ 0 := fun h => hxy (signI_zero.1 h)
        rw [cmpL_at hi hx hy hxy]
        have hs := f_Compare_int x y
        generalize signI x y = z at *
        repeat' (first | refine i_len rfl ?_ | refine i_s rfl ?_ | refine sw ?_ | refine ja rfl rfl ?_ | refine jd rfl rfl ?_ | refine c_cond rfl (fun h => ?_) (fun h => ?_) | refine sf rfl rfl hs ?_ | fail)
        all_goals first
          | exact e_ret ⟨rfl, _, rfl, rfl⟩
          | (exfalso; clear hs; simp at *; omega)
    · rw [cmpL_end hi (by omega) hkb (.inr (by omega))]
      have hz : signI a.length b.length = 1 := by unfold signI; rw [if_neg (by omega), if_pos (by omega)]
      rw [hz]
      repeat' (first | refine i_len rfl ?_ | refine i_s rfl ?_ | refine sw ?_ | refine jd rfl rfl ?_ | refine c_cond rfl (fun h => ?_) (fun h => ?_))
      all_goals first
        | exact e_ret ⟨rfl, _, rfl, rfl⟩
        | (exfalso; simp at *; omega)
  · have hge : ¬ k < a.length := by simpa using h
    clear h
    rw [cmpL_end hi (by omega) hkb (.inl (by omega))]
    repeat' (first | refine i_len rfl ?_ | refine i_s rfl ?_ | refine sw ?_ | refine c_cond rfl (fun h => ?_) (fun h => ?_))
    all_goals first
      | (refine e_ret ⟨rfl, _, rfl, congrArg (V.int .i64) ?_⟩; unfold signI; simp at *; (repeat' split) <;> omega)
def c_domain_Compare : Cmd :=
 (qS [qx 2 2944130 2 0, qx 3 2944194 2 1, qc 4 0]
 (.seq (.ops [qf 5 0 2, ql 6 1 5, qf 7 0 3, ql 8 1 7, qk 9 87 [6, 8], qf 10 1 2, ql 11 1 10, qf 12 1 3, ql 13 1 12, qk 14 88 [11, 13], qq 15 (.bsl 1 [.t 9, .t 14]), qk 16 86 [15], qm 4 16]) .ret))
def r_domain_Compare : List RVar := [.tmp 4]
def n_domain_Compare : Nat := 17
theorem k_domain_Compare : chkFn Go.Proofs.Tryz.prog 46 n_domain_Compare r_domain_Compare c_domain_Compare = true := by kernel_rfl
theorem f_domain_Compare (a b : At) (ha : AtOk a) (hb : AtOk b) : Fc Go.Proofs.Tryz.prog 46 [atV a, atV b] (.int .i64 (atomOrd a b)) := by
  have h1 := f_Compare_int a.pred b.pred
  have h2 := f_slices_Compare a.args b.args (by have := ha.len; omega) (by have := hb.len; omega)
  have h3 := f_Or2 (signI a.pred b.pred) (cmpL a.args b.args)
  have e : atomOrd a b = if signI a.pred b.pred ≠ 0 then signI a.pred b.pred else cmpL a.args b.args := by
    unfold atomOrd
    by_cases h : a.pred = b.pred
    · rw [if_pos h, if_neg (by simp [signI_zero.2 h])]
    · rw [if_neg h, if_pos (fun e => h (signI_zero.1 e))]
  rw [e]
  refine Fn.step mixed k_domain_Compare ?_
  repeat' (first | refine i_s rfl ?_ | refine sw ?_ | refine i_box rfl rfl ?_ | refine sf rfl rfl h1 ?_ | refine sf rfl rfl h2 ?_ | refine sf rfl rfl h3 ?_ | fail)
  exact e_ret ⟨rfl, _, rfl, rfl⟩
def c_R1_Sign : Cmd :=
 (qS [qc 4 0]
 (qT (qS [qm 5 0, qm 6 1, qu 7 .lss [] 5 6]
 (.cond (.t 7) (.seq (.ops [qc 4 (-1)]) .ret) .skip))
 (qT (qS [qm 8 0, qm 9 1, qu 10 .gtr [] 8 9]
 (.cond (.t 10) (.seq (.ops [qc 4 1]) .ret) .skip))
 (.seq (.ops [qc 4 0]) .ret))))
def r_R1_Sign : List RVar := [.tmp 4]
def n_R1_Sign : Nat := 11
theorem k_R1_Sign : chkFn Go.Proofs.Tryz.prog 119 n_R1_Sign r_R1_Sign c_R1_Sign = true := by kernel_rfl
theorem f_R1_Sign (a b : Int) : Fc Go.Proofs.Tryz.prog 119 [.int .i64 a, .int .i64 b] (.int .i64 (signI a b)) := by
  refine Fn.step mixed k_R1_Sign ?_
  repeat' (first | refine i_s rfl ?_ | refine sw ?_ | refine c_cond rfl (fun h => ?_) (fun h => ?_))
  all_goals first
    | (refine e_ret ⟨rfl, _, rfl, congrArg (V.int .i64) ?_⟩; unfold signI; simp at *; (repeat' split) <;> omega)
def c_R1_AtomOrder : Cmd :=
 (qS [qx 2 6144130 2 0, qx 3 6144194 2 1, qc 4 0]
 (qT (qS [qf 6 0 2, ql 7 1 6, qf 8 0 3, ql 9 1 8, qu 10 .neq [.i] 7 9]
 (.cond (.t 10) (.seq (.ops [qf 11 0 2, ql 12 1 11, qf 13 0 3, ql 14 1 13, qk 15 119 [12, 14], qm 4 15]) .ret) .skip))
 (qT (qS [qc 5 0]
 (.block 0 (.loop (qT (qS [qm 16 5, qf 17 1 2, ql 18 1 17, qn 19 18, qu 20 .lss [] 16 19, qm 21 20, qg 22 21 true (.mov (.t 5)), qg 23 21 true (.faddr 1 (.t 3)), qg 24 21 true (.load false 1 (.t 23)), qg 25 21 true (.len false (.t 24)), qg 26 21 true (.bin .lss false [] (.t 22) (.t 25)), qq 27 (.pick (.t 21) (.t 26) (.c (.bool false)))]
 (.cond (.t 27) .skip (.exit 0)))
 (qT (.block 1 (qS [qf 30 1 2, ql 31 1 30, qm 32 5, qi 33 1 31 32, ql 34 1 33, qf 35 1 3, ql 36 1 35, qm 37 5, qi 38 1 36 37, ql 39 1 38, qu 40 .neq [.i] 34 39]
 (.cond (.t 40) (.seq (.ops [qf 41 1 2, ql 42 1 41, qm 43 5, qi 44 1 42 43, ql 45 1 44, qf 46 1 3, ql 47 1 46, qm 48 5, qi 49 1 47 48, ql 50 1 49, qk 51 119 [45, 50], qm 4 51]) .ret) .skip)))
 (.ops [qm 28 5, qv 29 .add [] 28 1, qm 5 29]))))))
 (.seq (.ops [qf 52 1 2, ql 53 1 52, qn 54 53, qf 55 1 3, ql 56 1 55, qn 57 56, qk 58 119 [54, 57], qm 4 58]) .ret))))
def r_R1_AtomOrder : List RVar := [.tmp 4]
def n_R1_AtomOrder : Nat := 59
theorem k_R1_AtomOrder : chkFn Go.Proofs.Tryz.prog 96 n_R1_AtomOrder r_R1_AtomOrder c_R1_AtomOrder = true := by kernel_rfl
theorem f_R1_AtomOrder (a b : At) (ha : AtOk a) (hb : AtOk b) : Fc Go.Proofs.Tryz.prog 96 [atV a, atV b] (.int .i64 (atomOrd a b)) := by
  have hal := ha.len
  have hbl := hb.len
  by_cases hp : a.pred = b.pred
  · unfold atomOrd
    rw [if_pos hp]
    have hS := f_R1_Sign a.args.length b.args.length
    refine Fn.step mixed k_R1_AtomOrder ?_
    repeat' (first | refine i_s rfl ?_ | refine sw ?_ | refine i_box rfl rfl ?_ | refine c_cond rfl (fun h => ?_) (fun h => ?_))
    all_goals first
      | (exfalso; simp_all; done)
      | skip
    refine c_for (min a.args.length b.args.length) (fun k => [(2, .bptr 6144130 0), (3, .bptr 6144194 0), (5, .int .i64 k)]) (fun _ => [(6144130, .box (atV a)), (6144194, .box (atV b))]) (fun k => a.args.take k = b.args.take k) (by simp) ft fun k hk hi => ?_
    by_cases hlt : k < a.args.length ∧ k < b.args.length
    · obtain ⟨x, hx⟩ := get_some hlt.1
      obtain ⟨y, hy⟩ := get_some hlt.2
      obtain ⟨hl1, hl2⟩ := hlt
      by_cases hxy : x = y
      · clear hS
        repeat' (first | refine i_len rfl ?_ | refine i_s rfl ?_ | refine sw ?_ | refine i_gt rfl ?_ | refine i_gf rfl ?_ | refine c_f rfl ?_ | refine ja rfl rfl ?_ | refine jd rfl rfl ?_ | (refine sp ?_ ?_ <;> try intro h) | fail)
        all_goals first
          | (exact e_for (by omega) (by rw [take_succ_get hx, take_succ_get hy, hi, hxy]) ft)
          | (exfalso; simp at *; omega)
      · rw [cmpL_at hi hx hy hxy]
        have hS2 := f_R1_Sign x y
        repeat' (first | refine i_len rfl ?_ | refine i_s rfl ?_ | refine sw ?_ | refine i_gt rfl ?_ | refine i_gf rfl ?_ | refine c_f rfl ?_ | refine ja rfl rfl ?_ | refine jd rfl rfl ?_ | (refine sp ?_ ?_ <;> try intro h) | refine sf rfl rfl hS2 ?_ | fail)
        all_goals first
          | exact e_ret ⟨rfl, _, rfl, rfl⟩
          | (exfalso; clear hS hS2; simp at *; omega)
    · rw [cmpL_end hi (by omega) (by omega) (by omega)]
      repeat' (first | refine i_len rfl ?_ | refine i_s rfl ?_ | refine sw ?_ | refine i_gt rfl ?_ | refine i_gf rfl ?_ | refine c_f rfl ?_ | (refine sp ?_ ?_ <;> try intro h) | refine sf rfl rfl hS ?_ | fail)
      all_goals first
        | exact e_ret ⟨rfl, _, rfl, rfl⟩
        | (exfalso; clear hS; simp at *; omega)
  · unfold atomOrd
    rw [if_neg hp]
    have hS := f_R1_Sign a.pred b.pred
    refine Fn.step mixed k_R1_AtomOrder ?_
    repeat' (first | refine i_s rfl ?_ | refine sw ?_ | refine i_box rfl rfl ?_ | refine c_cond rfl (fun h => ?_) (fun h => ?_) | refine sf rfl rfl hS ?_ | fail)
    all_goals first
      | exact e_ret ⟨rfl, _, rfl, rfl⟩
      | (exfalso; clear hS; simp_all; done)
def c_R1_SameAtom : Cmd :=
 (qS [qx 2 3648130 2 0, qx 3 3648194 2 1, qb 4 false]
 (.seq (.ops [qL 5 2 2, qL 6 2 3, qk 7 96 [5, 6], qv 8 .eql [.i] 7 0, qm 4 8]) .ret))
def r_R1_SameAtom : List RVar := [.tmp 4]
def n_R1_SameAtom : Nat := 9
theorem k_R1_SameAtom : chkFn Go.Proofs.Tryz.prog 57 n_R1_SameAtom r_R1_SameAtom c_R1_SameAtom = true := by kernel_rfl
theorem f_R1_SameAtom (a b : At) (ha : AtOk a) (hb : AtOk b) : Fc Go.Proofs.Tryz.prog 57 [atV a, atV b] (.bool (decide (a = b))) := by
  have h := f_R1_AtomOrder a b ha hb
  refine Fn.step mixed k_R1_SameAtom ?_
  repeat' (first | refine i_s rfl ?_ | refine sw ?_ | refine i_box rfl rfl ?_ | refine sf rfl rfl h ?_ | fail)
  refine e_ret ⟨rfl, _, rfl, congrArg V.bool ?_⟩
  by_cases e : a = b
  · rw [atomOrd_zero.2 e, decide_eq_true e]; rfl
  · have : atomOrd a b ≠ 0 := fun h => e (atomOrd_zero.1 h)
    rw [decide_eq_false e]
    simpa using this
def c_slices_IndexFunc_int : Cmd :=
 (qS [qc 4 0]
 (qT (qS [qm 6 0, qn 7 6, qc 8 0]
 (.block 0 (.loop (qS [qu 9 .lss [] 8 7]
 (qT (.cond (.t 9) .skip (.exit 0))
 (qT (.block 1 (qS [qm 10 8, qm 5 10]
 (qS [qm 11 1, qm 12 0, qm 13 5, qi 14 1 12 13, ql 15 1 14, qq 16 (.call .f (.t 11) [.t 15])]
 (.cond (.t 16) (.seq (.ops [qm 17 5, qm 4 17]) .ret) .skip))))
 (.ops [qv 18 .add [] 8 1, qm 8 18])))))))
 (.seq (.ops [qc 4 (-1)]) .ret)))
def r_slices_IndexFunc_int : List RVar := [.tmp 4]
def n_slices_IndexFunc_int : Nat := 19
theorem k_slices_IndexFunc_int : chkFn Go.Proofs.Tryz.prog 114 n_slices_IndexFunc_int r_slices_IndexFunc_int c_slices_IndexFunc_int = true := by kernel_rfl
theorem f_IndexFunc_int (l : List (Int)) (p : Int → Bool) (fid : Nat) (caps : List V) (hl : l.length ≤ 140737488355328) (he : ∀ σ n, caps.map (er σ (n + 1)) = caps) (hc : closedL [] caps = true) (hp : ∀ t ∈ l, Fc Go.Proofs.Tryz.prog fid (i64V t :: caps) (.bool (p t))) :
    Fc Go.Proofs.Tryz.prog 114 [.sl .p (l.map i64V), .fn fid caps] (.int .i64 (fidx p l)) := by
  refine Fn.step mixed k_slices_IndexFunc_int ?_
  repeat (first | refine i_len rfl ?_ | refine i_s rfl ?_ | refine sw ?_)
  refine c_for l.length (fun k => [(0, .sl .p (l.map i64V)), (1, .fn fid caps), (7, .int .i64 l.length), (8, .int .i64 k)]) (fun _ => []) (fun k => ∀ j, j < k → ∀ c, l[j]? = some c → p c = false) all_zero ?_ fun k hk hi => ?_
  · exact ⟨⟨rfl, rfl, rfl, rfl, trivial⟩, trivial, by simp [fitB, closedE, closedB, hc, closedSt, hasAll]⟩
  repeat (first | refine i_s rfl ?_ | refine sw ?_)
  refine c_cond rfl (fun h => ?_) (fun h => ?_)
  · have hlt : k < l.length := by simpa using h
    obtain ⟨c, hget⟩ := get_some hlt
    repeat (first | refine i_s rfl ?_ | refine sw ?_ | refine jd rfl rfl ?_)
    refine i_f rfl (congrArg (i64V c :: ·) (he _ 5)) (hp c (mem_get hget)) rfl ?_
    repeat' (first | refine i_s rfl ?_ | refine sw ?_ | refine ja rfl rfl ?_ | refine c_cond rfl (fun h => ?_) (fun h => ?_))
    · refine e_ret ⟨rfl, _, rfl, congrArg (V.int .i64) (fidx_hit hi hget h)⟩
    · refine e_for hlt (all_succ hi fun c' hc' => ?_) ⟨⟨rfl, rfl, rfl, rfl, trivial⟩, trivial, by simp [fitB, closedE, closedB, hc, closedSt, hasAll]⟩
      rw [hget] at hc'; cases hc'; exact h
  · have hge : ¬ k < l.length := by simpa using h
    repeat' (first | refine i_s rfl ?_ | refine sw ?_ | fail)
    refine e_ret ⟨rfl, _, rfl, congrArg (V.int .i64) (fidx_none fun j hj => hi j (by omega))⟩
def c_slices_ContainsFunc_int : Cmd :=
 (qS [qb 4 false]
 (.seq (.ops [qm 5 0, qm 6 1, qk 7 114 [5, 6], qv 8 .geq [] 7 0, qm 4 8]) .ret))
def r_slices_ContainsFunc_int : List RVar := [.tmp 4]
def n_slices_ContainsFunc_int : Nat := 9
theorem k_slices_ContainsFunc_int : chkFn Go.Proofs.Tryz.prog 75 n_slices_ContainsFunc_int r_slices_ContainsFunc_int c_slices_ContainsFunc_int = true := by kernel_rfl
theorem f_ContainsFunc_int (l : List (Int)) (p : Int → Bool) (fid : Nat) (caps : List V) (hl : l.length ≤ 140737488355328) (he : ∀ σ n, caps.map (er σ (n + 1)) = caps) (hc : closedL [] caps = true) (hp : ∀ t ∈ l, Fc Go.Proofs.Tryz.prog fid (i64V t :: caps) (.bool (p t))) :
    Fc Go.Proofs.Tryz.prog 75 [.sl .p (l.map i64V), .fn fid caps] (.bool (l.any p)) := by
  refine Fn.step mixed k_slices_ContainsFunc_int ?_
  repeat (first | refine i_s rfl ?_ | refine sw ?_)
  refine i_f rfl (congrArg (fun x => [V.sl .p (l.map i64V), .fn fid x]) (he _ 4)) (f_IndexFunc_int l p fid caps hl he hc hp) rfl ?_
  repeat' (first | refine i_s rfl ?_ | refine sw ?_ | fail)
  refine e_ret ⟨rfl, _, rfl, congrArg V.bool (fidx_any p l).symm⟩
def c_slices_IndexFunc_Predicate : Cmd :=
 (qS [qc 4 0]
 (qT (qS [qm 6 0, qn 7 6, qc 8 0]
 (.block 0 (.loop (qS [qu 9 .lss [] 8 7]
 (qT (.cond (.t 9) .skip (.exit 0))
 (qT (.block 1 (qS [qm 10 8, qm 5 10]
 (qS [qm 11 1, qm 12 0, qm 13 5, qi 14 2 12 13, qL 15 2 14, qq 16 (.call .f (.t 11) [.t 15])]
 (.cond (.t 16) (.seq (.ops [qm 17 5, qm 4 17]) .ret) .skip))))
 (.ops [qv 18 .add [] 8 1, qm 8 18])))))))
 (.seq (.ops [qc 4 (-1)]) .ret)))
def r_slices_IndexFunc_Predicate : List RVar := [.tmp 4]
def n_slices_IndexFunc_Predicate : Nat := 19
theorem k_slices_IndexFunc_Predicate : chkFn Go.Proofs.Tryz.prog 127 n_slices_IndexFunc_Predicate r_slices_IndexFunc_Predicate c_slices_IndexFunc_Predicate = true := by kernel_rfl
theorem f_IndexFunc_Predicate (l : List (Prd)) (p : Prd → Bool) (fid : Nat) (caps : List V) (hl : l.length ≤ 140737488355328) (he : ∀ σ n, caps.map (er σ (n + 1)) = caps) (hc : closedL [] caps = true) (hp : ∀ t ∈ l, Fc Go.Proofs.Tryz.prog fid (prdV t :: caps) (.bool (p t))) :
    Fc Go.Proofs.Tryz.prog 127 [.sl .p (l.map prdV), .fn fid caps] (.int .i64 (fidx p l)) := by
  refine Fn.step mixed k_slices_IndexFunc_Predicate ?_
  repeat (first | refine i_len rfl ?_ | refine i_s rfl ?_ | refine sw ?_)
  refine c_for l.length (fun k => [(0, .sl .p (l.map prdV)), (1, .fn fid caps), (7, .int .i64 l.length), (8, .int .i64 k)]) (fun _ => []) (fun k => ∀ j, j < k → ∀ c, l[j]? = some c → p c = false) all_zero ?_ fun k hk hi => ?_
  · exact ⟨⟨rfl, rfl, rfl, rfl, trivial⟩, trivial, by simp [fitB, closedE, closedB, hc, closedSt, hasAll]⟩
  repeat (first | refine i_s rfl ?_ | refine sw ?_)
  refine c_cond rfl (fun h => ?_) (fun h => ?_)
  · have hlt : k < l.length := by simpa using h
    obtain ⟨c, hget⟩ := get_some hlt
    repeat (first | refine i_s rfl ?_ | refine sw ?_ | refine jd rfl rfl ?_)
    refine i_f rfl (congrArg (prdV c :: ·) (he _ 5)) (hp c (mem_get hget)) rfl ?_
    repeat' (first | refine i_s rfl ?_ | refine sw ?_ | refine ja rfl rfl ?_ | refine c_cond rfl (fun h => ?_) (fun h => ?_))
    · refine e_ret ⟨rfl, _, rfl, congrArg (V.int .i64) (fidx_hit hi hget h)⟩
    · refine e_for hlt (all_succ hi fun c' hc' => ?_) ⟨⟨rfl, rfl, rfl, rfl, trivial⟩, trivial, by simp [fitB, closedE, closedB, hc, closedSt, hasAll]⟩
      rw [hget] at hc'; cases hc'; exact h
  · have hge : ¬ k < l.length := by simpa using h
    repeat' (first | refine i_s rfl ?_ | refine sw ?_ | fail)
    refine e_ret ⟨rfl, _, rfl, congrArg (V.int .i64) (fidx_none fun j hj => hi j (by omega))⟩
def c_slices_ContainsFunc_Predicate : Cmd :=
 (qS [qb 4 false]
 (.seq (.ops [qm 5 0, qm 6 1, qk 7 127 [5, 6], qv 8 .geq [] 7 0, qm 4 8]) .ret))
def r_slices_ContainsFunc_Predicate : List RVar := [.tmp 4]
def n_slices_ContainsFunc_Predicate : Nat := 9
theorem k_slices_ContainsFunc_Predicate : chkFn Go.Proofs.Tryz.prog 106 n_slices_ContainsFunc_Predicate r_slices_ContainsFunc_Predicate c_slices_ContainsFunc_Predicate = true := by kernel_rfl
theorem f_ContainsFunc_Predicate (l : List (Prd)) (p : Prd → Bool) (fid : Nat) (caps : List V) (hl : l.length ≤ 140737488355328) (he : ∀ σ n, caps.map (er σ (n + 1)) = caps) (hc : closedL [] caps = true) (hp : ∀ t ∈ l, Fc Go.Proofs.Tryz.prog fid (prdV t :: caps) (.bool (p t))) :
    Fc Go.Proofs.Tryz.prog 106 [.sl .p (l.map prdV), .fn fid caps] (.bool (l.any p)) := by
  refine Fn.step mixed k_slices_ContainsFunc_Predicate ?_
  repeat (first | refine i_s rfl ?_ | refine sw ?_)
  refine i_f rfl (congrArg (fun x => [V.sl .p (l.map prdV), .fn fid x]) (he _ 4)) (f_IndexFunc_Predicate l p fid caps hl he hc hp) rfl ?_
  repeat' (first | refine i_s rfl ?_ | refine sw ?_ | fail)
  refine e_ret ⟨rfl, _, rfl, congrArg V.bool (fidx_any p l).symm⟩
def c_slices_IndexFunc_Schema : Cmd :=
 (qS [qc 4 0]
 (qT (qS [qm 6 0, qn 7 6, qc 8 0]
 (.block 0 (.loop (qS [qu 9 .lss [] 8 7]
 (qT (.cond (.t 9) .skip (.exit 0))
 (qT (.block 1 (qS [qm 10 8, qm 5 10]
 (qS [qm 11 1, qm 12 0, qm 13 5, qi 14 7 12 13, qL 15 7 14, qq 16 (.call .f (.t 11) [.t 15])]
 (.cond (.t 16) (.seq (.ops [qm 17 5, qm 4 17]) .ret) .skip))))
 (.ops [qv 18 .add [] 8 1, qm 8 18])))))))
 (.seq (.ops [qc 4 (-1)]) .ret)))
def r_slices_IndexFunc_Schema : List RVar := [.tmp 4]
def n_slices_IndexFunc_Schema : Nat := 19
theorem k_slices_IndexFunc_Schema : chkFn Go.Proofs.Tryz.prog 128 n_slices_IndexFunc_Schema r_slices_IndexFunc_Schema c_slices_IndexFunc_Schema = true := by kernel_rfl
theorem f_IndexFunc_Schema (l : List (Sch)) (p : Sch → Bool) (fid : Nat) (caps : List V) (hl : l.length ≤ 140737488355328) (he : ∀ σ n, caps.map (er σ (n + 1)) = caps) (hc : closedL [] caps = true) (hp : ∀ t ∈ l, Fc Go.Proofs.Tryz.prog fid (schV t :: caps) (.bool (p t))) :
    Fc Go.Proofs.Tryz.prog 128 [.sl .p (l.map schV), .fn fid caps] (.int .i64 (fidx p l)) := by
  refine Fn.step mixed k_slices_IndexFunc_Schema ?_
  repeat (first | refine i_len rfl ?_ | refine i_s rfl ?_ | refine sw ?_)
  refine c_for l.length (fun k => [(0, .sl .p (l.map schV)), (1, .fn fid caps), (7, .int .i64 l.length), (8, .int .i64 k)]) (fun _ => []) (fun k => ∀ j, j < k → ∀ c, l[j]? = some c → p c = false) all_zero ?_ fun k hk hi => ?_
  · exact ⟨⟨rfl, rfl, rfl, rfl, trivial⟩, trivial, by simp [fitB, closedE, closedB, hc, closedSt, hasAll]⟩
  repeat (first | refine i_s rfl ?_ | refine sw ?_)
  refine c_cond rfl (fun h => ?_) (fun h => ?_)
  · have hlt : k < l.length := by simpa using h
    obtain ⟨c, hget⟩ := get_some hlt
    repeat (first | refine i_s rfl ?_ | refine sw ?_ | refine jd rfl rfl ?_)
    refine i_f rfl (congrArg (schV c :: ·) (he _ 5)) (hp c (mem_get hget)) rfl ?_
    repeat' (first | refine i_s rfl ?_ | refine sw ?_ | refine ja rfl rfl ?_ | refine c_cond rfl (fun h => ?_) (fun h => ?_))
    · refine e_ret ⟨rfl, _, rfl, congrArg (V.int .i64) (fidx_hit hi hget h)⟩
    · refine e_for hlt (all_succ hi fun c' hc' => ?_) ⟨⟨rfl, rfl, rfl, rfl, trivial⟩, trivial, by simp [fitB, closedE, closedB, hc, closedSt, hasAll]⟩
      rw [hget] at hc'; cases hc'; exact h
  · have hge : ¬ k < l.length := by simpa using h
    repeat' (first | refine i_s rfl ?_ | refine sw ?_ | fail)
    refine e_ret ⟨rfl, _, rfl, congrArg (V.int .i64) (fidx_none fun j hj => hi j (by omega))⟩
def c_slices_ContainsFunc_Schema : Cmd :=
 (qS [qb 4 false]
 (.seq (.ops [qm 5 0, qm 6 1, qk 7 128 [5, 6], qv 8 .geq [] 7 0, qm 4 8]) .ret))
def r_slices_ContainsFunc_Schema : List RVar := [.tmp 4]
def n_slices_ContainsFunc_Schema : Nat := 9
theorem k_slices_ContainsFunc_Schema : chkFn Go.Proofs.Tryz.prog 108 n_slices_ContainsFunc_Schema r_slices_ContainsFunc_Schema c_slices_ContainsFunc_Schema = true := by kernel_rfl
theorem f_ContainsFunc_Schema (l : List (Sch)) (p : Sch → Bool) (fid : Nat) (caps : List V) (hl : l.length ≤ 140737488355328) (he : ∀ σ n, caps.map (er σ (n + 1)) = caps) (hc : closedL [] caps = true) (hp : ∀ t ∈ l, Fc Go.Proofs.Tryz.prog fid (schV t :: caps) (.bool (p t))) :
    Fc Go.Proofs.Tryz.prog 108 [.sl .p (l.map schV), .fn fid caps] (.bool (l.any p)) := by
  refine Fn.step mixed k_slices_ContainsFunc_Schema ?_
  repeat (first | refine i_s rfl ?_ | refine sw ?_)
  refine i_f rfl (congrArg (fun x => [V.sl .p (l.map schV), .fn fid x]) (he _ 4)) (f_IndexFunc_Schema l p fid caps hl he hc hp) rfl ?_
  repeat' (first | refine i_s rfl ?_ | refine sw ?_ | fail)
  refine e_ret ⟨rfl, _, rfl, congrArg V.bool (fidx_any p l).symm⟩
def c_slices_IndexFunc_2_int : Cmd :=
 (qS [qc 4 0]
 (qT (qS [qm 6 0, qn 7 6, qc 8 0]
 (.block 0 (.loop (qS [qu 9 .lss [] 8 7]
 (qT (.cond (.t 9) .skip (.exit 0))
 (qT (.block 1 (qS [qm 10 8, qm 5 10]
 (qS [qm 11 1, qm 12 0, qm 13 5, qi 14 2 12 13, qL 15 2 14, qq 16 (.call .f (.t 11) [.t 15])]
 (.cond (.t 16) (.seq (.ops [qm 17 5, qm 4 17]) .ret) .skip))))
 (.ops [qv 18 .add [] 8 1, qm 8 18])))))))
 (.seq (.ops [qc 4 (-1)]) .ret)))
def r_slices_IndexFunc_2_int : List RVar := [.tmp 4]
def n_slices_IndexFunc_2_int : Nat := 19
theorem k_slices_IndexFunc_2_int : chkFn Go.Proofs.Tryz.prog 129 n_slices_IndexFunc_2_int r_slices_IndexFunc_2_int c_slices_IndexFunc_2_int = true := by kernel_rfl
theorem f_IndexFunc_2_int (l : List (Int × Int)) (p : (Int × Int) → Bool) (fid : Nat) (caps : List V) (hl : l.length ≤ 140737488355328) (he : ∀ σ n, caps.map (er σ (n + 1)) = caps) (hc : closedL [] caps = true) (hp : ∀ t ∈ l, Fc Go.Proofs.Tryz.prog fid (pairV t :: caps) (.bool (p t))) :
    Fc Go.Proofs.Tryz.prog 129 [.sl .p (l.map pairV), .fn fid caps] (.int .i64 (fidx p l)) := by
  refine Fn.step mixed k_slices_IndexFunc_2_int ?_
  repeat (first | refine i_len rfl ?_ | refine i_s rfl ?_ | refine sw ?_)
  refine c_for l.length (fun k => [(0, .sl .p (l.map pairV)), (1, .fn fid caps), (7, .int .i64 l.length), (8, .int .i64 k)]) (fun _ => []) (fun k => ∀ j, j < k → ∀ c, l[j]? = some c → p c = false) all_zero ?_ fun k hk hi => ?_
  · exact ⟨⟨rfl, rfl, rfl, rfl, trivial⟩, trivial, by simp [fitB, closedE, closedB, hc, closedSt, hasAll]⟩
  repeat (first | refine i_s rfl ?_ | refine sw ?_)
  refine c_cond rfl (fun h => ?_) (fun h => ?_)
  · have hlt : k < l.length := by simpa using h
    obtain ⟨c, hget⟩ := get_some hlt
    repeat (first | refine i_s rfl ?_ | refine sw ?_ | refine jd rfl rfl ?_)
    refine i_f rfl (congrArg (pairV c :: ·) (he _ 5)) (hp c (mem_get hget)) rfl ?_
    repeat' (first | refine i_s rfl ?_ | refine sw ?_ | refine ja rfl rfl ?_ | refine c_cond rfl (fun h => ?_) (fun h => ?_))
    · refine e_ret ⟨rfl, _, rfl, congrArg (V.int .i64) (fidx_hit hi hget h)⟩
    · refine e_for hlt (all_succ hi fun c' hc' => ?_) ⟨⟨rfl, rfl, rfl, rfl, trivial⟩, trivial, by simp [fitB, closedE, closedB, hc, closedSt, hasAll]⟩
      rw [hget] at hc'; cases hc'; exact h
  · have hge : ¬ k < l.length := by simpa using h
    repeat' (first | refine i_s rfl ?_ | refine sw ?_ | fail)
    refine e_ret ⟨rfl, _, rfl, congrArg (V.int .i64) (fidx_none fun j hj => hi j (by omega))⟩
def c_slices_ContainsFunc_2_int : Cmd :=
 (qS [qb 4 false]
 (.seq (.ops [qm 5 0, qm 6 1, qk 7 129 [5, 6], qv 8 .geq [] 7 0, qm 4 8]) .ret))
def r_slices_ContainsFunc_2_int : List RVar := [.tmp 4]
def n_slices_ContainsFunc_2_int : Nat := 9
theorem k_slices_ContainsFunc_2_int : chkFn Go.Proofs.Tryz.prog 111 n_slices_ContainsFunc_2_int r_slices_ContainsFunc_2_int c_slices_ContainsFunc_2_int = true := by kernel_rfl
theorem f_ContainsFunc_2_int (l : List (Int × Int)) (p : (Int × Int) → Bool) (fid : Nat) (caps : List V) (hl : l.length ≤ 140737488355328) (he : ∀ σ n, caps.map (er σ (n + 1)) = caps) (hc : closedL [] caps = true) (hp : ∀ t ∈ l, Fc Go.Proofs.Tryz.prog fid (pairV t :: caps) (.bool (p t))) :
    Fc Go.Proofs.Tryz.prog 111 [.sl .p (l.map pairV), .fn fid caps] (.bool (l.any p)) := by
  refine Fn.step mixed k_slices_ContainsFunc_2_int ?_
  repeat (first | refine i_s rfl ?_ | refine sw ?_)
  refine i_f rfl (congrArg (fun x => [V.sl .p (l.map pairV), .fn fid x]) (he _ 4)) (f_IndexFunc_2_int l p fid caps hl he hc hp) rfl ?_
  repeat' (first | refine i_s rfl ?_ | refine sw ?_ | fail)
  refine e_ret ⟨rfl, _, rfl, congrArg V.bool (fidx_any p l).symm⟩
def c_slices_IndexFunc_Atom : Cmd :=
 (qS [qc 4 0]
 (qT (qS [qm 6 0, qn 7 6, qc 8 0]
 (.block 0 (.loop (qS [qu 9 .lss [] 8 7]
 (qT (.cond (.t 9) .skip (.exit 0))
 (qT (.block 1 (qS [qm 10 8, qm 5 10]
 (qS [qm 11 1, qm 12 0, qm 13 5, qi 14 2 12 13, qL 15 2 14, qq 16 (.call .f (.t 11) [.t 15])]
 (.cond (.t 16) (.seq (.ops [qm 17 5, qm 4 17]) .ret) .skip))))
 (.ops [qv 18 .add [] 8 1, qm 8 18])))))))
 (.seq (.ops [qc 4 (-1)]) .ret)))
def r_slices_IndexFunc_Atom : List RVar := [.tmp 4]
def n_slices_IndexFunc_Atom : Nat := 19
theorem k_slices_IndexFunc_Atom : chkFn Go.Proofs.Tryz.prog 85 n_slices_IndexFunc_Atom r_slices_IndexFunc_Atom c_slices_IndexFunc_Atom = true := by kernel_rfl
theorem f_IndexFunc_Atom (l : List (At)) (p : At → Bool) (fid : Nat) (caps : List V) (hl : l.length ≤ 140737488355328) (he : ∀ σ n, caps.map (er σ (n + 1)) = caps) (hc : closedL [] caps = true) (hp : ∀ t ∈ l, Fc Go.Proofs.Tryz.prog fid (atV t :: caps) (.bool (p t))) :
    Fc Go.Proofs.Tryz.prog 85 [.sl .p (l.map atV), .fn fid caps] (.int .i64 (fidx p l)) := by
  refine Fn.step mixed k_slices_IndexFunc_Atom ?_
  repeat (first | refine i_len rfl ?_ | refine i_s rfl ?_ | refine sw ?_)
  refine c_for l.length (fun k => [(0, .sl .p (l.map atV)), (1, .fn fid caps), (7, .int .i64 l.length), (8, .int .i64 k)]) (fun _ => []) (fun k => ∀ j, j < k → ∀ c, l[j]? = some c → p c = false) all_zero ?_ fun k hk hi => ?_
  · exact ⟨⟨rfl, rfl, rfl, rfl, trivial⟩, trivial, by simp [fitB, closedE, closedB, hc, closedSt, hasAll]⟩
  repeat (first | refine i_s rfl ?_ | refine sw ?_)
  refine c_cond rfl (fun h => ?_) (fun h => ?_)
  · have hlt : k < l.length := by simpa using h
    obtain ⟨c, hget⟩ := get_some hlt
    repeat (first | refine i_s rfl ?_ | refine sw ?_ | refine jd rfl rfl ?_)
    refine i_f rfl (congrArg (atV c :: ·) (he _ 5)) (hp c (mem_get hget)) rfl ?_
    repeat' (first | refine i_s rfl ?_ | refine sw ?_ | refine ja rfl rfl ?_ | refine c_cond rfl (fun h => ?_) (fun h => ?_))
    · refine e_ret ⟨rfl, _, rfl, congrArg (V.int .i64) (fidx_hit hi hget h)⟩
    · refine e_for hlt (all_succ hi fun c' hc' => ?_) ⟨⟨rfl, rfl, rfl, rfl, trivial⟩, trivial, by simp [fitB, closedE, closedB, hc, closedSt, hasAll]⟩
      rw [hget] at hc'; cases hc'; exact h
  · have hge : ¬ k < l.length := by simpa using h
    repeat' (first | refine i_s rfl ?_ | refine sw ?_ | fail)
    refine e_ret ⟨rfl, _, rfl, congrArg (V.int .i64) (fidx_none fun j hj => hi j (by omega))⟩
def c_slices_ContainsFunc_Atom : Cmd :=
 (qS [qb 4 false]
 (.seq (.ops [qm 5 0, qm 6 1, qk 7 85 [5, 6], qv 8 .geq [] 7 0, qm 4 8]) .ret))
def r_slices_ContainsFunc_Atom : List RVar := [.tmp 4]
def n_slices_ContainsFunc_Atom : Nat := 9
theorem k_slices_ContainsFunc_Atom : chkFn Go.Proofs.Tryz.prog 44 n_slices_ContainsFunc_Atom r_slices_ContainsFunc_Atom c_slices_ContainsFunc_Atom = true := by kernel_rfl
theorem f_ContainsFunc_Atom (l : List (At)) (p : At → Bool) (fid : Nat) (caps : List V) (hl : l.length ≤ 140737488355328) (he : ∀ σ n, caps.map (er σ (n + 1)) = caps) (hc : closedL [] caps = true) (hp : ∀ t ∈ l, Fc Go.Proofs.Tryz.prog fid (atV t :: caps) (.bool (p t))) :
    Fc Go.Proofs.Tryz.prog 44 [.sl .p (l.map atV), .fn fid caps] (.bool (l.any p)) := by
  refine Fn.step mixed k_slices_ContainsFunc_Atom ?_
  repeat (first | refine i_s rfl ?_ | refine sw ?_)
  refine i_f rfl (congrArg (fun x => [V.sl .p (l.map atV), .fn fid x]) (he _ 4)) (f_IndexFunc_Atom l p fid caps hl he hc hp) rfl ?_
  repeat' (first | refine i_s rfl ?_ | refine sw ?_ | fail)
  refine e_ret ⟨rfl, _, rfl, congrArg V.bool (fidx_any p l).symm⟩
end Hm
end
section
namespace Hm
open Go
set_option maxRecDepth 100000
set_option maxHeartbeats 1000000
def c_types_IsName : Cmd :=
 (qS [qb 2 false]
 (qT (qS [qm 5 0, qq 6 (.len true (.t 5)), qc 7 0]
 (.block 0 (.loop (qS [qu 8 .lss [] 7 6]
 (qT (.cond (.t 8) .skip (.exit 0))
 (qT (.block 1 (qS [qm 9 7, qm 3 9]
 (qS [qm 10 0, qm 11 3, qq 12 (.index (.t 10) (.t 11)), qm 4 12]
 (qS [qm 13 4, qq 14 (.bin .geq false [] (.t 13) (.c (.int .u8 97))), qm 15 14, qg 16 15 true (.mov (.t 4)), qg 17 15 true (.bin .leq false [] (.t 16) (.c (.int .u8 122))), qq 18 (.pick (.t 15) (.t 17) (.c (.bool false))), qm 19 18, qg 20 19 false (.mov (.t 3)), qg 21 19 false (.bin .gtr false [] (.t 20) (.c (.int .i64 0))), qg 22 19 false (.mov (.t 21)), qg 23 22 true (.mov (.t 4)), qg 24 22 true (.bin .geq false [] (.t 23) (.c (.int .u8 48))), qg 25 22 true (.mov (.t 24)), qg 26 25 true (.mov (.t 4)), qg 27 25 true (.bin .leq false [] (.t 26) (.c (.int .u8 57))), qg 28 22 true (.pick (.t 25) (.t 27) (.c (.bool false))), qg 29 22 true (.mov (.t 28)), qg 30 29 false (.mov (.t 4)), qg 31 29 false (.bin .eql false [.i] (.t 30) (.c (.int .u8 45))), qg 32 22 true (.pick (.t 29) (.c (.bool true)) (.t 31)), qg 33 19 false (.pick (.t 22) (.t 32) (.c (.bool false))), qq 34 (.pick (.t 19) (.c (.bool true)) (.t 33)), qq 35 (.not (.t 34))]
 (.cond (.t 35) (.seq (.ops [qb 2 false]) .ret) .skip)))))
 (.ops [qv 36 .add [] 7 1, qm 7 36])))))))
 (.seq (.ops [qm 37 0, qq 38 (.len true (.t 37)), qv 39 .geq [] 38 1, qm 40 39, qg 41 40 true (.mov (.t 0)), qg 42 40 true (.len true (.t 41)), qg 43 40 true (.bin .leq false [] (.t 42) (.c (.int .i64 12))), qq 44 (.pick (.t 40) (.t 43) (.c (.bool false))), qm 2 44]) .ret)))
def r_types_IsName : List RVar := [.tmp 2]
def n_types_IsName : Nat := 45
theorem k_types_IsName : chkFn Go.Proofs.Tryz.prog 101 n_types_IsName r_types_IsName c_types_IsName = true := by kernel_rfl
theorem f_types_IsName (s : List UInt8) (hl : s.length ≤ 140737488355328) : Fc Go.Proofs.Tryz.prog 101 [.str s] (.bool (nameB s)) := by
  refine Fn.step mixed k_types_IsName ?_
  repeat (first | refine i_s rfl ?_ | refine sw ?_)
  refine c_for s.length (fun k => [(0, .str s), (6, .int .i64 s.length), (7, .int .i64 k)]) (fun _ => []) (fun k => ∀ j, j < k → ∀ c, s[j]? = some c → nameAt j c = true) all_zero ft fun k hk hi => ?_
  repeat (first | refine i_s rfl ?_ | refine sw ?_)
  refine c_cond rfl (fun h => ?_) (fun h => ?_)
  · have hlt : k < s.length := by simpa using h
    obtain ⟨c, hc⟩ := get_some hlt
    have next : nameAt k c = true → ∀ j, j < k + 1 → ∀ c, s[j]? = some c → nameAt j c = true := fun hn => all_succ hi fun c' hc' => by
      rw [hc] at hc'; injection hc' with hc'; rw [← hc']; exact hn
    have bad : nameAt k c = false → V.bool (nameB s) = V.bool false := fun hn => by simp [nameB, namesFrom_false hc hn]
    clear hi h
    repeat' (first | refine i_s rfl ?_ | refine sw ?_ | refine i_gt rfl ?_ | refine i_gf rfl ?_ | refine i_gd rfl ?_ | refine c_t rfl ?_ | refine c_f rfl ?_ | refine ja rfl rfl ?_ | refine jf rfl rfl ?_ | (refine sp ?_ ?_ <;> try intro h) | fail)
    all_goals first
      | refine e_for hlt (next (by simp [nameAt] at *; omega)) ft
      | refine e_ret ⟨rfl, _, rfl, bad (by simp [nameAt] at *; omega)⟩
  · have hge : ¬ k < s.length := by simpa using h
    have hall := namesFrom_take s k hi (by omega)
    clear hi
    repeat' (first | refine i_s rfl ?_ | refine sw ?_ | refine i_gt rfl ?_ | refine i_gf rfl ?_ | refine i_g rfl (fun h => ?_) (fun h => ?_))
    all_goals refine e_ret ⟨rfl, _, rfl, congrArg V.bool ?_⟩
    · have h' := of_decide_eq_true h
      have e : decide (1 ≤ s.length) = true := decide_eq_true (by omega)
      simp only [nameB, hall, e, Bool.true_and]
      exact decide_eq_decide.2 (by omega)
    · have h' := of_decide_eq_false h
      have : decide (1 ≤ s.length) = false := decide_eq_false (by omega)
      simp [nameB, this]
def c_slices_IndexFunc_Type : Cmd :=
 (qS [qc 4 0]
 (qT (qS [qm 6 0, qn 7 6, qc 8 0]
 (.block 0 (.loop (qS [qu 9 .lss [] 8 7]
 (qT (.cond (.t 9) .skip (.exit 0))
 (qT (.block 1 (qS [qm 10 8, qm 5 10]
 (qS [qm 11 1, qm 12 0, qm 13 5, qi 14 2 12 13, qL 15 2 14, qq 16 (.call .f (.t 11) [.t 15])]
 (.cond (.t 16) (.seq (.ops [qm 17 5, qm 4 17]) .ret) .skip))))
 (.ops [qv 18 .add [] 8 1, qm 8 18])))))))
 (.seq (.ops [qc 4 (-1)]) .ret)))
def r_slices_IndexFunc_Type : List RVar := [.tmp 4]
def n_slices_IndexFunc_Type : Nat := 19
theorem k_slices_IndexFunc_Type : chkFn Go.Proofs.Tryz.prog 125 n_slices_IndexFunc_Type r_slices_IndexFunc_Type c_slices_IndexFunc_Type = true := by kernel_rfl
theorem f_IndexFunc_Type (l : List Typ) (p : Typ → Bool) (fid : Nat) (caps : List V) (hl : l.length ≤ 140737488355328) (he : ∀ σ n, caps.map (er σ (n + 1)) = caps) (hc : closedL [] caps = true) (hp : ∀ t ∈ l, Fc Go.Proofs.Tryz.prog fid (tyV t :: caps) (.bool (p t))) :
    Fc Go.Proofs.Tryz.prog 125 [.sl .p (l.map tyV), .fn fid caps] (.int .i64 (fidx p l)) := by
  refine Fn.step mixed k_slices_IndexFunc_Type ?_
  repeat (first | refine i_len rfl ?_ | refine i_s rfl ?_ | refine sw ?_)
  refine c_for l.length (fun k => [(0, .sl .p (l.map tyV)), (1, .fn fid caps), (7, .int .i64 l.length), (8, .int .i64 k)]) (fun _ => []) (fun k => ∀ j, j < k → ∀ c, l[j]? = some c → p c = false) all_zero ?_ fun k hk hi => ?_
  · exact ⟨⟨rfl, rfl, rfl, rfl, trivial⟩, trivial, by simp [fitB, closedE, closedB, hc, closedSt, hasAll]⟩
  repeat (first | refine i_s rfl ?_ | refine sw ?_)
  refine c_cond rfl (fun h => ?_) (fun h => ?_)
  · have hlt : k < l.length := by simpa using h
    obtain ⟨c, hget⟩ := get_some hlt
    repeat (first | refine i_s rfl ?_ | refine sw ?_ | refine jd rfl rfl ?_)
    refine i_f rfl (congrArg (tyV c :: ·) (he _ 5)) (hp c (mem_get hget)) rfl ?_
    repeat' (first | refine i_s rfl ?_ | refine sw ?_ | refine ja rfl rfl ?_ | refine c_cond rfl (fun h => ?_) (fun h => ?_))
    · refine e_ret ⟨rfl, _, rfl, congrArg (V.int .i64) (fidx_hit hi hget h)⟩
    · refine e_for hlt (all_succ hi fun c' hc' => ?_) ⟨⟨rfl, rfl, rfl, rfl, trivial⟩, trivial, by simp [fitB, closedE, closedB, hc, closedSt, hasAll]⟩
      rw [hget] at hc'; cases hc'; exact h
  · have hge : ¬ k < l.length := by simpa using h
    repeat' (first | refine i_s rfl ?_ | refine sw ?_ | fail)
    refine e_ret ⟨rfl, _, rfl, congrArg (V.int .i64) (fidx_none fun j hj => hi j (by omega))⟩
def c_slices_ContainsFunc_Type : Cmd :=
 (qS [qb 4 false]
 (.seq (.ops [qm 5 0, qm 6 1, qk 7 125 [5, 6], qv 8 .geq [] 7 0, qm 4 8]) .ret))
def r_slices_ContainsFunc_Type : List RVar := [.tmp 4]
def n_slices_ContainsFunc_Type : Nat := 9
theorem k_slices_ContainsFunc_Type : chkFn Go.Proofs.Tryz.prog 102 n_slices_ContainsFunc_Type r_slices_ContainsFunc_Type c_slices_ContainsFunc_Type = true := by kernel_rfl
theorem f_ContainsFunc_Type (l : List Typ) (p : Typ → Bool) (fid : Nat) (caps : List V) (hl : l.length ≤ 140737488355328) (he : ∀ σ n, caps.map (er σ (n + 1)) = caps) (hc : closedL [] caps = true) (hp : ∀ t ∈ l, Fc Go.Proofs.Tryz.prog fid (tyV t :: caps) (.bool (p t))) :
    Fc Go.Proofs.Tryz.prog 102 [.sl .p (l.map tyV), .fn fid caps] (.bool (l.any p)) := by
  refine Fn.step mixed k_slices_ContainsFunc_Type ?_
  repeat (first | refine i_s rfl ?_ | refine sw ?_)
  refine i_f rfl (congrArg (fun x => [V.sl .p (l.map tyV), .fn fid x]) (he _ 4)) (f_IndexFunc_Type l p fid caps hl he hc hp) rfl ?_
  repeat' (first | refine i_s rfl ?_ | refine sw ?_ | fail)
  refine e_ret ⟨rfl, _, rfl, congrArg V.bool (fidx_any p l).symm⟩
def TyOk (l : List Typ) : Prop := l.length ≤ 140737488355328 ∧ ∀ t ∈ l, t.name.length ≤ 140737488355328
def c_types_Validate_1 : Cmd :=
 (qS [qx 2 6592130 2 0, qb 3 false]
 (.seq (.ops [qf 4 0 2, ql 5 1 4, qf 6 0 1, ql 7 1 6, qu 8 .eql [.s] 5 7, qm 3 8]) .ret))
def r_types_Validate_1 : List RVar := [.tmp 3]
def n_types_Validate_1 : Nat := 9
theorem k_types_Validate_1 : chkFn Go.Proofs.Tryz.prog 103 n_types_Validate_1 r_types_Validate_1 c_types_Validate_1 = true := by kernel_rfl
theorem f_types_Validate_1 (u t : Typ) : Fc Go.Proofs.Tryz.prog 103 [tyV u, .cptr .p (tyV t) 0] (.bool (u.name == t.name)) := by
  refine Fn.step mixed k_types_Validate_1 ?_
  repeat' (first | refine i_s rfl ?_ | refine sw ?_ | refine i_box rfl rfl ?_)
  exact e_ret ⟨rfl, _, rfl, rfl⟩
theorem typesFault_big {l : List Typ} (h : 8 < l.length) : typesFault l = ⟨2, -1⟩ := by unfold typesFault; rw [if_pos h]
theorem typesFault_hit {l : List Typ} (h : ¬ 8 < l.length) {k : Nat} {f : Flt} (hi : ∀ j, j < k → tyBad l j = none) (hk : k < l.length) (hf : tyBad l k = some f) : typesFault l = f := by
  unfold typesFault; rw [if_neg h, scan0_hit hi hk hf]; rfl
theorem typesFault_ok {l : List Typ} (h : ¬ 8 < l.length) (hi : ∀ j, j < l.length → tyBad l j = none) : typesFault l = okF := by
  unfold typesFault; rw [if_neg h, scan0_none hi]; rfl
def c_types_Validate : Cmd :=
 (qS [qq 2 (.alloc 4416130 (.agg [.int .i64 0, .int .i64 0]))]
 (qT (qS [qm 5 0, qn 6 5, qv 7 .gtr [] 6 8]
 (.cond (.t 7) (.seq (.ops [qq 8 (.build [.int .i64 0, .int .i64 0] [(0 , 1 , .c (.int .i64 2)), (1 , 1 , .c (.int .i64 (-1)))]), qs 2 2 8]) .ret) .skip))
 (qT (qS [qm 9 0, qn 10 9, qc 11 0]
 (.block 0 (.loop (qS [qu 12 .lss [] 11 10]
 (qT (.cond (.t 12) .skip (.exit 0))
 (qT (.block 1 (qS [qm 13 11, qi 14 2 9 11, qL 15 2 14, qq 4 (.alloc 4416258 (.agg [.str [], .int .i64 0])), qm 3 13, qs 2 4 15]
 (.block 2 (qS [qf 17 0 4, ql 18 1 17, qk 19 101 [18], qq 20 (.not (.t 19)), qm 21 20, qg 22 21 false (.faddr 0 (.t 4)), qg 23 21 false (.load false 1 (.t 22)), qg 24 21 false (.bin .eql false [.s] (.t 23) (.c (.str [111, 98, 106, 101, 99, 116]))), qq 25 (.pick (.t 21) (.c (.bool true)) (.t 24)), qm 16 25]
 (.cond (.t 16) (.seq (.ops [qm 26 3, qq 27 (.build [.int .i64 0, .int .i64 0] [(0 , 1 , .c (.int .i64 12)), (1 , 1 , .t 26)]), qs 2 2 27]) .ret) (qS [qm 29 0, qm 30 3, qq 31 (.slice false 2 (.t 29) none (some (.t 30))), qq 32 (.mkfn 103 [.t 4]), qk 33 102 [31, 32], qm 28 33]
 (.cond (.t 28) (.seq (.ops [qm 34 3, qq 35 (.build [.int .i64 0, .int .i64 0] [(0 , 1 , .c (.int .i64 7)), (1 , 1 , .t 34)]), qs 2 2 35]) .ret) (qS [qf 37 1 4, ql 38 1 37, qv 39 .lss [] 38 (-1), qm 40 39, qg 41 40 false (.faddr 1 (.t 4)), qg 42 40 false (.load false 1 (.t 41)), qg 43 40 false (.mov (.t 3)), qg 44 40 false (.bin .geq false [] (.t 42) (.t 43)), qq 45 (.pick (.t 40) (.c (.bool true)) (.t 44)), qm 36 45]
 (.cond (.t 36) (.seq (.ops [qm 46 3, qq 47 (.build [.int .i64 0, .int .i64 0] [(0 , 1 , .c (.int .i64 3)), (1 , 1 , .t 46)]), qs 2 2 47]) .ret) .skip)))))))))
 (.ops [qv 48 .add [] 11 1, qm 11 48])))))))
 (.seq (.ops [qq 49 (.build [.int .i64 0, .int .i64 0] []), qs 2 2 49]) .ret))))
def r_types_Validate : List RVar := [.cell true 2 2]
def n_types_Validate : Nat := 50
theorem k_types_Validate : chkFn Go.Proofs.Tryz.prog 69 n_types_Validate r_types_Validate c_types_Validate = true := by kernel_rfl
theorem f_types_Validate (l : List Typ) (ho : TyOk l) : Fc Go.Proofs.Tryz.prog 69 [.sl .p (l.map tyV)] (ftV (typesFault l)) := by
  obtain ⟨hl, hn⟩ := ho
  refine Fn.step mixed k_types_Validate ?_
  repeat' (first | refine i_len rfl ?_ | refine i_s rfl ?_ | refine sw ?_ | refine i_stb rfl ?_ | refine i_alloc rfl ?_ | refine c_cond rfl (fun h => ?_) (fun h => ?_))
  · exact e_ret ⟨rfl, _, rfl, congr_ft (typesFault_big (by have := of_decide_eq_true h; simp at this; omega))⟩
  have h8 : ¬ 8 < l.length := by have := of_decide_eq_false h; simp at this; omega
  clear h
  refine c_for l.length (fun k => [(0, .sl .p (l.map tyV)), (2, .bptr 4416130 0), (9, .sl .p (l.map tyV)), (10, .int .i64 l.length), (11, .int .i64 k)]) (fun _ => [(4416130, .box (ftV okF))]) (fun k => ∀ j, j < k → tyBad l j = none) all_zero ft fun k hk hi => ?_
  repeat (first | refine i_s rfl ?_ | refine sw ?_)
  refine c_cond rfl (fun h => ?_) (fun h => ?_)
  · have hlt : k < l.length := by simpa using h
    obtain ⟨t, ht⟩ := get_some hlt
    have hnt := hn t (mem_get ht)
    have hbad : tyBad l k = if nameB t.name = false ∨ t.name = objectS then some ⟨12, k⟩ else if (l.take k).any (fun u => u.name == t.name) = true then some ⟨7, k⟩
      else if t.parent < -1 ∨ t.parent ≥ k then some ⟨3, k⟩ else none := by simp [tyBad, ht]
    clear h
    have hC := f_ContainsFunc_Type (l.take k) (fun u => u.name == t.name) 103 [.cptr .p (tyV t) 0] (by simp; omega) (fun _ _ => rfl) rfl (fun u _ => f_types_Validate_1 u t)
    repeat' (first | refine i_s rfl ?_ | refine sw ?_ | refine i_gt rfl ?_ | refine i_gf rfl ?_ | refine c_t rfl ?_ | refine ja rfl rfl ?_ | refine jd rfl rfl ?_ | refine jh rfl rfl ?_ | refine i_stb rfl ?_ | refine i_alloc rfl ?_ | (refine sp ?_ ?_ <;> try intro h) | refine sf rfl rfl (f_types_IsName _ hnt) ?_ | refine sf rfl rfl hC ?_ | fail)
    all_goals clear hC hn ht hk
    all_goals first
      | refine e_ret ⟨rfl, _, rfl, congr_ft (typesFault_hit h8 hi hlt ?_)⟩; clear hi
      | refine e_for hlt (all_succ hi ?_) ft; clear hi
    all_goals rw [hbad]; clear hbad
    all_goals generalize (l.take k).any _ = bb at *
    all_goals grind [objectS]
  · have hge : ¬ k < l.length := by simpa using h
    repeat' (first | refine i_s rfl ?_ | refine sw ?_ | refine i_stb rfl ?_)
    exact e_ret ⟨rfl, _, rfl, congr_ft (typesFault_ok h8 fun j hj => hi j (by omega))⟩
def c_slices_IndexFunc_Object : Cmd :=
 (qS [qc 4 0]
 (qT (qS [qm 6 0, qn 7 6, qc 8 0]
 (.block 0 (.loop (qS [qu 9 .lss [] 8 7]
 (qT (.cond (.t 9) .skip (.exit 0))
 (qT (.block 1 (qS [qm 10 8, qm 5 10]
 (qS [qm 11 1, qm 12 0, qm 13 5, qi 14 2 12 13, qL 15 2 14, qq 16 (.call .f (.t 11) [.t 15])]
 (.cond (.t 16) (.seq (.ops [qm 17 5, qm 4 17]) .ret) .skip))))
 (.ops [qv 18 .add [] 8 1, qm 8 18])))))))
 (.seq (.ops [qc 4 (-1)]) .ret)))
def r_slices_IndexFunc_Object : List RVar := [.tmp 4]
def n_slices_IndexFunc_Object : Nat := 19
theorem k_slices_IndexFunc_Object : chkFn Go.Proofs.Tryz.prog 126 n_slices_IndexFunc_Object r_slices_IndexFunc_Object c_slices_IndexFunc_Object = true := by kernel_rfl
theorem f_IndexFunc_Object (l : List Obj) (p : Obj → Bool) (fid : Nat) (caps : List V) (hl : l.length ≤ 140737488355328) (he : ∀ σ n, caps.map (er σ (n + 1)) = caps) (hc : closedL [] caps = true) (hp : ∀ t ∈ l, Fc Go.Proofs.Tryz.prog fid (obV t :: caps) (.bool (p t))) :
    Fc Go.Proofs.Tryz.prog 126 [.sl .p (l.map obV), .fn fid caps] (.int .i64 (fidx p l)) := by
  refine Fn.step mixed k_slices_IndexFunc_Object ?_
  repeat (first | refine i_len rfl ?_ | refine i_s rfl ?_ | refine sw ?_)
  refine c_for l.length (fun k => [(0, .sl .p (l.map obV)), (1, .fn fid caps), (7, .int .i64 l.length), (8, .int .i64 k)]) (fun _ => []) (fun k => ∀ j, j < k → ∀ c, l[j]? = some c → p c = false) all_zero ?_ fun k hk hi => ?_
  · exact ⟨⟨rfl, rfl, rfl, rfl, trivial⟩, trivial, by simp [fitB, closedE, closedB, hc, closedSt, hasAll]⟩
  repeat (first | refine i_s rfl ?_ | refine sw ?_)
  refine c_cond rfl (fun h => ?_) (fun h => ?_)
  · have hlt : k < l.length := by simpa using h
    obtain ⟨c, hget⟩ := get_some hlt
    repeat (first | refine i_s rfl ?_ | refine sw ?_ | refine jd rfl rfl ?_)
    refine i_f rfl (congrArg (obV c :: ·) (he _ 5)) (hp c (mem_get hget)) rfl ?_
    repeat' (first | refine i_s rfl ?_ | refine sw ?_ | refine ja rfl rfl ?_ | refine c_cond rfl (fun h => ?_) (fun h => ?_))
    · refine e_ret ⟨rfl, _, rfl, congrArg (V.int .i64) (fidx_hit hi hget h)⟩
    · refine e_for hlt (all_succ hi fun c' hc' => ?_) ⟨⟨rfl, rfl, rfl, rfl, trivial⟩, trivial, by simp [fitB, closedE, closedB, hc, closedSt, hasAll]⟩
      rw [hget] at hc'; cases hc'; exact h
  · have hge : ¬ k < l.length := by simpa using h
    repeat' (first | refine i_s rfl ?_ | refine sw ?_ | fail)
    refine e_ret ⟨rfl, _, rfl, congrArg (V.int .i64) (fidx_none fun j hj => hi j (by omega))⟩
def c_slices_ContainsFunc_Object : Cmd :=
 (qS [qb 4 false]
 (.seq (.ops [qm 5 0, qm 6 1, qk 7 126 [5, 6], qv 8 .geq [] 7 0, qm 4 8]) .ret))
def r_slices_ContainsFunc_Object : List RVar := [.tmp 4]
def n_slices_ContainsFunc_Object : Nat := 9
theorem k_slices_ContainsFunc_Object : chkFn Go.Proofs.Tryz.prog 104 n_slices_ContainsFunc_Object r_slices_ContainsFunc_Object c_slices_ContainsFunc_Object = true := by kernel_rfl
theorem f_ContainsFunc_Object (l : List Obj) (p : Obj → Bool) (fid : Nat) (caps : List V) (hl : l.length ≤ 140737488355328) (he : ∀ σ n, caps.map (er σ (n + 1)) = caps) (hc : closedL [] caps = true) (hp : ∀ t ∈ l, Fc Go.Proofs.Tryz.prog fid (obV t :: caps) (.bool (p t))) :
    Fc Go.Proofs.Tryz.prog 104 [.sl .p (l.map obV), .fn fid caps] (.bool (l.any p)) := by
  refine Fn.step mixed k_slices_ContainsFunc_Object ?_
  repeat (first | refine i_s rfl ?_ | refine sw ?_)
  refine i_f rfl (congrArg (fun x => [V.sl .p (l.map obV), .fn fid x]) (he _ 4)) (f_IndexFunc_Object l p fid caps hl he hc hp) rfl ?_
  repeat' (first | refine i_s rfl ?_ | refine sw ?_ | fail)
  refine e_ret ⟨rfl, _, rfl, congrArg V.bool (fidx_any p l).symm⟩
theorem typesFault_code (l : List Typ) : (typesFault l).code = 0 ↔ typesFault l = okF := by
  refine ⟨fun h => ?_, fun h => by rw [h]; rfl⟩
  unfold typesFault at h ⊢
  split at h
  · cases h
  · rename_i h8
    rw [if_neg h8]
    have := scan_prop (bad := tyBad l) (fun o => ∀ f, o = some f → f.code ≠ 0) (by simp) (fun i => tyBad_code l i) l.length 0
    cases hs : scan (tyBad l) 0 l.length with
    | none => rfl
    | some f => rw [hs] at h; exact absurd h (this f hs)
def ObOk (l : List Obj) : Prop := l.length ≤ 140737488355328 ∧ ∀ t ∈ l, t.name.length ≤ 140737488355328
def c_types_Objects_1 : Cmd :=
 (qS [qx 2 6720130 2 0, qb 3 false]
 (.seq (.ops [qf 4 0 2, ql 5 1 4, qf 6 0 1, ql 7 1 6, qu 8 .eql [.s] 5 7, qm 3 8]) .ret))
def r_types_Objects_1 : List RVar := [.tmp 3]
def n_types_Objects_1 : Nat := 9
theorem k_types_Objects_1 : chkFn Go.Proofs.Tryz.prog 105 n_types_Objects_1 r_types_Objects_1 c_types_Objects_1 = true := by kernel_rfl
theorem f_types_Objects_1 (u t : Obj) : Fc Go.Proofs.Tryz.prog 105 [obV u, .cptr .p (obV t) 0] (.bool (u.name == t.name)) := by
  refine Fn.step mixed k_types_Objects_1 ?_
  repeat' (first | refine i_s rfl ?_ | refine sw ?_ | refine i_box rfl rfl ?_)
  exact e_ret ⟨rfl, _, rfl, rfl⟩
theorem objectsFault_big {n : Nat} {l : List Obj} (h : 8 < l.length) : objectsFault n l = ⟨2, -3⟩ := by unfold objectsFault; rw [if_pos h]
theorem objectsFault_hit {n : Nat} {l : List Obj} (h : ¬ 8 < l.length) {k : Nat} {f : Flt} (hi : ∀ j, j < k → obBad n l j = none) (hk : k < l.length) (hf : obBad n l k = some f) : objectsFault n l = f := by
  unfold objectsFault; rw [if_neg h, scan0_hit hi hk hf]; rfl
theorem objectsFault_ok {n : Nat} {l : List Obj} (h : ¬ 8 < l.length) (hi : ∀ j, j < l.length → obBad n l j = none) : objectsFault n l = okF := by
  unfold objectsFault; rw [if_neg h, scan0_none hi]; rfl
def c_types_Objects : Cmd :=
 (qS [qq 4 (.alloc 4480258 (.agg [.int .i64 0, .int .i64 0]))]
 (qT (qS [qm 8 1, qn 9 8, qv 10 .gtr [] 9 8]
 (.cond (.t 10) (.seq (.ops [qq 11 (.build [.int .i64 0, .int .i64 0] [(0 , 1 , .c (.int .i64 2)), (1 , 1 , .c (.int .i64 (-3)))]), qs 2 4 11]) .ret) .skip))
 (qT (qS [qm 12 1, qn 13 12, qc 14 0]
 (.block 0 (.loop (qS [qu 15 .lss [] 14 13]
 (qT (.cond (.t 15) .skip (.exit 0))
 (qT (.block 1 (qS [qm 16 14, qi 17 2 12 14, qL 18 2 17, qq 6 (.alloc 4480386 (.agg [.str [], .int .i64 0])), qm 5 16, qs 2 6 18]
 (qS [qc 7 0]
 (qT (.block 2 (qS [qf 20 0 6, ql 21 1 20, qk 22 101 [21], qq 23 (.not (.t 22)), qm 19 23]
 (.cond (.t 19) (.ops [qc 7 12]) (qS [qm 25 1, qm 26 5, qq 27 (.slice false 2 (.t 25) none (some (.t 26))), qq 28 (.mkfn 105 [.t 6]), qk 29 104 [27, 28], qm 24 29]
 (.cond (.t 24) (.ops [qc 7 7]) (qS [qf 31 1 6, ql 32 1 31, qv 33 .lss [] 32 (-1), qm 34 33, qg 35 34 false (.faddr 1 (.t 6)), qg 36 34 false (.load false 1 (.t 35)), qg 37 34 false (.mov (.t 0)), qg 38 34 false (.len false (.t 37)), qg 39 34 false (.bin .geq false [] (.t 36) (.t 38)), qq 40 (.pick (.t 34) (.c (.bool true)) (.t 39)), qm 30 40]
 (.cond (.t 30) (.ops [qc 7 3]) .skip)))))))
 (qS [qm 41 7, qv 42 .neq [.i] 41 0]
 (.cond (.t 42) (.seq (.ops [qm 43 7, qm 44 5, qq 45 (.bin .sub false [] (.c (.int .i64 (-10))) (.t 44)), qq 46 (.build [.int .i64 0, .int .i64 0] [(0 , 1 , .t 43), (1 , 1 , .t 45)]), qs 2 4 46]) .ret) .skip))))))
 (.ops [qv 47 .add [] 14 1, qm 14 47])))))))
 (.seq (.ops [qq 48 (.build [.int .i64 0, .int .i64 0] []), qs 2 4 48]) .ret))))
def r_types_Objects : List RVar := [.cell true 2 4]
def n_types_Objects : Nat := 49
theorem k_types_Objects : chkFn Go.Proofs.Tryz.prog 70 n_types_Objects r_types_Objects c_types_Objects = true := by kernel_rfl
theorem f_types_Objects (ts : List Typ) (hts : ts.length ≤ 140737488355328) (l : List Obj) (ho : ObOk l) : Fc Go.Proofs.Tryz.prog 70 [.sl .p (ts.map tyV), .sl .p (l.map obV)] (ftV (objectsFault ts.length l)) := by
  obtain ⟨hl, hn⟩ := ho
  refine Fn.step mixed k_types_Objects ?_
  repeat' (first | refine i_len rfl ?_ | refine i_s rfl ?_ | refine sw ?_ | refine i_stb rfl ?_ | refine i_alloc rfl ?_ | refine c_cond rfl (fun h => ?_) (fun h => ?_))
  · exact e_ret ⟨rfl, _, rfl, congr_ft (objectsFault_big (by have := of_decide_eq_true h; simp at this; omega))⟩
  have h8 : ¬ 8 < l.length := by have := of_decide_eq_false h; simp at this; omega
  clear h
  refine c_for l.length (fun k => [(0, .sl .p (ts.map tyV)), (1, .sl .p (l.map obV)), (4, .bptr 4480258 0), (12, .sl .p (l.map obV)), (13, .int .i64 l.length), (14, .int .i64 k)]) (fun _ => [(4480258, .box (ftV okF))]) (fun k => ∀ j, j < k → obBad ts.length l j = none) all_zero ft fun k hk hi => ?_
  repeat (first | refine i_s rfl ?_ | refine sw ?_)
  refine c_cond rfl (fun h => ?_) (fun h => ?_)
  · have hlt : k < l.length := by simpa using h
    obtain ⟨t, ht⟩ := get_some hlt
    have hnt := hn t (mem_get ht)
    have hbad : obBad ts.length l k = if nameB t.name = false then some ⟨12, -10 - k⟩ else if (l.take k).any (fun u => u.name == t.name) = true then some ⟨7, -10 - k⟩
      else if t.type < -1 ∨ t.type ≥ ts.length then some ⟨3, -10 - k⟩ else none := by simp [obBad, ht]
    clear h
    have hC := f_ContainsFunc_Object (l.take k) (fun u => u.name == t.name) 105 [.cptr .p (obV t) 0] (by simp; omega) (fun _ _ => rfl) rfl (fun u _ => f_types_Objects_1 u t)
    repeat' (first | refine i_len rfl ?_ | refine i_s rfl ?_ | refine sw ?_ | refine i_gt rfl ?_ | refine i_gf rfl ?_ | refine c_t rfl ?_ | refine c_f rfl ?_ | refine ja rfl rfl ?_ | refine jb rfl rfl ?_ | refine jd rfl rfl ?_ | refine jh rfl rfl ?_ | refine i_stb rfl ?_ | refine i_alloc rfl ?_ | (refine sp ?_ ?_ <;> try intro h) | refine sf rfl rfl (f_types_IsName _ hnt) ?_ | refine sf rfl rfl hC ?_ | fail)
    all_goals clear hC hn ht hk
    all_goals first
      | refine e_ret ⟨rfl, _, rfl, congr_ft (objectsFault_hit h8 hi hlt ?_)⟩; clear hi
      | refine e_for hlt (all_succ hi ?_) ft; clear hi
    all_goals rw [hbad]; clear hbad
    all_goals generalize (l.take k).any _ = bb at *
    all_goals try simp only [List.length_map] at *
    all_goals grind
  · have hge : ¬ k < l.length := by simpa using h
    repeat' (first | refine i_s rfl ?_ | refine sw ?_ | refine i_stb rfl ?_)
    exact e_ret ⟨rfl, _, rfl, congr_ft (objectsFault_ok h8 fun j hj => hi j (by omega))⟩
def memK (l : List Typ) (os : List Obj) (t : Int) (k : Nat) : List Int := ((List.range k).filter fun i => match os[i]? with
  | some o => subB l o.type t
  | none => false).map Int.ofNat
theorem memK_succ {l : List Typ} {os : List Obj} {t : Int} {k : Nat} {o : Obj} (ho : os[k]? = some o) : memK l os t (k + 1) = memK l os t k ++ (if subB l o.type t = true then [(k : Int)] else []) := by
  unfold memK
  rw [List.range_succ, List.filter_append, List.map_append]
  congr 1
  simp only [List.filter, ho]
  split <;> simp_all
theorem memK_len {l : List Typ} {os : List Obj} {t : Int} {k : Nat} : (memK l os t k).length ≤ k := by
  unfold memK
  rw [List.length_map]
  exact Nat.le_trans (List.length_filter_le _ _) (by simp)
def c_types_Above : Cmd :=
 (qS [qx 2 7488129 1 0, qx 3 7488193 1 1, qq 4 (.mov (.c (.nilfn)))]
 (.seq (.ops [qq 5 (.mkfn 130 [.t 3, .t 2]), qm 4 5]) .ret))
def r_types_Above : List RVar := [.tmp 4]
def n_types_Above : Nat := 6
theorem k_types_Above : chkFn Go.Proofs.Tryz.prog 117 n_types_Above r_types_Above c_types_Above = true := by kernel_rfl
theorem c_types_Above_ct {G : Type} {H : HT G} (l : List Typ) (t : Int) (σ : Store) (g : G) (h1 : σ 7488129 = .unused) (h2 : σ 7488193 = .unused) (hp : ∀ nm, σ nm ≠ .unused → nm ∈ [7488129, 7488193]) :
    Cc Go.Proofs.Tryz.prog H 117 [.sl .p (l.map tyV), .int .i64 t] [7488129, 7488193] σ g fun r σ' g' => r = .fn 130 [.bptr 7488193 0, .bptr 7488129 0] ∧ σ' = stOf [(7488129, .box (.sl .p (l.map tyV))), (7488193, .box (.int .i64 t))] ∧ g' = g := by
  refine CT.step _ mixed k_types_Above hp fun hM => ?_
  repeat refine sw ?_
  refine i_box h1 rfl ?_
  refine i_box h2 rfl ?_
  repeat' (first | refine i_s rfl ?_ | refine sw ?_ | fail)
  exact e_ret ⟨rfl, _, rfl, rfl, rfl, rfl, restr_stOf _ _, rfl⟩
def c_types_Above_1 : Cmd :=
 (qT (.block 0 (.loop (qT (qS [ql 4 1 1, qv 5 .geq [] 4 0]
 (.cond (.t 5) .skip (.exit 0)))
 (qT (.block 1 (qS [qm 11 0, ql 12 1 1, qq 13 (.call .y (.t 11) [.t 12]), qq 14 (.not (.t 13))]
 (.cond (.t 14) .ret .skip)))
 (.ops [ql 6 1 2, ql 7 1 1, qi 8 2 6 7, qf 9 1 8, ql 10 1 9, qs 1 1 10])))))
 (.ops [qm 15 0, qq 16 (.call .y (.t 15) [.c (.int .i64 (-1))])]))
def r_types_Above_1 : List RVar := []
def n_types_Above_1 : Nat := 17
theorem k_types_Above_1 : chkFn Go.Proofs.Tryz.prog 130 n_types_Above_1 r_types_Above_1 c_types_Above_1 = true := by kernel_rfl
theorem c_types_Above_1_ct {G : Type} {H : HT G} (l : List Typ) (hv : TyValid l) (t0 : Int) (h00 : -1 ≤ t0) (h01 : t0 < l.length) (g0 : G) (K : G → Prop) (hy0 : YL H ((supers l t0).map fun n => [V.int .i64 n]) g0 K) :
    Cc Go.Proofs.Tryz.prog H 130 [.rnd, .bptr 7488193 0, .bptr 7488129 0] [7488129, 7488193] (stOf [(7488129, .box (.sl .p (l.map tyV))), (7488193, .box (.int .i64 t0))]) g0
      fun _ σ' g' => (∃ t' : Int, σ' = stOf [(7488129, .box (.sl .p (l.map tyV))), (7488193, .box (.int .i64 t'))]) ∧ K g' := by
  refine CT.step _ mixed k_types_Above_1 (fun nm hnm => stOf_mem _ nm hnm) fun hM => ?_
  repeat refine sw ?_
  refine c_loop (ι := Int × G) (fun _ => [(0, .rnd), (1, .bptr 7488193 0), (2, .bptr 7488129 0)]) (fun i => [(7488129, .box (.sl .p (l.map tyV))), (7488193, .box (.int .i64 i.1))]) (fun i => i.2)
    (fun i => -1 ≤ i.1 ∧ i.1 < l.length ∧ YL H ((supers l i.1).map fun n => [V.int .i64 n]) i.2 K) (fun i => (i.1 + 1).toNat) (t0, g0) ⟨h00, h01, hy0⟩ ft rfl fun i hi => ?_
  obtain ⟨t, g⟩ := i
  obtain ⟨h0, h1, hy⟩ := hi
  simp only at h0 h1 hy
  clear h00 h01 hy0
  repeat (first | refine i_s rfl ?_ | refine sw ?_)
  refine c_cond rfl (fun h => ?_) (fun h => ?_)
  · have hge := of_decide_eq_true h
    obtain ⟨x, hx, hp, h2, h3⟩ := parent_ok hv hge h1
    rw [supers_cons hv hge h1 hx] at hy
    repeat (first | refine i_s rfl ?_ | refine sw ?_)
    refine i_y hM rfl rfl rfl (hM _ _ _ _ (fun u g' hu => ?_) hy)
    rcases hu with ⟨rfl, hu⟩ | ⟨rfl, hu⟩
    · repeat (first | refine i_s rfl ?_ | refine sw ?_ | refine c_f rfl ?_ | refine jd rfl rfl ?_ | refine i_stb rfl ?_)
      try refine i_iai rfl rfl hge hx rfl ?_
      skip
      exact e_loop ⟨(x.parent, g'), ⟨h2, by simp only; omega, hu⟩, ft, rfl, by simp only; omega⟩
    · repeat (first | refine i_s rfl ?_ | refine sw ?_ | refine c_t rfl ?_)
      exact e_ret ⟨rfl, _, rfl, rfl, rfl, ⟨t, restr_stOf _ _⟩, hu⟩
  · have hlt : t < 0 := by have := of_decide_eq_false h; omega
    rw [supers_neg hlt] at hy
    repeat (first | refine i_s rfl ?_ | refine sw ?_)
    refine i_y hM rfl rfl rfl (hM _ _ _ _ (fun u g' hu => ?_) hy)
    repeat refine sw ?_
    refine e_end ⟨rfl, _, rfl, rfl, rfl, ⟨t, restr_stOf _ _⟩, ?_⟩
    rcases hu with ⟨_, hu⟩ | ⟨_, hu⟩ <;> exact hu
def c_types_Is : Cmd :=
 (qS [qx 5 5376321 1 2, qq 6 (.alloc 5376385 (.bool false))]
 (qT (qS [qm 8 0, qm 9 1, qq 10 (.call (.s [7488129, 7488193]) (.c (.fn 117 [])) [.t 8, .t 9])]
 (.block 0 (.rangeF [7488129, 7488193] (.t 10) [11] (.ops [qm 7 11]) (.block 1 (qS [qm 12 7, ql 13 1 5, qu 14 .eql [.i] 12 13]
 (.cond (.t 14) (.seq (.ops [.op none none (.store 1 (.t 6) (.c (.bool true)))]) .ret) .skip))))))
 (.seq (.ops [.op none none (.store 1 (.t 6) (.c (.bool false)))]) .ret)))
def r_types_Is : List RVar := [.cell false 1 6]
def n_types_Is : Nat := 15
theorem k_types_Is : chkFn Go.Proofs.Tryz.prog 84 n_types_Is r_types_Is c_types_Is = true := by kernel_rfl
theorem f_types_Is (l : List Typ) (hv : TyValid l) (a b : Int) (h0 : -1 ≤ a) (h1 : a < l.length) : Fc Go.Proofs.Tryz.prog 84 [.sl .p (l.map tyV), .int .i64 a, .int .i64 b] (.bool (subB l a b)) := by
  refine Fn.step mixed k_types_Is ?_
  repeat (first | refine i_s rfl ?_ | refine sw ?_ | refine i_alloc rfl ?_ | refine i_box rfl rfl ?_)
  refine i_c rfl rfl rfl (c_types_Above_ct l a _ _ rfl rfl fun nm h => restr_mem nm h) ?_
  rintro _ _ _ ⟨rfl, rfl, rfl⟩
  repeat refine sw ?_
  refine c_rangeS [(5, .bptr 5376321 0), (6, .bptr 5376385 0)] [(7488129, .box (.sl .p (l.map tyV))), (7488193, .box (.int .i64 a)), (5376321, .box (.int .i64 b)), (5376385, .box (.bool false))] [5376321, 5376385]
    [(7488129, .box (.sl .p (l.map tyV))), (7488193, .box (.int .i64 a))] [(5376321, .box (.int .i64 b)), (5376385, .box (.bool false))] rfl ft rfl rfl rfl rfl ?_
  refine Cc_mono ?_ (c_types_Above_1_ct l hv a h0 h1 _
    (fun st => if subB l a b = true then st = (stOf [(5376321, .box (.int .i64 b)), (5376385, .box (.bool true))], (), some .ret) else st = (stOf [(5376321, .box (.int .i64 b)), (5376385, .box (.bool false))], (), none))
    (YL_find (fun c => decide (c = b)) (fun _ => (stOf [(5376321, .box (.int .i64 b)), (5376385, .box (.bool true))], (), some .ret)) (RHm noH_mono) (supers l a) ?_ ?_))
  · rintro _ σ' st ⟨⟨t', rfl⟩, hst⟩
    split at hst
    · subst hst
      rename_i hs
      refine ⟨rfl, ?_⟩
      exact e_ret ⟨rfl, _, rfl, by rw [hs]; rfl⟩
    · subst hst
      rename_i hs
      refine ⟨rfl, ?_⟩
      show WE _ _ _ _ _ .normal _ _ _
      repeat (first | refine sw ?_ | refine i_stb rfl ?_)
      exact e_ret ⟨rfl, _, rfl, by rw [Bool.not_eq_true] at hs; rw [hs]; rfl⟩
  · intro c hc K hk1 hk2
    refine rh_intro noH_mono rfl ?_
    repeat (first | refine i_s rfl ?_ | refine sw ?_)
    refine e_end ?_
    show WC _ _ _ _ [] _ _ _ _
    repeat' (first | refine i_s rfl ?_ | refine sw ?_ | refine i_stb rfl ?_ | refine c_cond rfl (fun h => ?_) (fun h => ?_))
    · refine e_ret ?_
      exact rhq_r rfl rfl (hk1 (by simpa using h))
    · refine e_end ?_
      exact rhq_n rfl rfl (hk2 (by simpa using h))
  · unfold subB
    cases hf : (supers l a).find? (fun c => decide (c = b)) with
    | none =>
      have : ¬ b ∈ supers l a := fun hm => by
        have := List.find?_eq_none.1 hf b hm
        simp at this
      simp [this]
    | some c =>
      have h1 := List.find?_some hf
      have h2 := List.mem_of_find?_eq_some hf
      have : b ∈ supers l a := by simp at h1; rw [← h1]; exact h2
      simp [this]
end Hm
end
section
namespace Hm
open Go
set_option maxRecDepth 100000
set_option maxHeartbeats 4000000
def c_domain_Params_1 : Cmd :=
 (qS [qb 3 false]
 (.seq (.ops [qm 4 0, qv 5 .lss [] 4 (-1), qm 6 5, qg 7 6 false (.mov (.t 0)), qg 8 6 false (.faddr 0 (.t 1)), qg 9 6 false (.load false 1 (.t 8)), qg 10 6 false (.len false (.t 9)), qg 11 6 false (.bin .geq false [] (.t 7) (.t 10)), qq 12 (.pick (.t 6) (.c (.bool true)) (.t 11)), qm 3 12]) .ret))
def r_domain_Params_1 : List RVar := [.tmp 3]
def n_domain_Params_1 : Nat := 13
theorem k_domain_Params_1 : chkFn Go.Proofs.Tryz.prog 76 n_domain_Params_1 r_domain_Params_1 c_domain_Params_1 = true := by kernel_rfl
theorem f_domain_Params_1 (d : Dom) (hd : d.types.length ≤ 140737488355328) (t : Int) : Fc Go.Proofs.Tryz.prog 76 [.int .i64 t, .cptr .p (domV d) 0] (.bool (badT d.types.length t)) := by
  refine Fn.step mixed k_domain_Params_1 ?_
  repeat' (first | refine i_len rfl ?_ | refine i_s rfl ?_ | refine sw ?_ | refine i_gt rfl ?_ | refine i_gf rfl ?_ | refine i_g rfl (fun h => ?_) (fun h => ?_))
  all_goals (refine e_ret ⟨rfl, _, rfl, congrArg V.bool ?_⟩; unfold badT; simp at *; (try omega))
def c_domain_Params : Cmd :=
 (qS [qx 2 2176134 6 0, qc 4 0]
 (qT (qS [qm 5 1, qn 6 5, qv 7 .gtr [] 6 3]
 (.cond (.t 7) (.seq (.ops [qc 4 2]) .ret) .skip))
 (qT (qS [qm 8 1, qq 9 (.mkfn 76 [.t 2]), qk 10 75 [8, 9]]
 (.cond (.t 10) (.seq (.ops [qc 4 3]) .ret) .skip))
 (.seq (.ops [qc 4 0]) .ret))))
def r_domain_Params : List RVar := [.tmp 4]
def n_domain_Params : Nat := 11
theorem k_domain_Params : chkFn Go.Proofs.Tryz.prog 34 n_domain_Params r_domain_Params c_domain_Params = true := by kernel_rfl
theorem f_domain_Params (d : Dom) (hd : d.types.length ≤ 140737488355328) (l : List Int) (hl : l.length ≤ 140737488355328) : Fc Go.Proofs.Tryz.prog 34 [domV d, .sl .p (l.map i64V)] (.int .i64 (paramsCode d.types.length l)) := by
  have hC := f_ContainsFunc_int l (badT d.types.length) 76 [.cptr .p (domV d) 0] hl (fun _ _ => rfl) rfl (fun t _ => f_domain_Params_1 d hd t)
  unfold paramsCode
  by_cases h3 : l.length > 3
  · rw [if_pos h3]
    refine Fn.step mixed k_domain_Params ?_
    repeat' (first | refine i_len rfl ?_ | refine i_s rfl ?_ | refine sw ?_ | refine i_box rfl rfl ?_ | refine c_cond rfl (fun h => ?_) (fun h => ?_))
    all_goals first
      | exact e_ret ⟨rfl, _, rfl, rfl⟩
      | (exfalso; simp at *; omega)
  · rw [if_neg h3]
    cases hany : l.any (badT d.types.length) with
    | true =>
      rw [hany] at hC
      refine Fn.step mixed k_domain_Params ?_
      repeat' (first | refine i_len rfl ?_ | refine i_s rfl ?_ | refine sw ?_ | refine c_t rfl ?_ | refine i_box rfl rfl ?_ | refine c_cond rfl (fun h => ?_) (fun h => ?_) | refine sf rfl rfl hC ?_ | fail)
      all_goals first
        | exact e_ret ⟨rfl, _, rfl, rfl⟩
        | (exfalso; clear hC; simp at *; omega)
    | false =>
      rw [hany] at hC
      refine Fn.step mixed k_domain_Params ?_
      repeat' (first | refine i_len rfl ?_ | refine i_s rfl ?_ | refine sw ?_ | refine c_f rfl ?_ | refine i_box rfl rfl ?_ | refine c_cond rfl (fun h => ?_) (fun h => ?_) | refine sf rfl rfl hC ?_ | fail)
      all_goals first
        | exact e_ret ⟨rfl, _, rfl, rfl⟩
        | (exfalso; clear hC; simp at *; omega)
theorem atomCode_none {d : Dom} {ps : List Int} {a : At} (h : a.pred < 0 ∨ (d.preds.length : Int) ≤ a.pred) : atomCode d ps a = 6 := by unfold atomCode; rw [if_pos h]
theorem atomCode_len {d : Dom} {ps : List Int} {a : At} {p : Prd} (h : ¬ (a.pred < 0 ∨ (d.preds.length : Int) ≤ a.pred)) (hp : d.preds[a.pred.toNat]? = some p) (hl : a.args.length ≠ p.types.length) : atomCode d ps a = 9 := by
  unfold atomCode; rw [if_neg h, hp]; simp only; rw [if_pos hl]
theorem atomCode_scan {d : Dom} {ps : List Int} {a : At} {p : Prd} (h : ¬ (a.pred < 0 ∨ (d.preds.length : Int) ≤ a.pred)) (hp : d.preds[a.pred.toNat]? = some p) (hl : a.args.length = p.types.length) : atomCode d ps a = (scan (argBad d ps p.types a) 0 a.args.length).getD 0 := by
  unfold atomCode; rw [if_neg h, hp]; simp only; rw [if_neg (by simp [hl])]
def tyoV : Option Int → V
  | some t => .tup [.int .i64 t, .bool true]
  | none => .tup [.int .i64 0, .bool false]
def c_domain_typeOf : Cmd :=
 (qS [qx 3 5312198 6 0, qc 6 0, qb 7 false]
 (qT (.block 0 (qS [qm 9 2, qv 10 .geq [] 9 0, qm 11 10, qg 12 11 true (.mov (.t 2)), qg 13 11 true (.faddr 1 (.t 3)), qg 14 11 true (.load false 1 (.t 13)), qg 15 11 true (.len false (.t 14)), qg 16 11 true (.bin .lss false [] (.t 12) (.t 15)), qq 17 (.pick (.t 11) (.t 16) (.c (.bool false))), qm 8 17]
 (.cond (.t 8) (.seq (.ops [qf 18 1 3, ql 19 1 18, qm 20 2, qi 21 2 19 20, qf 22 1 21, ql 23 1 22, qm 6 23, qb 7 true]) .ret) (qS [qm 25 2, qv 26 .lss [] 25 0, qm 27 26, qg 28 27 true (.mov (.t 2)), qg 29 27 true (.mov (.t 1)), qg 30 27 true (.len false (.t 29)), qg 31 27 true (.bin .sub false [] (.c (.int .i64 0)) (.t 30)), qg 32 27 true (.bin .geq false [] (.t 28) (.t 31)), qq 33 (.pick (.t 27) (.t 32) (.c (.bool false))), qm 24 33]
 (.cond (.t 24) (.seq (.ops [qm 34 1, qm 35 2, qq 36 (.bin .sub false [] (.c (.int .i64 (-1))) (.t 35)), qi 37 1 34 36, ql 38 1 37, qm 6 38, qb 7 true]) .ret) .skip)))))
 (.seq (.ops [qc 6 0, qb 7 false]) .ret)))
def r_domain_typeOf : List RVar := [.tmp 6, .tmp 7]
def n_domain_typeOf : Nat := 39
theorem k_domain_typeOf : chkFn Go.Proofs.Tryz.prog 83 n_domain_typeOf r_domain_typeOf c_domain_typeOf = true := by kernel_rfl
theorem f_domain_typeOf (d : Dom) (ho : d.objects.length ≤ 140737488355328) (ps : List Int) (hl : ps.length ≤ 140737488355328) (x : Int) (hx : InR .i64 x) : Fc Go.Proofs.Tryz.prog 83 [domV d, .sl .p (ps.map i64V), .int .i64 x] (tyoV (typeOfA d ps x)) := by
  have hx1 : (-9223372036854775808 : Int) ≤ x := hx.1
  have hx2 : x ≤ 9223372036854775807 := hx.2
  clear hx
  unfold typeOfA
  by_cases h1 : 0 ≤ x ∧ x < d.objects.length
  · rw [if_pos h1]
    obtain ⟨o, hoo⟩ := get_some (l := d.objects) (k := x.toNat) (by omega)
    rw [hoo]
    refine Fn.step mixed k_domain_typeOf ?_
    repeat' (first | refine i_len rfl ?_ | refine i_s rfl ?_ | refine sw ?_ | refine i_gt rfl ?_ | refine i_gf rfl ?_ | refine c_f rfl ?_ | refine jb rfl rfl ?_ | refine jd rfl rfl ?_ | refine i_box rfl rfl ?_ | (refine sp ?_ ?_ <;> try intro h) | fail)
    all_goals first
      | exact e_ret ⟨rfl, _, rfl, rfl⟩
      | (exfalso; simp at *; omega)
  · rw [if_neg h1]
    by_cases h2 : x < 0 ∧ -(ps.length : Int) ≤ x
    · rw [if_pos h2]
      obtain ⟨t, ht⟩ := get_some (l := ps) (k := (-1 - x).toNat) (by omega)
      rw [ht]
      refine Fn.step mixed k_domain_typeOf ?_
      repeat' (first | refine i_len rfl ?_ | refine i_s rfl ?_ | refine sw ?_ | refine i_gt rfl ?_ | refine i_gf rfl ?_ | refine c_f rfl ?_ | refine jb rfl rfl ?_ | refine jd rfl rfl ?_ | refine i_box rfl rfl ?_ | (refine sp ?_ ?_ <;> try intro h) | fail)
      all_goals first
        | exact e_ret ⟨rfl, _, rfl, rfl⟩
        | (exfalso; simp at *; omega)
    · rw [if_neg h2]
      refine Fn.step mixed k_domain_typeOf ?_
      repeat' (first | refine i_len rfl ?_ | refine i_s rfl ?_ | refine sw ?_ | refine i_gt rfl ?_ | refine i_gf rfl ?_ | refine c_f rfl ?_ | refine jb rfl rfl ?_ | refine i_box rfl rfl ?_ | (refine sp ?_ ?_ <;> try intro h) | fail)
      all_goals first
        | exact e_ret ⟨rfl, _, rfl, rfl⟩
        | (exfalso; simp at *; omega)
def c_domain_Atom : Cmd :=
 (qS [qx 3 2624198 6 0, qx 5 2624322 2 2, qc 6 0]
 (qT (qS [qf 12 0 5, ql 13 1 12, qv 14 .lss [] 13 0, qm 15 14, qg 16 15 false (.faddr 0 (.t 5)), qg 17 15 false (.load false 1 (.t 16)), qg 18 15 false (.faddr 2 (.t 3)), qg 19 15 false (.load false 1 (.t 18)), qg 20 15 false (.len false (.t 19)), qg 21 15 false (.bin .geq false [] (.t 17) (.t 20)), qq 22 (.pick (.t 15) (.c (.bool true)) (.t 21))]
 (.cond (.t 22) (.seq (.ops [qc 6 6]) .ret) .skip))
 (qS [qf 23 2 3, ql 24 1 23, qf 25 0 5, ql 26 1 25, qi 27 2 24 26, qf 28 1 27, ql 29 1 28, qm 7 29]
 (qT (qS [qf 30 1 5, ql 31 1 30, qn 32 31, qm 33 7, qn 34 33, qu 35 .neq [.i] 32 34]
 (.cond (.t 35) (.seq (.ops [qc 6 9]) .ret) .skip))
 (qT (qS [qf 36 1 5, ql 37 1 36, qn 38 37, qc 39 0]
 (.block 0 (.loop (qS [qu 40 .lss [] 39 38]
 (qT (.cond (.t 40) .skip (.exit 0))
 (qT (.block 1 (qS [qm 41 39, qi 42 1 37 39, ql 43 1 42, qm 8 41, qm 9 43]
 (qS [qL 45 6 3, qm 46 1, qm 47 9, qk 48 83 [45, 46, 47], qm 44 48, qq 49 (.extract (.t 44) 0), qq 50 (.extract (.t 44) 1), qm 10 49, qm 11 50]
 (qT (qS [qm 51 11, qq 52 (.not (.t 51))]
 (.cond (.t 52) (.seq (.ops [qc 6 3]) .ret) .skip))
 (qS [qf 53 0 3, ql 54 1 53, qm 55 10, qm 56 7, qm 57 8, qi 58 1 56 57, ql 59 1 58, qk 60 84 [54, 55, 59], qq 61 (.not (.t 60))]
 (.cond (.t 61) (.seq (.ops [qc 6 8]) .ret) .skip))))))
 (.ops [qv 62 .add [] 39 1, qm 39 62])))))))
 (.seq (.ops [qc 6 0]) .ret))))))
def r_domain_Atom : List RVar := [.tmp 6]
def n_domain_Atom : Nat := 63
theorem k_domain_Atom : chkFn Go.Proofs.Tryz.prog 41 n_domain_Atom r_domain_Atom c_domain_Atom = true := by kernel_rfl
theorem f_domain_Atom (d : Dom) (hd : DoTy d) (ps : List Int) (hps : PsOk d ps) (a : At) (ha : AtOk a) : Fc Go.Proofs.Tryz.prog 41 [domV d, .sl .p (ps.map i64V), atV a] (.int .i64 (atomCode d ps a)) := by
  have hal := ha.len
  have hpl := hps.1
  have hol := hd.ol
  by_cases h1 : a.pred < 0 ∨ (d.preds.length : Int) ≤ a.pred
  · rw [atomCode_none h1]
    refine Fn.step mixed k_domain_Atom ?_
    repeat' (first | refine i_len rfl ?_ | refine i_s rfl ?_ | refine sw ?_ | refine i_gt rfl ?_ | refine i_gf rfl ?_ | refine c_t rfl ?_ | refine i_box rfl rfl ?_ | (refine sp ?_ ?_ <;> try intro h) | fail)
    all_goals first
      | exact e_ret ⟨rfl, _, rfl, rfl⟩
      | (exfalso; simp at *; omega)
  · obtain ⟨p, hp⟩ := get_some (l := d.preds) (k := a.pred.toNat) (by omega)
    by_cases h2 : a.args.length = p.types.length
    · rw [atomCode_scan h1 hp h2]
      refine Fn.step mixed k_domain_Atom ?_
      repeat' (first | refine i_len rfl ?_ | refine i_s rfl ?_ | refine sw ?_ | refine i_gt rfl ?_ | refine i_gf rfl ?_ | refine c_t rfl ?_ | refine jd rfl rfl ?_ | refine i_box rfl rfl ?_ | (refine sp ?_ ?_ <;> try intro h) | fail)
      all_goals first
        | (exfalso; simp at *; omega)
        | skip
      refine c_for a.args.length (fun k => [(1, .sl .p (ps.map i64V)), (3, .bptr 2624198 0), (7, .sl .p (p.types.map i64V)), (37, .sl .p (a.args.map i64V)), (38, .int .i64 a.args.length), (39, .int .i64 k)]) (fun _ => [(2624198, .box (domV d))]) (fun k => ∀ j, j < k → argBad d ps p.types a j = none) all_zero ft fun k hk hi => ?_
      by_cases hlt : k < a.args.length
      · obtain ⟨x, hx⟩ := get_some hlt
        obtain ⟨t, ht⟩ := get_some (l := p.types) (k := k) (by omega)
        have hT := f_domain_typeOf d (by omega) ps (by omega) x (ha.r x (mem_get hx))
        have hbad : argBad d ps p.types a k = tyoBad d t (typeOfA d ps x) := by simp only [argBad, hx, ht]
        cases hu : typeOfA d ps x with
        | none =>
          rw [hu] at hbad hT
          simp only [tyoBad] at hbad
          rw [scan0_hit hi hlt hbad]
          clear hi hbad ha
          repeat' (first | refine i_s rfl ?_ | refine sw ?_ | refine c_t rfl ?_ | refine jd rfl rfl ?_ | refine c_cond rfl (fun h => ?_) (fun h => ?_) | refine sf rfl rfl hT ?_ | fail)
          all_goals first
            | exact e_ret ⟨rfl, _, rfl, rfl⟩
            | (exfalso; clear hT; simp at *; omega)
        | some u =>
          rw [hu] at hbad hT
          simp only [tyoBad] at hbad
          obtain ⟨hu1, hu2⟩ := typeOfA_ok hd hps hu
          have hS := f_types_Is d.types hd.ty u t hu1 hu2
          cases hs : subB d.types u t with
          | true =>
            rw [hs] at hbad hS
            rw [if_pos rfl] at hbad
            clear ha
            repeat' (first | refine i_s rfl ?_ | refine sw ?_ | refine c_f rfl ?_ | refine ja rfl rfl ?_ | refine jd rfl rfl ?_ | refine c_cond rfl (fun h => ?_) (fun h => ?_) | refine sf rfl rfl hT ?_ | refine sf rfl rfl hS ?_ | fail)
            all_goals first
              | (exact e_for hlt (all_succ hi hbad) ft)
              | (exfalso; clear hT hS; simp at *; omega)
          | false =>
            rw [hs] at hbad hS
            rw [if_neg (by simp)] at hbad
            rw [scan0_hit hi hlt hbad]
            clear hi hbad ha
            repeat' (first | refine i_s rfl ?_ | refine sw ?_ | refine c_t rfl ?_ | refine c_f rfl ?_ | refine jd rfl rfl ?_ | refine c_cond rfl (fun h => ?_) (fun h => ?_) | refine sf rfl rfl hT ?_ | refine sf rfl rfl hS ?_ | fail)
            all_goals first
              | exact e_ret ⟨rfl, _, rfl, rfl⟩
              | (exfalso; clear hT hS; simp at *; omega)
      · rw [scan0_none fun j hj => hi j (by omega)]
        clear hi ha
        repeat' (first | refine i_s rfl ?_ | refine sw ?_ | refine c_cond rfl (fun h => ?_) (fun h => ?_))
        all_goals first
          | exact e_ret ⟨rfl, _, rfl, rfl⟩
          | (exfalso; simp at *; omega)
    · rw [atomCode_len h1 hp h2]
      refine Fn.step mixed k_domain_Atom ?_
      repeat' (first | refine i_len rfl ?_ | refine i_s rfl ?_ | refine sw ?_ | refine i_gt rfl ?_ | refine i_gf rfl ?_ | refine c_t rfl ?_ | refine jd rfl rfl ?_ | refine i_box rfl rfl ?_ | (refine sp ?_ ?_ <;> try intro h) | fail)
      all_goals first
        | exact e_ret ⟨rfl, _, rfl, rfl⟩
        | (exfalso; simp at *; omega)
def c_domain_atoms : Cmd :=
 (qS [qx 4 7168262 6 0, qc 8 0]
 (qT (qS [qm 12 2, qn 13 12, qm 14 3, qu 15 .gtr [] 13 14]
 (.cond (.t 15) (.seq (.ops [qc 8 2]) .ret) .skip))
 (qT (qS [qm 16 2, qn 17 16, qc 18 0]
 (.block 0 (.loop (qS [qu 19 .lss [] 18 17]
 (qT (.cond (.t 19) .skip (.exit 0))
 (qT (.block 1 (qS [qi 20 2 16 18, qL 21 2 20, qq 10 (.alloc 7168642 (.agg [.int .i64 0, .sl .nil []])), qs 2 10 21]
 (qS [qL 22 6 4, qm 23 1, qL 24 2 10, qk 25 41 [22, 23, 24], qm 11 25]
 (qS [qm 26 11, qv 27 .neq [.i] 26 0]
 (.cond (.t 27) (.seq (.ops [qm 28 11, qm 8 28]) .ret) .skip)))))
 (.ops [qv 29 .add [] 18 1, qm 18 29])))))))
 (.seq (.ops [qc 8 0]) .ret))))
def r_domain_atoms : List RVar := [.tmp 8]
def n_domain_atoms : Nat := 30
theorem k_domain_atoms : chkFn Go.Proofs.Tryz.prog 112 n_domain_atoms r_domain_atoms c_domain_atoms = true := by kernel_rfl
theorem f_domain_atoms (d : Dom) (hd : DoTy d) (ps : List Int) (hps : PsOk d ps) (l : List At) (hl : l.length ≤ 140737488355328) (ho : ∀ a ∈ l, AtOk a) (most : Nat) (hm : most ≤ 1000) :
    Fc Go.Proofs.Tryz.prog 112 [domV d, .sl .p (ps.map i64V), .sl .p (l.map atV), .int .i64 most] (.int .i64 (atomsCode d ps l most)) := by
  unfold atomsCode
  by_cases h3 : l.length > most
  · rw [if_pos h3]
    refine Fn.step mixed k_domain_atoms ?_
    repeat' (first | refine i_len rfl ?_ | refine i_s rfl ?_ | refine sw ?_ | refine i_box rfl rfl ?_ | refine c_cond rfl (fun h => ?_) (fun h => ?_))
    all_goals first
      | exact e_ret ⟨rfl, _, rfl, rfl⟩
      | (exfalso; simp at *; omega)
  · rw [if_neg h3]
    refine Fn.step mixed k_domain_atoms ?_
    repeat' (first | refine i_len rfl ?_ | refine i_s rfl ?_ | refine sw ?_ | refine i_box rfl rfl ?_ | refine c_cond rfl (fun h => ?_) (fun h => ?_))
    all_goals first
      | (exfalso; simp at *; omega)
      | skip
    refine c_for l.length (fun k => [(1, .sl .p (ps.map i64V)), (4, .bptr 7168262 0), (16, .sl .p (l.map atV)), (17, .int .i64 l.length), (18, .int .i64 k)]) (fun _ => [(7168262, .box (domV d))]) (fun k => ∀ j, j < k → ∀ x, l[j]? = some x → atomCode d ps x = 0) all_zero ft fun k hk hi => ?_
    by_cases hlt : k < l.length
    · obtain ⟨x, hx⟩ := get_some hlt
      have hA := f_domain_Atom d hd ps hps x (ho x (mem_get hx))
      by_cases hz : atomCode d ps x = 0
      · rw [hz] at hA
        repeat' (first | refine i_s rfl ?_ | refine sw ?_ | refine c_f rfl ?_ | refine ja rfl rfl ?_ | refine jd rfl rfl ?_ | refine i_stb rfl ?_ | refine i_alloc rfl ?_ | refine c_cond rfl (fun h => ?_) (fun h => ?_) | refine sf rfl rfl hA ?_ | fail)
        all_goals first
          | (exact e_for hlt (all_succ hi fun y hy => by rw [hx] at hy; cases hy; exact hz) ft)
          | (exfalso; clear hA; simp at *; omega)
      · rw [fnz_hit hi hx hz]
        clear hi
        generalize atomCode d ps x = e at *
        repeat' (first | refine i_s rfl ?_ | refine sw ?_ | refine ja rfl rfl ?_ | refine jd rfl rfl ?_ | refine i_stb rfl ?_ | refine i_alloc rfl ?_ | refine c_cond rfl (fun h => ?_) (fun h => ?_) | refine sf rfl rfl hA ?_ | fail)
        all_goals first
          | exact e_ret ⟨rfl, _, rfl, rfl⟩
          | (exfalso; clear hA; simp at *; omega)
    · rw [fnz_ok fun j hj => hi j (by omega)]
      clear hi
      repeat' (first | refine i_s rfl ?_ | refine sw ?_ | refine c_cond rfl (fun h => ?_) (fun h => ?_))
      all_goals first
        | exact e_ret ⟨rfl, _, rfl, rfl⟩
        | (exfalso; simp at *; omega)
def c_domain_literals : Cmd :=
 (qS [qx 3 4736198 6 0, qc 6 0]
 (qS [qq 7 (.newVec 4736450)]
 (qT (qS [qm 10 2, qn 11 10, qc 12 0]
 (.block 0 (.loop (qS [qu 13 .lss [] 12 11]
 (qT (.cond (.t 13) .skip (.exit 0))
 (qT (.block 1 (qS [qi 14 3 10 12, qL 15 3 14, qq 9 (.alloc 4736579 (.agg [.bool false, .int .i64 0, .sl .nil []])), qs 3 9 15]
 (.ops [qm 16 7, qf 17 1 9, qL 18 2 17, qq 19 (.bsl 2 [.t 18]), qq 20 (.append 2 32 60 (.t 16) (.t 19)), qm 7 20])))
 (.ops [qv 21 .add [] 12 1, qm 12 21])))))))
 (.seq (.ops [qL 22 6 3, qm 23 1, qm 24 7, qq 25 (.call .f (.c (.fn 112 [])) [.t 22, .t 23, .t 24, .c (.int .i64 8)]), qm 6 25]) .ret))))
def r_domain_literals : List RVar := [.tmp 6]
def n_domain_literals : Nat := 26
theorem k_domain_literals : chkFn Go.Proofs.Tryz.prog 74 n_domain_literals r_domain_literals c_domain_literals = true := by kernel_rfl
theorem f_domain_literals (d : Dom) (hd : DoTy d) (ps : List Int) (hps : PsOk d ps) (l : List Lit) (hl : l.length ≤ 3518437208883) (ho : ∀ x ∈ l, AtOk x.at_) :
    Fc Go.Proofs.Tryz.prog 74 [domV d, .sl .p (ps.map i64V), .sl .p (l.map litV)] (.int .i64 (atomsCode d ps (l.map Lit.at_) 8)) := by
  have hA := f_domain_atoms d hd ps hps (l.map Lit.at_) (by simp; omega) (by intro a ha; obtain ⟨x, hx, rfl⟩ := List.mem_map.1 ha; exact ho x hx) 8 (by omega)
  refine Fn.step mixed k_domain_literals ?_
  repeat (first | refine i_len rfl ?_ | refine i_s rfl ?_ | refine sw ?_ | refine i_box rfl rfl ?_ | refine i_nv rfl ?_)
  refine c_for l.length (fun k => [(1, .sl .p (ps.map i64V)), (3, .bptr 4736198 0), (7, .sl (.own 4736450) (((l.take k).map Lit.at_).map atV)), (10, .sl .p (l.map litV)), (11, .int .i64 l.length), (12, .int .i64 k)]) (fun k => [(4736198, .box (domV d)), (4736450, .vec (l.take k).length)]) (fun _ => True) trivial ⟨⟨rfl, rfl, by simp; rfl, rfl, rfl, rfl, trivial⟩, ⟨rfl, by simp; rfl, trivial⟩, rfl⟩ fun k hk _ => ?_
  have htl : (l.take k).length = k := by rw [List.length_take]; omega
  repeat (first | refine i_s rfl ?_ | refine sw ?_)
  refine c_cond rfl (fun h => ?_) (fun h => ?_)
  · have hlt : k < l.length := by simpa using h
    obtain ⟨x, hx⟩ := get_some hlt
    clear h hA
    repeat (first | refine i_s rfl ?_ | refine sw ?_ | refine jd rfl rfl ?_ | refine i_stb rfl ?_ | refine i_alloc rfl ?_)
    refine i_appM (l := (l.take k).map Lit.at_) (f := atV) (c := x.at_) (k := (l.take k).length) rfl rfl rfl (by simp) rfl (by omega) (by omega) ?_
    repeat (first | refine i_s rfl ?_ | refine sw ?_ | refine ja rfl rfl ?_)
    refine e_for hlt trivial ⟨⟨rfl, rfl, ?_, rfl, rfl, rfl, trivial⟩, ⟨rfl, ?_, trivial⟩, rfl⟩
    · rw [take_succ_get hx]; simp; rfl
    · rw [take_succ_get hx]; simp; rfl
  · have hge : k = l.length := by have : ¬ k < l.length := by simpa using h
                                  omega
    subst hge
    rw [List.take_length]
    clear h
    repeat' (first | refine i_s rfl ?_ | refine sw ?_ | refine sf rfl rfl hA ?_ | fail)
    exact e_ret ⟨rfl, _, rfl, rfl⟩
def c_domain_predicate_1 : Cmd :=
 (qS [qx 2 6848130 2 0, qb 3 false]
 (.seq (.ops [qf 4 0 2, ql 5 1 4, qf 6 0 1, ql 7 1 6, qu 8 .eql [.s] 5 7, qm 3 8]) .ret))
def r_domain_predicate_1 : List RVar := [.tmp 3]
def n_domain_predicate_1 : Nat := 9
theorem k_domain_predicate_1 : chkFn Go.Proofs.Tryz.prog 107 n_domain_predicate_1 r_domain_predicate_1 c_domain_predicate_1 = true := by kernel_rfl
theorem f_domain_predicate_1 (u t : Prd) : Fc Go.Proofs.Tryz.prog 107 [prdV u, .cptr .p (prdV t) 0] (.bool (u.name == t.name)) := by
  refine Fn.step mixed k_domain_predicate_1 ?_
  repeat' (first | refine i_s rfl ?_ | refine sw ?_ | refine i_box rfl rfl ?_)
  exact e_ret ⟨rfl, _, rfl, rfl⟩
def c_domain_predicate : Cmd :=
 (qS [qx 2 4544134 6 0, qc 4 0]
 (qS [qf 6 2 2, ql 7 1 6, qm 8 1, qi 9 2 7 8, qL 10 2 9, qq 5 (.alloc 4544322 (.agg [.str [], .sl .nil []])), qs 2 5 10]
 (qT (.block 0 (qS [qf 12 0 5, ql 13 1 12, qk 14 101 [13], qq 15 (.not (.t 14)), qm 16 15, qg 17 16 false (.faddr 0 (.t 5)), qg 18 16 false (.load false 1 (.t 17)), qg 19 16 false (.bin .eql false [.s] (.t 18) (.c (.str [110, 111, 116]))), qq 20 (.pick (.t 16) (.c (.bool true)) (.t 19)), qm 11 20]
 (.cond (.t 11) (.seq (.ops [qc 4 12]) .ret) (qS [qf 22 2 2, ql 23 1 22, qm 24 1, qq 25 (.slice false 2 (.t 23) none (some (.t 24))), qq 26 (.mkfn 107 [.t 5]), qk 27 106 [25, 26], qm 21 27]
 (.cond (.t 21) (.seq (.ops [qc 4 7]) .ret) .skip)))))
 (.seq (.ops [qL 28 6 2, qf 29 1 5, ql 30 1 29, qk 31 34 [28, 30], qm 4 31]) .ret))))
def r_domain_predicate : List RVar := [.tmp 4]
def n_domain_predicate : Nat := 32
theorem k_domain_predicate : chkFn Go.Proofs.Tryz.prog 71 n_domain_predicate r_domain_predicate c_domain_predicate = true := by kernel_rfl
theorem f_domain_predicate (d : Dom) (ho : DoOk d) (i : Nat) (p : Prd) (hp : d.preds[i]? = some p) : Fc Go.Proofs.Tryz.prog 71 [domV d, .int .i64 i] (.int .i64 (prdCode d i)) := by
  have hlt := get_lt hp
  have hpl := ho.preds.1
  have hpo := ho.preds.2 p (mem_get hp)
  have hN := f_types_IsName p.name hpo.1
  have hC := f_ContainsFunc_Predicate (d.preds.take i) (fun q => q.name == p.name) 107 [.cptr .p (prdV p) 0] (by simp; omega) (fun _ _ => rfl) rfl (fun u _ => f_domain_predicate_1 u p)
  have hP := f_domain_Params d ho.types.1 p.types (by omega)
  have hcode : prdCode d i = if nameB p.name = false ∨ p.name = notS then 12 else if (d.preds.take i).any (fun q => q.name == p.name) = true then 7 else paramsCode d.types.length p.types := by simp only [prdCode, hp]
  rw [hcode]
  clear hcode
  generalize nameB p.name = b1 at *
  generalize (d.preds.take i).any (fun q => q.name == p.name) = b2 at *
  generalize paramsCode d.types.length p.types = e at *
  clear ho
  cases b1 with
  | false =>
    rw [if_pos (.inl rfl)]
    refine Fn.step mixed k_domain_predicate ?_
    repeat' (first | refine i_s rfl ?_ | refine sw ?_ | refine i_gf rfl ?_ | refine c_t rfl ?_ | refine jd rfl rfl ?_ | refine i_stb rfl ?_ | refine i_alloc rfl ?_ | refine i_box rfl rfl ?_ | refine sf rfl rfl hN ?_ | fail)
    all_goals first
      | exact e_ret ⟨rfl, _, rfl, rfl⟩
      | (exfalso; clear hN hC hP; simp at *; done)
  | true =>
    by_cases c2 : p.name = notS
    · rw [if_pos (.inr c2)]
      have c3 : (p.name == [110, 111, 116]) = true := by rw [c2]; rfl
      refine Fn.step mixed k_domain_predicate ?_
      repeat' (first | refine i_s rfl ?_ | refine sw ?_ | refine i_gt rfl ?_ | refine jd rfl rfl ?_ | refine jh rfl rfl ?_ | refine i_stb rfl ?_ | refine i_alloc rfl ?_ | refine i_box rfl rfl ?_ | refine c_cond rfl (fun h => ?_) (fun h => ?_) | refine sf rfl rfl hN ?_ | fail)
      all_goals first
        | exact e_ret ⟨rfl, _, rfl, rfl⟩
        | (exfalso; clear hN hC hP; simp_all; done)
    · rw [if_neg (by simp [c2])]
      have c3 : (p.name == [110, 111, 116]) = false := by rw [beq_eq_false_iff_ne]; exact c2
      cases b2 with
      | true =>
        rw [if_pos rfl]
        refine Fn.step mixed k_domain_predicate ?_
        repeat' (first | refine i_s rfl ?_ | refine sw ?_ | refine i_gt rfl ?_ | refine c_t rfl ?_ | refine jd rfl rfl ?_ | refine jh rfl rfl ?_ | refine i_stb rfl ?_ | refine i_alloc rfl ?_ | refine i_box rfl rfl ?_ | refine c_cond rfl (fun h => ?_) (fun h => ?_) | refine sf rfl rfl hN ?_ | refine sf rfl rfl hC ?_ | fail)
        all_goals first
          | exact e_ret ⟨rfl, _, rfl, rfl⟩
          | (exfalso; clear hN hC hP; simp_all; done)
      | false =>
        rw [if_neg (by simp)]
        refine Fn.step mixed k_domain_predicate ?_
        repeat' (first | refine i_s rfl ?_ | refine sw ?_ | refine i_gt rfl ?_ | refine c_f rfl ?_ | refine jd rfl rfl ?_ | refine jh rfl rfl ?_ | refine i_stb rfl ?_ | refine i_alloc rfl ?_ | refine i_box rfl rfl ?_ | refine c_cond rfl (fun h => ?_) (fun h => ?_) | refine sf rfl rfl hN ?_ | refine sf rfl rfl hC ?_ | refine sf rfl rfl hP ?_ | fail)
        all_goals first
          | exact e_ret ⟨rfl, _, rfl, rfl⟩
          | (exfalso; clear hN hC hP; simp_all; done)
def c_domain_schema_1 : Cmd :=
 (qS [qx 2 6976135 7 0, qb 3 false]
 (.seq (.ops [qf 4 0 2, ql 5 1 4, qf 6 0 1, ql 7 1 6, qu 8 .eql [.s] 5 7, qm 3 8]) .ret))
def r_domain_schema_1 : List RVar := [.tmp 3]
def n_domain_schema_1 : Nat := 9
theorem k_domain_schema_1 : chkFn Go.Proofs.Tryz.prog 109 n_domain_schema_1 r_domain_schema_1 c_domain_schema_1 = true := by kernel_rfl
theorem f_domain_schema_1 (u t : Sch) : Fc Go.Proofs.Tryz.prog 109 [schV u, .cptr .p (schV t) 0] (.bool (u.name == t.name)) := by
  refine Fn.step mixed k_domain_schema_1 ?_
  repeat' (first | refine i_s rfl ?_ | refine sw ?_ | refine i_box rfl rfl ?_)
  exact e_ret ⟨rfl, _, rfl, rfl⟩
def c_domain_schema_2 : Cmd :=
 (qS [qx 2 7040130 2 0, qb 3 false]
 (.seq (.ops [qf 4 0 2, ql 5 1 4, qv 6 .lss [] 5 0, qm 7 6, qg 8 7 false (.faddr 0 (.t 2)), qg 9 7 false (.load false 1 (.t 8)), qg 10 7 false (.faddr 1 (.t 2)), qg 11 7 false (.load false 1 (.t 10)), qg 12 7 false (.bin .geq false [] (.t 9) (.t 11)), qq 13 (.pick (.t 7) (.c (.bool true)) (.t 12)), qm 14 13, qg 15 14 false (.faddr 1 (.t 2)), qg 16 14 false (.load false 1 (.t 15)), qg 17 14 false (.load false 1 (.t 1)), qg 18 14 false (.bin .geq false [] (.t 16) (.t 17)), qq 19 (.pick (.t 14) (.c (.bool true)) (.t 18)), qm 3 19]) .ret))
def r_domain_schema_2 : List RVar := [.tmp 3]
def n_domain_schema_2 : Nat := 20
theorem k_domain_schema_2 : chkFn Go.Proofs.Tryz.prog 110 n_domain_schema_2 r_domain_schema_2 c_domain_schema_2 = true := by kernel_rfl
theorem f_domain_schema_2 (p : Int × Int) (n : Nat) : Fc Go.Proofs.Tryz.prog 110 [pairV p, .cptr .p (.int .i64 n) 0] (.bool (pairBad n p)) := by
  refine Fn.step mixed k_domain_schema_2 ?_
  repeat' (first | refine i_s rfl ?_ | refine sw ?_ | refine i_gt rfl ?_ | refine i_gf rfl ?_ | refine i_box rfl rfl ?_ | refine i_g rfl (fun h => ?_) (fun h => ?_))
  all_goals (refine e_ret ⟨rfl, _, rfl, congrArg V.bool ?_⟩; unfold pairBad; rw [Bool.eq_iff_iff]; simp at *; (try omega))
theorem schSelf_ps {d : Dom} {s : Sch} (h : paramsCode d.types.length s.types = 0) : PsOk d s.types := by
  obtain ⟨h1, h2⟩ := paramsCode_ok h
  exact ⟨by omega, h2⟩
def c_domain_schema : Cmd :=
 (qS [qx 2 4608134 6 0, qc 4 0]
 (qS [qf 13 3 2, ql 14 1 13, qm 15 1, qi 16 7 14 15, qL 17 7 16, qq 5 (.alloc 4608327 (.agg [.str [], .sl .nil [], .sl .nil [], .sl .nil [], .sl .nil [], .sl .nil [], .int .i64 0])), qs 7 5 17]
 (qT (.block 0 (qS [qf 19 0 5, ql 20 1 19, qk 21 101 [20], qq 22 (.not (.t 21)), qm 18 22]
 (.cond (.t 18) (.seq (.ops [qc 4 12]) .ret) (qS [qf 24 3 2, ql 25 1 24, qm 26 1, qq 27 (.slice false 7 (.t 25) none (some (.t 26))), qq 28 (.mkfn 109 [.t 5]), qk 29 108 [27, 28], qm 23 29]
 (.cond (.t 23) (.seq (.ops [qc 4 7]) .ret) .skip)))))
 (qT (qS [qL 30 6 2, qf 31 1 5, ql 32 1 31, qk 33 34 [30, 32], qm 6 33]
 (qS [qm 34 6, qv 35 .neq [.i] 34 0]
 (.cond (.t 35) (.seq (.ops [qm 36 6, qm 4 36]) .ret) .skip)))
 (qS [qf 37 1 5, ql 38 1 37, qn 39 38, qq 7 (.alloc 4608449 (.int .i64 0)), qs 1 7 39]
 (qS [qq 40 (.mkfn 110 [.t 7]), qm 8 40]
 (qT (qS [qf 41 2 5, ql 42 1 41, qn 43 42, qv 44 .gtr [] 43 8]
 (.cond (.t 44) (.seq (.ops [qc 4 2]) .ret) .skip))
 (qT (qS [qf 45 2 5, ql 46 1 45, qm 47 8, qk 48 111 [46, 47]]
 (.cond (.t 48) (.seq (.ops [qc 4 3]) .ret) .skip))
 (qT (qS [qL 49 6 2, qf 50 1 5, ql 51 1 50, qf 52 3 5, ql 53 1 52, qk 54 74 [49, 51, 53], qm 9 54]
 (qS [qm 55 9, qv 56 .neq [.i] 55 0]
 (.cond (.t 56) (.seq (.ops [qm 57 9, qm 4 57]) .ret) .skip)))
 (qT (qS [qf 58 4 5, ql 59 1 58, qf 60 5 5, ql 61 1 60, qq 62 (.bsl 1 [.t 59, .t 61]), qn 63 62, qc 64 0]
 (.block 1 (.loop (qS [qu 65 .lss [] 64 63]
 (qT (.cond (.t 65) .skip (.exit 1))
 (qT (.block 2 (qS [qi 66 1 62 64, ql 67 1 66, qm 11 67]
 (qS [qL 68 6 2, qf 69 1 5, ql 70 1 69, qm 71 11, qq 72 (.call .f (.c (.fn 112 [])) [.t 68, .t 70, .t 71, .c (.int .i64 8)]), qm 12 72]
 (qS [qm 73 12, qv 74 .neq [.i] 73 0]
 (.cond (.t 74) (.seq (.ops [qm 75 12, qm 4 75]) .ret) .skip)))))
 (.ops [qv 76 .add [] 64 1, qm 64 76])))))))
 (qT (qS [qf 77 6 5, ql 78 1 77, qv 79 .lss [] 78 0, qm 80 79, qg 81 80 false (.faddr 6 (.t 5)), qg 82 80 false (.load false 1 (.t 81)), qg 83 80 false (.bin .gtr false [] (.t 82) (.c (.int .i64 100))), qq 84 (.pick (.t 80) (.c (.bool true)) (.t 83))]
 (.cond (.t 84) (.seq (.ops [qc 4 3]) .ret) .skip))
 (.seq (.ops [qc 4 0]) .ret))))))))))))
def r_domain_schema : List RVar := [.tmp 4]
def n_domain_schema : Nat := 85
theorem k_domain_schema : chkFn Go.Proofs.Tryz.prog 72 n_domain_schema r_domain_schema c_domain_schema = true := by kernel_rfl
theorem f_domain_schema (d : Dom) (hd : DoTy d) (ho : DoOk d) (i : Nat) (s : Sch) (hp : d.schemas[i]? = some s) : Fc Go.Proofs.Tryz.prog 72 [domV d, .int .i64 i] (.int .i64 (schCode d i)) := by
  have hlt := get_lt hp
  have hpl := ho.schemas.1
  have hso := ho.schemas.2 s (mem_get hp)
  have hst := hso.types
  have hsd := hso.diff
  have hN := f_types_IsName s.name hso.name
  have hC := f_ContainsFunc_Schema (d.schemas.take i) (fun q => q.name == s.name) 109 [.cptr .p (schV s) 0] (by simp; omega) (fun _ _ => rfl) rfl (fun u _ => f_domain_schema_1 u s)
  have hP := f_domain_Params d ho.types.1 s.types (by omega)
  have hcode : schCode d i = if nameB s.name = false then 12 else if (d.schemas.take i).any (fun q => q.name == s.name) = true then 7 else schSelf d s := by simp only [schCode, hp]
  rw [hcode]
  clear hcode
  generalize (d.schemas.take i).any (fun q => q.name == s.name) = b2 at *
  generalize nameB s.name = b1 at *
  cases b1 with
  | false =>
    rw [if_pos rfl]
    refine Fn.step mixed k_domain_schema ?_
    repeat' (first | refine i_s rfl ?_ | refine sw ?_ | refine c_t rfl ?_ | refine jd rfl rfl ?_ | refine i_stb rfl ?_ | refine i_alloc rfl ?_ | refine i_box rfl rfl ?_ | refine sf rfl rfl hN ?_ | fail)
    all_goals first
      | exact e_ret ⟨rfl, _, rfl, rfl⟩
      | (exfalso; clear hN hC hP; simp at *; done)
  | true =>
    rw [if_neg (by simp)]
    cases b2 with
    | true =>
      rw [if_pos rfl]
      refine Fn.step mixed k_domain_schema ?_
      repeat' (first | refine i_s rfl ?_ | refine sw ?_ | refine c_t rfl ?_ | refine c_f rfl ?_ | refine jd rfl rfl ?_ | refine jh rfl rfl ?_ | refine i_stb rfl ?_ | refine i_alloc rfl ?_ | refine i_box rfl rfl ?_ | refine sf rfl rfl hN ?_ | refine sf rfl rfl hC ?_ | fail)
      all_goals first
        | exact e_ret ⟨rfl, _, rfl, rfl⟩
        | (exfalso; clear hN hC hP; simp at *; done)
    | false =>
      rw [if_neg (by simp)]
      by_cases h1 : paramsCode d.types.length s.types = 0
      · have hps := schSelf_ps h1
        rw [h1] at hP
        by_cases h2 : s.diff.length > 8
        · have e : schSelf d s = 2 := by unfold schSelf; rw [if_neg (by simp [h1]), if_pos h2]
          rw [e]
          refine Fn.step mixed k_domain_schema ?_
          repeat' (first | refine i_len rfl ?_ | refine i_s rfl ?_ | refine sw ?_ | refine c_f rfl ?_ | refine jd rfl rfl ?_ | refine jh rfl rfl ?_ | refine i_stb rfl ?_ | refine i_alloc rfl ?_ | refine i_box rfl rfl ?_ | refine c_cond rfl (fun h => ?_) (fun h => ?_) | refine sf rfl rfl hN ?_ | refine sf rfl rfl hC ?_ | refine sf rfl rfl hP ?_ | fail)
          all_goals first
            | exact e_ret ⟨rfl, _, rfl, rfl⟩
            | (exfalso; clear hN hC hP; simp at *; omega)
        · have hD := f_ContainsFunc_2_int s.diff (pairBad s.types.length) 110 [.cptr .p (.int .i64 s.types.length) 0] (by omega) (fun _ _ => rfl) rfl (fun q _ => f_domain_schema_2 q s.types.length)
          cases h3 : s.diff.any (pairBad s.types.length) with
          | true =>
            have e : schSelf d s = 3 := by unfold schSelf; rw [if_neg (by simp [h1]), if_neg h2, if_pos h3]
            rw [e]
            rw [h3] at hD
            refine Fn.step mixed k_domain_schema ?_
            repeat' (first | refine i_len rfl ?_ | refine i_s rfl ?_ | refine sw ?_ | refine c_t rfl ?_ | refine c_f rfl ?_ | refine jd rfl rfl ?_ | refine jh rfl rfl ?_ | refine i_stb rfl ?_ | refine i_alloc rfl ?_ | refine i_box rfl rfl ?_ | refine c_cond rfl (fun h => ?_) (fun h => ?_) | refine sf rfl rfl hN ?_ | refine sf rfl rfl hC ?_ | refine sf rfl rfl hP ?_ | refine sf rfl rfl hD ?_ | fail)
            all_goals first
              | exact e_ret ⟨rfl, _, rfl, rfl⟩
              | (exfalso; clear hN hC hP hD; simp at *; omega)
          | false =>
            rw [h3] at hD
            have hL := f_domain_literals d hd s.types hps s.pre hso.pre hso.preA
            have hA1 := f_domain_atoms d hd s.types hps s.add (by have := hso.add; omega) hso.addA 8 (by omega)
            have hA2 := f_domain_atoms d hd s.types hps s.del (by have := hso.del; omega) hso.delA 8 (by omega)
            have e : schSelf d s = if atomsCode d s.types (s.pre.map Lit.at_) 8 ≠ 0 then atomsCode d s.types (s.pre.map Lit.at_) 8 else if atomsCode d s.types s.add 8 ≠ 0 then atomsCode d s.types s.add 8 else if atomsCode d s.types s.del 8 ≠ 0 then atomsCode d s.types s.del 8
              else if s.cost < 0 ∨ s.cost > 100 then 3 else 0 := by unfold schSelf; rw [if_neg (by simp [h1]), if_neg h2, if_neg (by simp [h3])]
            rw [e]
            clear e ho hso hps h1 h3
            generalize atomsCode d s.types (s.pre.map Lit.at_) 8 = c1 at *
            generalize atomsCode d s.types s.add 8 = c2 at *
            generalize atomsCode d s.types s.del 8 = c3 at *
            by_cases z1 : c1 = 0
            · subst z1
              rw [if_neg (by simp)]
              refine Fn.step mixed k_domain_schema ?_
              repeat' (first | refine i_len rfl ?_ | refine i_s rfl ?_ | refine sw ?_ | refine c_f rfl ?_ | refine jd rfl rfl ?_ | refine jh rfl rfl ?_ | refine i_stb rfl ?_ | refine i_alloc rfl ?_ | refine i_box rfl rfl ?_ | refine c_cond rfl (fun h => ?_) (fun h => ?_) | refine sf rfl rfl hN ?_ | refine sf rfl rfl hC ?_ | refine sf rfl rfl hP ?_ | refine sf rfl rfl hD ?_ | refine sf rfl rfl hL ?_ | fail)
              all_goals first
                | (exfalso; clear hN hC hP hD hL hA1 hA2; simp at *; omega)
                | skip
              clear hN hC hP hD hL
              refine c_for 2 (fun k => [(2, .bptr 4608134 0), (5, .bptr 4608327 0), (62, .sl .p ([s.add, s.del].map fun l => V.sl .p (l.map atV))), (63, .int .i64 2), (64, .int .i64 k)]) (fun _ => [(4608134, .box (domV d)), (4608327, .box (schV s))]) (fun k => (0 < k → c2 = 0) ∧ (1 < k → c3 = 0)) (by simp) ft fun k hk hi => ?_
              have ha : ([s.add, s.del] : List (List At))[0]? = some s.add := rfl
              have hb : ([s.add, s.del] : List (List At))[1]? = some s.del := rfl
              have hk3 : k = 0 ∨ k = 1 ∨ k = 2 := by omega
              rcases hk3 with rfl | rfl | rfl
              · clear hi hA2
                by_cases z2 : c2 = 0
                · subst z2
                  repeat' (first | refine i_s rfl ?_ | refine sw ?_ | refine c_t rfl ?_ | refine c_f rfl ?_ | refine ja rfl rfl ?_ | refine jd rfl rfl ?_ | refine sf rfl rfl hA1 ?_ | fail)
                  all_goals first
                    | (exact e_for (by omega) ⟨fun _ => rfl, fun h => by omega⟩ ft)
                    | (exfalso; clear hA1; simp at *; done)
                · rw [if_pos z2]
                  repeat' (first | refine i_s rfl ?_ | refine sw ?_ | refine c_t rfl ?_ | refine ja rfl rfl ?_ | refine jd rfl rfl ?_ | refine c_cond rfl (fun h => ?_) (fun h => ?_) | refine sf rfl rfl hA1 ?_ | fail)
                  all_goals first
                    | exact e_ret ⟨rfl, _, rfl, rfl⟩
                    | (exfalso; clear hA1; simp_all; done)
              · have z2 := hi.1 (by omega)
                rw [if_neg (by simp [z2])]
                clear hA1 hi
                by_cases z3 : c3 = 0
                · subst z3
                  repeat' (first | refine i_s rfl ?_ | refine sw ?_ | refine c_t rfl ?_ | refine c_f rfl ?_ | refine ja rfl rfl ?_ | refine jd rfl rfl ?_ | refine sf rfl rfl hA2 ?_ | fail)
                  all_goals first
                    | (exact e_for (by omega) ⟨fun _ => z2, fun h => rfl⟩ ft)
                    | (exfalso; clear hA2; simp at *; done)
                · rw [if_pos z3]
                  repeat' (first | refine i_s rfl ?_ | refine sw ?_ | refine c_t rfl ?_ | refine ja rfl rfl ?_ | refine jd rfl rfl ?_ | refine c_cond rfl (fun h => ?_) (fun h => ?_) | refine sf rfl rfl hA2 ?_ | fail)
                  all_goals first
                    | exact e_ret ⟨rfl, _, rfl, rfl⟩
                    | (exfalso; clear hA2; simp_all; done)
              · have z2 := hi.1 (by omega)
                have z3 := hi.2 (by omega)
                rw [if_neg (by simp [z2]), if_neg (by simp [z3])]
                clear hA1 hA2 hi
                repeat' (first | refine i_s rfl ?_ | refine sw ?_ | refine i_gt rfl ?_ | refine i_gf rfl ?_ | refine c_t rfl ?_ | refine c_f rfl ?_ | (refine sp ?_ ?_ <;> try intro h) | fail)
                all_goals first
                  | (refine e_ret ⟨rfl, _, rfl, congrArg (V.int .i64) ?_⟩; simp at *; omega)
                  | (exfalso; simp at *; omega)
                  | (refine e_ret ⟨rfl, _, rfl, congrArg (V.int .i64) ?_⟩; simp at *; (repeat' split) <;> omega)
            · rw [if_pos z1]
              refine Fn.step mixed k_domain_schema ?_
              repeat' (first | refine i_len rfl ?_ | refine i_s rfl ?_ | refine sw ?_ | refine c_f rfl ?_ | refine jd rfl rfl ?_ | refine jh rfl rfl ?_ | refine i_stb rfl ?_ | refine i_alloc rfl ?_ | refine i_box rfl rfl ?_ | refine c_cond rfl (fun h => ?_) (fun h => ?_) | refine sf rfl rfl hN ?_ | refine sf rfl rfl hC ?_ | refine sf rfl rfl hP ?_ | refine sf rfl rfl hD ?_ | refine sf rfl rfl hL ?_ | fail)
              all_goals first
                | exact e_ret ⟨rfl, _, rfl, rfl⟩
                | (exfalso; clear hN hC hP hD hL hA1 hA2; simp at *; omega)
                | (exfalso; clear hN hC hP hD hL hA1 hA2; simp_all; done)
      · have e : schSelf d s = paramsCode d.types.length s.types := by unfold schSelf; rw [if_pos h1]
        rw [e]
        clear e ho hso
        generalize paramsCode d.types.length s.types = c at *
        refine Fn.step mixed k_domain_schema ?_
        repeat' (first | refine i_len rfl ?_ | refine i_s rfl ?_ | refine sw ?_ | refine c_f rfl ?_ | refine jd rfl rfl ?_ | refine jh rfl rfl ?_ | refine i_stb rfl ?_ | refine i_alloc rfl ?_ | refine i_box rfl rfl ?_ | refine c_cond rfl (fun h => ?_) (fun h => ?_) | refine sf rfl rfl hN ?_ | refine sf rfl rfl hC ?_ | refine sf rfl rfl hP ?_ | fail)
        all_goals first
          | exact e_ret ⟨rfl, _, rfl, rfl⟩
          | (exfalso; clear hN hC hP; simp_all; done)
def c_domain_start_1 : Cmd :=
 (qS [qx 2 7232130 2 0, qb 3 false]
 (.seq (.ops [qL 4 2 1, qL 5 2 2, qk 6 46 [4, 5], qv 7 .eql [.i] 6 0, qm 3 7]) .ret))
def r_domain_start_1 : List RVar := [.tmp 3]
def n_domain_start_1 : Nat := 8
theorem k_domain_start_1 : chkFn Go.Proofs.Tryz.prog 113 n_domain_start_1 r_domain_start_1 c_domain_start_1 = true := by kernel_rfl
theorem f_domain_start_1 (u t : At) (hu : AtOk u) (ht : AtOk t) : Fc Go.Proofs.Tryz.prog 113 [atV u, .cptr .p (atV t) 0] (.bool (decide (t = u))) := by
  have h := f_domain_Compare t u ht hu
  refine Fn.step mixed k_domain_start_1 ?_
  repeat' (first | refine i_s rfl ?_ | refine sw ?_ | refine i_box rfl rfl ?_ | refine sf rfl rfl h ?_ | fail)
  refine e_ret ⟨rfl, _, rfl, congrArg V.bool ?_⟩
  by_cases e : t = u
  · rw [atomOrd_zero.2 e, decide_eq_true e]; rfl
  · have : atomOrd t u ≠ 0 := fun h => e (atomOrd_zero.1 h)
    rw [decide_eq_false e]
    simpa using this
def c_domain_start : Cmd :=
 (qS [qx 1 4672070 6 0, qc 2 0]
 (qT (qS [qL 6 6 1, qf 7 4 1, ql 8 1 7, qq 9 (.call .f (.c (.fn 112 [])) [.t 6, .c (.sl .nil []), .t 8, .c (.int .i64 40)]), qm 3 9]
 (qS [qm 10 3, qv 11 .neq [.i] 10 0]
 (.cond (.t 11) (.seq (.ops [qm 12 3, qm 2 12]) .ret) .skip)))
 (qT (qS [qf 13 4 1, ql 14 1 13, qn 15 14, qc 16 0]
 (.block 0 (.loop (qS [qu 17 .lss [] 16 15]
 (qT (.cond (.t 17) .skip (.exit 0))
 (qT (.block 1 (qS [qm 18 16, qi 19 2 14 16, qL 20 2 19, qq 5 (.alloc 4672322 (.agg [.int .i64 0, .sl .nil []])), qm 4 18, qs 2 5 20]
 (qS [qf 21 4 1, ql 22 1 21, qm 23 4, qq 24 (.slice false 2 (.t 22) none (some (.t 23))), qq 25 (.mkfn 113 [.t 5]), qk 26 44 [24, 25]]
 (.cond (.t 26) (.seq (.ops [qc 2 7]) .ret) .skip))))
 (.ops [qv 27 .add [] 16 1, qm 16 27])))))))
 (.seq (.ops [qc 2 0]) .ret))))
def r_domain_start : List RVar := [.tmp 2]
def n_domain_start : Nat := 28
theorem k_domain_start : chkFn Go.Proofs.Tryz.prog 73 n_domain_start r_domain_start c_domain_start = true := by kernel_rfl
theorem f_domain_start (d : Dom) (hd : DoTy d) (ho : DoOk d) : Fc Go.Proofs.Tryz.prog 73 [domV d] (.int .i64 (startCode d)) := by
  have hil := ho.init.1
  have hA := f_domain_atoms d hd [] ⟨by simp, by simp⟩ d.init (by omega) ho.init.2 40 (by omega)
  unfold startCode
  by_cases z : atomsCode d [] d.init 40 = 0
  · rw [if_neg (by simp [z])]
    rw [z] at hA
    refine Fn.step mixed k_domain_start ?_
    repeat' (first | refine i_len rfl ?_ | refine i_s rfl ?_ | refine sw ?_ | refine c_f rfl ?_ | refine i_box rfl rfl ?_ | refine sf rfl rfl hA ?_ | fail)
    all_goals first
      | (exfalso; clear hA; simp at *; done)
      | skip
    clear hA
    refine c_for d.init.length (fun k => [(1, .bptr 4672070 0), (14, .sl .p (d.init.map atV)), (15, .int .i64 d.init.length), (16, .int .i64 k)]) (fun _ => [(4672070, .box (domV d))]) (fun k => ∀ j, j < k → dupBad d.init j = none) all_zero ft fun k hk hi => ?_
    by_cases hlt : k < d.init.length
    · obtain ⟨x, hx⟩ := get_some hlt
      have hxo := ho.init.2 x (mem_get hx)
      have hC := f_ContainsFunc_Atom (d.init.take k) (fun u => decide (x = u)) 113 [.cptr .p (atV x) 0] (by simp; omega) (fun _ _ => rfl) rfl (fun u hu => f_domain_start_1 u x (ho.init.2 u (List.mem_of_mem_take hu)) hxo)
      have hbad : dupBad d.init k = if x ∈ d.init.take k then some 7 else none := by simp only [dupBad, hx]
      have hany : (d.init.take k).any (fun u => decide (x = u)) = decide (x ∈ d.init.take k) := by
        rw [Bool.eq_iff_iff]
        simp
      rw [hany] at hC
      by_cases hm : x ∈ d.init.take k
      · rw [if_pos hm] at hbad
        rw [decide_eq_true hm] at hC
        rw [scan0_hit hi hlt hbad]
        clear hi hbad hm hany ho
        repeat' (first | refine i_s rfl ?_ | refine sw ?_ | refine c_t rfl ?_ | refine jd rfl rfl ?_ | refine jh rfl rfl ?_ | refine i_stb rfl ?_ | refine i_alloc rfl ?_ | refine c_cond rfl (fun h => ?_) (fun h => ?_) | refine sf rfl rfl hC ?_ | fail)
        all_goals first
          | exact e_ret ⟨rfl, _, rfl, rfl⟩
          | (exfalso; clear hC; simp at *; omega)
      · rw [if_neg hm] at hbad
        rw [decide_eq_false hm] at hC
        clear hm hany ho
        repeat' (first | refine i_s rfl ?_ | refine sw ?_ | refine c_f rfl ?_ | refine ja rfl rfl ?_ | refine jd rfl rfl ?_ | refine jh rfl rfl ?_ | refine i_stb rfl ?_ | refine i_alloc rfl ?_ | refine c_cond rfl (fun h => ?_) (fun h => ?_) | refine sf rfl rfl hC ?_ | fail)
        all_goals first
          | (exact e_for hlt (all_succ hi hbad) ft)
          | (exfalso; clear hC; simp at *; omega)
    · rw [scan0_none fun j hj => hi j (by omega)]
      clear hi ho
      repeat' (first | refine i_s rfl ?_ | refine sw ?_ | refine c_cond rfl (fun h => ?_) (fun h => ?_))
      all_goals first
        | exact e_ret ⟨rfl, _, rfl, rfl⟩
        | (exfalso; simp at *; omega)
  · rw [if_pos z]
    clear ho
    generalize atomsCode d [] d.init 40 = c at *
    refine Fn.step mixed k_domain_start ?_
    repeat' (first | refine i_len rfl ?_ | refine i_s rfl ?_ | refine sw ?_ | refine i_box rfl rfl ?_ | refine c_cond rfl (fun h => ?_) (fun h => ?_) | refine sf rfl rfl hA ?_ | fail)
    all_goals first
      | exact e_ret ⟨rfl, _, rfl, rfl⟩
      | (exfalso; clear hA; simp_all; done)
end Hm
end
section
namespace Hm
open Go
set_option maxRecDepth 100000
set_option maxHeartbeats 1000000
def c_types_Of : Cmd :=
 (qS [qq 6 (.mov (.c (.sl .nil [])))]
 (qS [qq 7 (.newVec 6336449)]
 (qT (qS [qm 10 1, qn 11 10, qc 12 0]
 (.block 0 (.loop (qS [qu 13 .lss [] 12 11]
 (qT (.cond (.t 13) .skip (.exit 0))
 (qT (.block 1 (qS [qm 14 12, qi 15 2 10 12, qL 16 2 15, qq 9 (.alloc 6336578 (.agg [.str [], .int .i64 0])), qm 8 14, qs 2 9 16]
 (qS [qm 17 0, qf 18 1 9, ql 19 1 18, qm 20 2, qk 21 84 [17, 19, 20]]
 (.cond (.t 21) (.ops [qm 22 7, qm 23 8, qq 24 (.bsl 1 [.t 23]), qq 25 (.append 1 8 3 (.t 22) (.t 24)), qm 7 25]) .skip))))
 (.ops [qv 26 .add [] 12 1, qm 12 26])))))))
 (.seq (.ops [qm 27 7, qm 6 27]) .ret))))
def r_types_Of : List RVar := [.tmp 6]
def n_types_Of : Nat := 28
theorem k_types_Of : chkFn Go.Proofs.Tryz.prog 99 n_types_Of r_types_Of c_types_Of = true := by kernel_rfl
theorem f_types_Of (l : List Typ) (hv : TyValid l) (os : List Obj) (ho : os.length ≤ 8) (hr : ∀ o ∈ os, -1 ≤ o.type ∧ o.type < l.length) (t : Int) : Fc Go.Proofs.Tryz.prog 99 [.sl .p (l.map tyV), .sl .p (os.map obV), .int .i64 t] (.sl .p ((membersOf l os t).map i64V)) := by
  refine Fn.step mixed k_types_Of ?_
  repeat (first | refine i_len rfl ?_ | refine i_s rfl ?_ | refine sw ?_ | refine i_nv rfl ?_)
  refine c_for os.length (fun k => [(0, .sl .p (l.map tyV)), (2, .int .i64 t), (7, .sl (.own 6336449) ((memK l os t k).map i64V)), (10, .sl .p (os.map obV)), (11, .int .i64 os.length), (12, .int .i64 k)]) (fun k => [(6336449, .vec (memK l os t k).length)]) (fun _ => True) trivial ft fun k hk _ => ?_
  have hml := memK_len (l := l) (os := os) (t := t) (k := k)
  repeat (first | refine i_s rfl ?_ | refine sw ?_)
  refine c_cond rfl (fun h => ?_) (fun h => ?_)
  · have hlt : k < os.length := by simpa using h
    obtain ⟨o, hc⟩ := get_some hlt
    have := hr o (mem_get hc)
    clear h
    repeat' (first | refine i_s rfl ?_ | refine sw ?_ | refine ja rfl rfl ?_ | refine jd rfl rfl ?_ | refine i_stb rfl ?_ | refine i_alloc rfl ?_ | refine c_cond rfl (fun h => ?_) (fun h => ?_) | refine sf rfl rfl (f_types_Is l hv o.type t this.1 this.2) ?_ | fail)
    · refine i_appM rfl rfl rfl rfl rfl (by omega) (by omega) ?_
      repeat' (first | refine i_s rfl ?_ | refine sw ?_ | refine ja rfl rfl ?_ | fail)
      refine e_for hlt trivial ⟨⟨rfl, rfl, ?_, rfl, rfl, rfl, trivial⟩, ⟨?_, trivial⟩, rfl⟩
      · rw [memK_succ hc, if_pos h]; rfl
      · rw [memK_succ hc, if_pos h]; simp; rfl
    · refine e_for hlt trivial ⟨⟨rfl, rfl, ?_, rfl, rfl, rfl, trivial⟩, ⟨?_, trivial⟩, rfl⟩
      · rw [memK_succ hc, if_neg (by simp [h])]; simp; rfl
      · rw [memK_succ hc, if_neg (by simp [h])]; simp; rfl
  · have hge : ¬ k < os.length := by simpa using h
    have e : k = os.length := by omega
    subst e
    repeat' (first | refine i_s rfl ?_ | refine sw ?_ | fail)
    exact e_ret ⟨rfl, _, rfl, rfl⟩
theorem obBad_code (n : Nat) (l : List Obj) (i : Nat) : ∀ f, obBad n l i = some f → f.code ≠ 0 := by
  intro f h
  unfold obBad at h
  split at h
  · cases h
  · repeat' split at h
    all_goals cases h
    all_goals simp
theorem objectsFault_valid {n : Nat} {l : List Obj} (h : objectsFault n l = okF) : l.length ≤ 8 ∧ ∀ o ∈ l, -1 ≤ o.type ∧ o.type < n := by
  unfold objectsFault at h
  split at h
  · cases h
  · rename_i h8
    have hs := getD_ok (scan_prop (bad := obBad n l) (fun o => ∀ f, o = some f → f.code ≠ 0) (by simp) (fun i => obBad_code n l i) l.length 0) h
    refine ⟨by omega, fun o ho => ?_⟩
    obtain ⟨i, hi, e⟩ := List.getElem_of_mem ho
    have hg : l[i]? = some o := by rw [← e]; exact List.getElem?_eq_getElem hi
    have := scan_all _ _ hs i (Nat.zero_le _) (by omega)
    unfold obBad at this
    rw [hg] at this
    simp only at this
    split at this
    · cases this
    · split at this
      · cases this
      · split at this
        · cases this
        · omega
theorem objectsFault_code (n : Nat) (l : List Obj) : (objectsFault n l).code = 0 ↔ objectsFault n l = okF := by
  refine ⟨fun h => ?_, fun h => by rw [h]; rfl⟩
  unfold objectsFault at h ⊢
  split at h
  · cases h
  · rename_i h8
    rw [if_neg h8]
    have := scan_prop (bad := obBad n l) (fun o => ∀ f, o = some f → f.code ≠ 0) (by simp) (fun i => obBad_code n l i) l.length 0
    cases hs : scan (obBad n l) 0 l.length with
    | none => rfl
    | some f => rw [hs] at h; exact absurd h (this f hs)
end Hm
end
section
namespace Hm
open Go
set_option maxRecDepth 100000
set_option maxHeartbeats 4000000
theorem doTy_of {d : Dom} (h1 : typesFault d.types = okF) (h2 : objectsFault d.types.length d.objects = okF) : DoTy d := by
  obtain ⟨h3, h4⟩ := objectsFault_valid h2
  exact ⟨typesFault_valid h1, h3, h4⟩
def c_domain_Validate : Cmd :=
 (qS [qx 1 2112070 6 0, qq 2 (.alloc 2112130 (.agg [.int .i64 0, .int .i64 0]))]
 (qT (qS [qf 11 0 1, ql 12 1 11, qk 13 69 [12], qq 3 (.alloc 2112194 (.agg [.int .i64 0, .int .i64 0])), qs 2 3 13]
 (qS [qL 14 2 3, qq 15 (.build [.int .i64 0, .int .i64 0] []), qq 16 (.bin .neq true [.i, .i] (.t 14) (.t 15))]
 (.cond (.t 16) (.seq (.ops [qf 17 0 3, ql 18 1 17, qq 19 (.build [.int .i64 0, .int .i64 0] [(0 , 1 , .t 18), (1 , 1 , .c (.int .i64 (-1)))]), qs 2 2 19]) .ret) .skip)))
 (qT (qS [qf 20 0 1, ql 21 1 20, qf 22 1 1, ql 23 1 22, qk 24 70 [21, 23], qq 4 (.alloc 2112258 (.agg [.int .i64 0, .int .i64 0])), qs 2 4 24]
 (qS [qL 25 2 4, qq 26 (.build [.int .i64 0, .int .i64 0] []), qq 27 (.bin .neq true [.i, .i] (.t 25) (.t 26))]
 (.cond (.t 27) (.seq (.ops [qf 28 0 4, ql 29 1 28, qq 30 (.build [.int .i64 0, .int .i64 0] [(0 , 1 , .t 29), (1 , 1 , .c (.int .i64 (-2)))]), qs 2 2 30]) .ret) .skip)))
 (qT (qS [qf 31 2 1, ql 32 1 31, qn 33 32, qv 34 .gtr [] 33 8]
 (.cond (.t 34) (.seq (.ops [qq 35 (.build [.int .i64 0, .int .i64 0] [(0 , 1 , .c (.int .i64 2)), (1 , 1 , .c (.int .i64 (-3)))]), qs 2 2 35]) .ret) .skip))
 (qT (qS [qf 36 2 1, ql 37 1 36, qn 38 37, qc 39 0]
 (.block 0 (.loop (qS [qu 40 .lss [] 39 38]
 (qT (.cond (.t 40) .skip (.exit 0))
 (qT (.block 1 (qS [qm 41 39, qm 5 41]
 (qS [qL 42 6 1, qm 43 5, qk 44 71 [42, 43], qm 6 44]
 (qS [qm 45 6, qv 46 .neq [.i] 45 0]
 (.cond (.t 46) (.seq (.ops [qm 47 6, qq 48 (.build [.int .i64 0, .int .i64 0] [(0 , 1 , .t 47), (1 , 1 , .c (.int .i64 (-3)))]), qs 2 2 48]) .ret) .skip)))))
 (.ops [qv 49 .add [] 39 1, qm 39 49])))))))
 (qT (qS [qf 50 3 1, ql 51 1 50, qn 52 51, qv 53 .gtr [] 52 8]
 (.cond (.t 53) (.seq (.ops [qq 54 (.build [.int .i64 0, .int .i64 0] [(0 , 1 , .c (.int .i64 2)), (1 , 1 , .c (.int .i64 (-4)))]), qs 2 2 54]) .ret) .skip))
 (qT (qS [qf 55 3 1, ql 56 1 55, qn 57 56, qc 58 0]
 (.block 2 (.loop (qS [qu 59 .lss [] 58 57]
 (qT (.cond (.t 59) .skip (.exit 2))
 (qT (.block 3 (qS [qm 60 58, qm 7 60]
 (qS [qL 61 6 1, qm 62 7, qk 63 72 [61, 62], qm 8 63]
 (qS [qm 64 8, qv 65 .neq [.i] 64 0]
 (.cond (.t 65) (.seq (.ops [qm 66 8, qm 67 7, qq 68 (.build [.int .i64 0, .int .i64 0] [(0 , 1 , .t 66), (1 , 1 , .t 67)]), qs 2 2 68]) .ret) .skip)))))
 (.ops [qv 69 .add [] 58 1, qm 58 69])))))))
 (qT (qS [qL 70 6 1, qk 71 73 [70], qm 9 71]
 (qS [qm 72 9, qv 73 .neq [.i] 72 0]
 (.cond (.t 73) (.seq (.ops [qm 74 9, qq 75 (.build [.int .i64 0, .int .i64 0] [(0 , 1 , .t 74), (1 , 1 , .c (.int .i64 (-5)))]), qs 2 2 75]) .ret) .skip)))
 (qT (qS [qL 76 6 1, qf 77 5 1, ql 78 1 77, qq 79 (.call .f (.c (.fn 74 [])) [.t 76, .c (.sl .nil []), .t 78]), qm 10 79]
 (qS [qm 80 10, qv 81 .neq [.i] 80 0]
 (.cond (.t 81) (.seq (.ops [qm 82 10, qq 83 (.build [.int .i64 0, .int .i64 0] [(0 , 1 , .t 82), (1 , 1 , .c (.int .i64 (-6)))]), qs 2 2 83]) .ret) .skip)))
 (.seq (.ops [qq 84 (.build [.int .i64 0, .int .i64 0] []), qs 2 2 84]) .ret))))))))))
def r_domain_Validate : List RVar := [.cell true 2 2]
def n_domain_Validate : Nat := 85
theorem k_domain_Validate : chkFn Go.Proofs.Tryz.prog 33 n_domain_Validate r_domain_Validate c_domain_Validate = true := by kernel_rfl
theorem f_domain_Validate (d : Dom) (ho : DoOk d) : Fc Go.Proofs.Tryz.prog 33 [domV d] (ftV (domFault d)) := by
  have hT := f_types_Validate d.types ho.types
  have hO := f_types_Objects d.types ho.types.1 d.objects ho.objects
  unfold domFault
  by_cases t1 : typesFault d.types = okF
  · rw [if_neg (by simp [t1])]
    rw [t1] at hT
    by_cases t2 : objectsFault d.types.length d.objects = okF
    · rw [if_neg (by simp [t2])]
      rw [t2] at hO
      have hd := doTy_of t1 t2
      have hpl := ho.preds.1
      have hsl := ho.schemas.1
      by_cases t3 : d.preds.length > 8
      · rw [if_pos t3]
        refine Fn.step mixed k_domain_Validate ?_
        repeat' (first | refine i_len rfl ?_ | refine i_s rfl ?_ | refine sw ?_ | refine c_f rfl ?_ | refine i_stb rfl ?_ | refine i_alloc rfl ?_ | refine i_box rfl rfl ?_ | refine c_cond rfl (fun h => ?_) (fun h => ?_) | refine sf rfl rfl hT ?_ | refine sf rfl rfl hO ?_ | fail)
        all_goals first
          | exact e_ret ⟨rfl, _, rfl, rfl⟩
          | (exfalso; clear hT hO; simp at *; omega)
          | (exfalso; clear hT hO; simp_all; done)
      · rw [if_neg t3]
        refine Fn.step mixed k_domain_Validate ?_
        repeat' (first | refine i_len rfl ?_ | refine i_s rfl ?_ | refine sw ?_ | refine c_f rfl ?_ | refine i_stb rfl ?_ | refine i_alloc rfl ?_ | refine i_box rfl rfl ?_ | refine c_cond rfl (fun h => ?_) (fun h => ?_) | refine sf rfl rfl hT ?_ | refine sf rfl rfl hO ?_ | fail)
        all_goals first
          | (exfalso; clear hT hO; simp at *; omega)
          | (exfalso; clear hT hO; simp [okF] at *; done)
          | skip
        clear hT hO
        refine c_for d.preds.length (fun k => [(1, .bptr 2112070 0), (2, .bptr 2112130 0), (38, .int .i64 d.preds.length), (39, .int .i64 k)]) (fun _ => [(2112070, .box (domV d)), (2112130, .box (ftV okF))]) (fun k => ∀ j, j < k → nzF (prdCode d) (fun _ => -3) j = none) all_zero ft fun k hk hi => ?_
        by_cases hlt : k < d.preds.length
        · obtain ⟨p, hp⟩ := get_some hlt
          have hP := f_domain_predicate d ho k p hp
          by_cases z : prdCode d k = 0
          · have hn : nzF (prdCode d) (fun _ => -3) k = none := by unfold nzF; rw [if_pos z]
            rw [z] at hP
            clear ho
            repeat' (first | refine i_len rfl ?_ | refine i_s rfl ?_ | refine sw ?_ | refine c_f rfl ?_ | refine ja rfl rfl ?_ | refine i_stb rfl ?_ | refine c_cond rfl (fun h => ?_) (fun h => ?_) | refine sf rfl rfl hP ?_ | fail)
            all_goals first
              | (exact e_for hlt (all_succ hi hn) ft)
              | (exfalso; clear hP; simp at *; omega)
          · rw [scan0_hit hi hlt (show nzF (prdCode d) (fun _ => -3) k = some ⟨prdCode d k, -3⟩ by unfold nzF; rw [if_neg z])]
            clear hi ho
            generalize prdCode d k = c at *
            repeat' (first | refine i_len rfl ?_ | refine i_s rfl ?_ | refine sw ?_ | refine ja rfl rfl ?_ | refine i_stb rfl ?_ | refine c_cond rfl (fun h => ?_) (fun h => ?_) | refine sf rfl rfl hP ?_ | fail)
            all_goals first
              | exact e_ret ⟨rfl, _, rfl, rfl⟩
              | (exfalso; clear hP; simp at *; omega)
        · rw [scan0_none fun j hj => hi j (by omega)]
          clear hi
          by_cases t4 : d.schemas.length > 8
          · simp only
            rw [if_pos t4]
            clear ho
            repeat' (first | refine i_len rfl ?_ | refine i_s rfl ?_ | refine sw ?_ | refine i_stb rfl ?_ | refine c_cond rfl (fun h => ?_) (fun h => ?_))
            all_goals first
              | exact e_ret ⟨rfl, _, rfl, rfl⟩
              | (exfalso; simp at *; omega)
          · simp only
            rw [if_neg t4]
            repeat' (first | refine i_len rfl ?_ | refine i_s rfl ?_ | refine sw ?_ | refine i_stb rfl ?_ | refine c_cond rfl (fun h => ?_) (fun h => ?_))
            all_goals first
              | (exfalso; simp at *; omega)
              | skip
            refine c_for d.schemas.length (fun k => [(1, .bptr 2112070 0), (2, .bptr 2112130 0), (57, .int .i64 d.schemas.length), (58, .int .i64 k)]) (fun _ => [(2112070, .box (domV d)), (2112130, .box (ftV okF))]) (fun k => ∀ j, j < k → nzF (schCode d) (fun i => i) j = none) all_zero ft fun k hk hi => ?_
            by_cases hlt : k < d.schemas.length
            · obtain ⟨s, hs⟩ := get_some hlt
              have hP := f_domain_schema d hd ho k s hs
              by_cases z : schCode d k = 0
              · have hn : nzF (schCode d) (fun i => i) k = none := by unfold nzF; rw [if_pos z]
                rw [z] at hP
                clear ho
                repeat' (first | refine i_s rfl ?_ | refine sw ?_ | refine c_f rfl ?_ | refine ja rfl rfl ?_ | refine c_cond rfl (fun h => ?_) (fun h => ?_) | refine sf rfl rfl hP ?_ | fail)
                all_goals first
                  | (exact e_for hlt (all_succ hi hn) ft)
                  | (exfalso; clear hP; simp at *; omega)
              · rw [scan0_hit hi hlt (show nzF (schCode d) (fun i => i) k = some ⟨schCode d k, k⟩ by unfold nzF; rw [if_neg z])]
                clear hi ho
                generalize schCode d k = c at *
                repeat' (first | refine i_s rfl ?_ | refine sw ?_ | refine ja rfl rfl ?_ | refine i_stb rfl ?_ | refine c_cond rfl (fun h => ?_) (fun h => ?_) | refine sf rfl rfl hP ?_ | fail)
                all_goals first
                  | exact e_ret ⟨rfl, _, rfl, rfl⟩
                  | (exfalso; clear hP; simp at *; omega)
            · rw [scan0_none fun j hj => hi j (by omega)]
              clear hi
              simp only
              have hS := f_domain_start d hd ho
              have hG := f_domain_literals d hd [] ⟨by simp, by simp⟩ d.goal ho.goal.1 ho.goal.2
              clear ho
              generalize startCode d = c1 at *
              generalize atomsCode d [] (d.goal.map Lit.at_) 8 = c2 at *
              by_cases z1 : c1 = 0
              · subst z1
                rw [if_neg (by simp)]
                by_cases z2 : c2 = 0
                · subst z2
                  rw [if_neg (by simp)]
                  repeat' (first | refine i_s rfl ?_ | refine sw ?_ | refine c_f rfl ?_ | refine i_stb rfl ?_ | refine c_cond rfl (fun h => ?_) (fun h => ?_) | refine sf rfl rfl hS ?_ | refine sf rfl rfl hG ?_ | fail)
                  all_goals first
                    | exact e_ret ⟨rfl, _, rfl, rfl⟩
                    | (exfalso; clear hS hG; simp at *; omega)
                · rw [if_pos z2]
                  repeat' (first | refine i_s rfl ?_ | refine sw ?_ | refine c_f rfl ?_ | refine i_stb rfl ?_ | refine c_cond rfl (fun h => ?_) (fun h => ?_) | refine sf rfl rfl hS ?_ | refine sf rfl rfl hG ?_ | fail)
                  all_goals first
                    | exact e_ret ⟨rfl, _, rfl, rfl⟩
                    | (exfalso; clear hS hG; simp at *; omega)
              · rw [if_pos z1]
                repeat' (first | refine i_s rfl ?_ | refine sw ?_ | refine i_stb rfl ?_ | refine c_cond rfl (fun h => ?_) (fun h => ?_) | refine sf rfl rfl hS ?_ | refine sf rfl rfl hG ?_ | fail)
                all_goals first
                  | exact e_ret ⟨rfl, _, rfl, rfl⟩
                  | (exfalso; clear hS hG; simp at *; omega)
    · rw [if_pos t2]
      have ht2 : (objectsFault d.types.length d.objects).code ≠ 0 := fun h => t2 ((objectsFault_code _ _).1 h)
      clear ho
      generalize objectsFault d.types.length d.objects = F at *
      refine Fn.step mixed k_domain_Validate ?_
      repeat' (first | refine i_len rfl ?_ | refine i_s rfl ?_ | refine sw ?_ | refine c_f rfl ?_ | refine i_stb rfl ?_ | refine i_alloc rfl ?_ | refine i_box rfl rfl ?_ | refine c_cond rfl (fun h => ?_) (fun h => ?_) | refine sf rfl rfl hT ?_ | refine sf rfl rfl hO ?_ | fail)
      all_goals first
        | exact e_ret ⟨rfl, _, rfl, rfl⟩
        | (exfalso; clear hT hO; simp at *; omega)
        | (exfalso; clear hT hO; simp_all; done)
        | (exfalso; clear hT hO; simp [okF] at *; done)
  · rw [if_pos t1]
    have ht1 : (typesFault d.types).code ≠ 0 := fun h => t1 ((typesFault_code _).1 h)
    clear ho hO
    generalize typesFault d.types = F at *
    refine Fn.step mixed k_domain_Validate ?_
    repeat' (first | refine i_s rfl ?_ | refine sw ?_ | refine i_stb rfl ?_ | refine i_alloc rfl ?_ | refine i_box rfl rfl ?_ | refine c_cond rfl (fun h => ?_) (fun h => ?_) | refine sf rfl rfl hT ?_ | fail)
    all_goals first
      | exact e_ret ⟨rfl, _, rfl, rfl⟩
      | (exfalso; clear hT; simp at *; omega)
      | (exfalso; clear hT; simp_all; done)
      | (exfalso; clear hT; simp [okF] at *; done)
def c_condition_arity : Cmd :=
 (qS [qc 2 0]
 (qT (qS [qm 3 0]
 (.block 0 (qT (qS [qv 5 .eql [.i] 3 4, qm 4 5]
 (.cond (.t 4) .skip (qS [qv 6 .eql [.i] 3 7, qm 4 6]
 (.cond (.t 4) .skip (.ops [qv 7 .eql [.i] 3 8, qm 4 7])))))
 (.cond (.t 4) (.seq (.ops [qc 2 1]) .ret) (qT (qS [qv 9 .eql [.i] 3 5, qm 8 9]
 (.cond (.t 8) .skip (.ops [qv 10 .eql [.i] 3 6, qm 8 10])))
 (.cond (.t 8) (.seq (.ops [qc 2 (-1)]) .ret) .skip))))))
 (.seq (.ops [qc 2 0]) .ret)))
def r_condition_arity : List RVar := [.tmp 2]
def n_condition_arity : Nat := 11
theorem k_condition_arity : chkFn Go.Proofs.Tryz.prog 78 n_condition_arity r_condition_arity c_condition_arity = true := by kernel_rfl
theorem f_condition_arity (k : Int) : Fc Go.Proofs.Tryz.prog 78 [.int .i64 k] (.int .i64 (arityI k)) := by
  refine Fn.step mixed k_condition_arity ?_
  repeat' (first | refine i_s rfl ?_ | refine sw ?_ | refine c_cond rfl (fun h => ?_) (fun h => ?_))
  all_goals (refine e_ret ⟨rfl, _, rfl, congrArg (V.int .i64) ?_⟩; unfold arityI; simp at *; (repeat' split) <;> omega)
def c_condition_quantifier : Cmd :=
 (qS [qx 3 2368198 6 0, qx 4 2368263 7 1, qc 6 0]
 (qT (.block 0 (qS [qf 8 0 4, ql 9 1 8, qv 10 .neq [.i] 9 7, qm 11 10, qg 12 11 true (.faddr 0 (.t 4)), qg 13 11 true (.load false 1 (.t 12)), qg 14 11 true (.bin .neq false [.i] (.t 13) (.c (.int .i64 8))), qq 15 (.pick (.t 11) (.t 14) (.c (.bool false))), qm 7 15]
 (.cond (.t 7) (.seq (.ops [qc 6 0]) .ret) (qS [qf 17 6 4, ql 18 1 17, qv 19 .lss [] 18 (-1), qm 20 19, qg 21 20 false (.faddr 6 (.t 4)), qg 22 20 false (.load false 1 (.t 21)), qg 23 20 false (.faddr 0 (.t 3)), qg 24 20 false (.load false 1 (.t 23)), qg 25 20 false (.len false (.t 24)), qg 26 20 false (.bin .geq false [] (.t 22) (.t 25)), qq 27 (.pick (.t 20) (.c (.bool true)) (.t 26)), qm 16 27]
 (.cond (.t 16) (.seq (.ops [qc 6 3]) .ret) (qS [qm 29 2, qn 30 29, qv 31 .geq [] 30 6, qm 28 31]
 (.cond (.t 28) (.seq (.ops [qc 6 2]) .ret) .skip)))))))
 (.seq (.ops [qc 6 0]) .ret)))
def r_condition_quantifier : List RVar := [.tmp 6]
def n_condition_quantifier : Nat := 32
theorem k_condition_quantifier : chkFn Go.Proofs.Tryz.prog 37 n_condition_quantifier r_condition_quantifier c_condition_quantifier = true := by kernel_rfl
theorem f_condition_quantifier (d : Dom) (hd : d.types.length ≤ 140737488355328) (n : Cn) (ps : List Int) (hp : ps.length ≤ 140737488355328) : Fc Go.Proofs.Tryz.prog 37 [domV d, cnV n, .sl .p (ps.map i64V)] (.int .i64 (quCode d n ps)) := by
  refine Fn.step mixed k_condition_quantifier ?_
  repeat' (first | refine i_len rfl ?_ | refine i_s rfl ?_ | refine sw ?_ | refine i_gt rfl ?_ | refine i_gf rfl ?_ | refine c_t rfl ?_ | refine c_f rfl ?_ | refine i_box rfl rfl ?_ | (refine sp ?_ ?_ <;> try intro h) | fail)
  all_goals (refine e_ret ⟨rfl, _, rfl, congrArg (V.int .i64) ?_⟩; unfold quCode quantK badT; simp at *; (repeat' split) <;> omega)
def c_condition_leaf : Cmd :=
 (qS [qx 3 2432198 6 0, qx 4 2432263 7 1, qc 6 0]
 (qT (qS [qf 9 0 4, ql 10 1 9]
 (.block 0 (qS [qv 12 .eql [.i] 10 2, qm 11 12]
 (.cond (.t 11) (.seq (.ops [qL 13 6 3, qm 14 2, qf 15 2 4, qL 16 2 15, qk 17 41 [13, 14, 16], qm 6 17]) .ret) (qS [qv 19 .eql [.i] 10 3, qm 18 19]
 (.cond (.t 18) (qS [qf 20 4 4, ql 21 1 20, qf 22 5 4, ql 23 1 22, qq 24 (.build [.int .i64 0, .int .i64 0] [(0 , 1 , .t 21), (1 , 1 , .t 23)]), qc 25 0]
 (.block 1 (.loop (qS [qv 26 .lss [] 25 2]
 (qT (.cond (.t 26) .skip (.exit 1))
 (qT (.block 2 (qS [qq 27 (.idxA 2 (.t 24) (.t 25)), qm 8 27]
 (qS [qm 28 8, qf 29 1 3, ql 30 1 29, qn 31 30, qu 32 .geq [] 28 31, qm 33 32, qg 34 33 false (.mov (.t 8)), qg 35 33 false (.mov (.t 2)), qg 36 33 false (.len false (.t 35)), qg 37 33 false (.bin .sub false [] (.c (.int .i64 0)) (.t 36)), qg 38 33 false (.bin .lss false [] (.t 34) (.t 37)), qq 39 (.pick (.t 33) (.c (.bool true)) (.t 38))]
 (.cond (.t 39) (.seq (.ops [qc 6 3]) .ret) .skip))))
 (.ops [qv 40 .add [] 25 1, qm 25 40]))))))) .skip))))))
 (.seq (.ops [qc 6 0]) .ret)))
def r_condition_leaf : List RVar := [.tmp 6]
def n_condition_leaf : Nat := 41
theorem k_condition_leaf : chkFn Go.Proofs.Tryz.prog 38 n_condition_leaf r_condition_leaf c_condition_leaf = true := by kernel_rfl
theorem f_condition_leaf (d : Dom) (hd : DoTy d) (n : Cn) (hn : CnOk n) (ps : List Int) (hp : PsOk d ps) : Fc Go.Proofs.Tryz.prog 38 [domV d, cnV n, .sl .p (ps.map i64V)] (.int .i64 (leafCode d n ps)) := by
  have hA := f_domain_Atom d hd ps hp n.at_ hn.at_
  have hol := hd.ol
  have hpl := hp.1
  unfold leafCode
  by_cases k2 : n.kind = 2
  · rw [if_pos k2]
    generalize atomCode d ps n.at_ = e at *
    clear hn
    refine Fn.step mixed k_condition_leaf ?_
    repeat' (first | refine i_s rfl ?_ | refine sw ?_ | refine i_box rfl rfl ?_ | refine c_cond rfl (fun h => ?_) (fun h => ?_) | refine sf rfl rfl hA ?_ | fail)
    all_goals first
      | exact e_ret ⟨rfl, _, rfl, rfl⟩
      | (exfalso; clear hA; simp_all; done)
  · rw [if_neg k2]
    clear hA hn
    by_cases k3 : n.kind = 3
    · rw [if_pos k3]
      refine Fn.step mixed k_condition_leaf ?_
      repeat' (first | refine i_s rfl ?_ | refine sw ?_ | refine i_box rfl rfl ?_ | refine c_cond rfl (fun h => ?_) (fun h => ?_))
      all_goals first
        | (exfalso; simp_all; done)
        | skip
      refine c_for 2 (fun k => [(2, .sl .p (ps.map i64V)), (3, .bptr 2432198 0), (24, .agg [.int .i64 n.left, .int .i64 n.right]), (25, .int .i64 k)]) (fun _ => [(2432198, .box (domV d))]) (fun k => (0 < k → badArg d ps n.left = false) ∧ (1 < k → badArg d ps n.right = false)) (by simp) ft fun k hk hi => ?_
      have hk3 : k = 0 ∨ k = 1 ∨ k = 2 := by omega
      have b1 : badArg d ps n.left = (decide ((d.objects.length : Int) ≤ n.left) || decide (n.left < -(ps.length : Int))) := rfl
      have b2 : badArg d ps n.right = (decide ((d.objects.length : Int) ≤ n.right) || decide (n.right < -(ps.length : Int))) := rfl
      rcases hk3 with rfl | rfl | rfl
      · clear hi
        by_cases hb : badArg d ps n.left = true
        · rw [if_pos (.inl hb)]
          rw [hb] at b1
          repeat' (first | refine i_len rfl ?_ | refine i_s rfl ?_ | refine sw ?_ | refine i_gt rfl ?_ | refine i_gf rfl ?_ | refine c_t rfl ?_ | refine ja rfl rfl ?_ | refine jb rfl rfl ?_ | refine jg rfl rfl ?_ | (refine sp ?_ ?_ <;> try intro h) | fail)
          all_goals first
            | exact e_ret ⟨rfl, _, rfl, rfl⟩
            | (exfalso; simp at *; omega)
        · have hb : badArg d ps n.left = false := by simpa using hb
          have hnx : (0 < 0 + 1 → badArg d ps n.left = false) ∧ (1 < 0 + 1 → badArg d ps n.right = false) := ⟨fun _ => hb, fun h => by omega⟩
          rw [hb] at b1
          clear hb
          repeat' (first | refine i_len rfl ?_ | refine i_s rfl ?_ | refine sw ?_ | refine i_gt rfl ?_ | refine i_gf rfl ?_ | refine c_t rfl ?_ | refine ja rfl rfl ?_ | refine jb rfl rfl ?_ | refine jg rfl rfl ?_ | (refine sp ?_ ?_ <;> try intro h) | fail)
          all_goals first
            | (exact e_for (by omega) hnx ft)
            | (exfalso; simp at *; omega)
      · have hl := hi.1 (by omega)
        clear hi
        by_cases hb : badArg d ps n.right = true
        · rw [if_pos (.inr hb)]
          rw [hb] at b2
          repeat' (first | refine i_len rfl ?_ | refine i_s rfl ?_ | refine sw ?_ | refine i_gt rfl ?_ | refine i_gf rfl ?_ | refine c_t rfl ?_ | refine ja rfl rfl ?_ | refine jb rfl rfl ?_ | refine jg rfl rfl ?_ | (refine sp ?_ ?_ <;> try intro h) | fail)
          all_goals first
            | exact e_ret ⟨rfl, _, rfl, rfl⟩
            | (exfalso; simp at *; omega)
        · have hb : badArg d ps n.right = false := by simpa using hb
          have hnx : (0 < 1 + 1 → badArg d ps n.left = false) ∧ (1 < 1 + 1 → badArg d ps n.right = false) := ⟨fun _ => hl, fun _ => hb⟩
          rw [hb] at b2
          clear hb
          repeat' (first | refine i_len rfl ?_ | refine i_s rfl ?_ | refine sw ?_ | refine i_gt rfl ?_ | refine i_gf rfl ?_ | refine c_t rfl ?_ | refine ja rfl rfl ?_ | refine jb rfl rfl ?_ | refine jg rfl rfl ?_ | (refine sp ?_ ?_ <;> try intro h) | fail)
          all_goals first
            | (exact e_for (by omega) hnx ft)
            | (exfalso; simp at *; omega)
      · have hl := hi.1 (by omega)
        have hr := hi.2 (by omega)
        rw [if_neg (by simp [hl, hr])]
        clear hi b1 b2
        repeat' (first | refine i_s rfl ?_ | refine sw ?_ | refine c_f rfl ?_)
        all_goals first
          | exact e_ret ⟨rfl, _, rfl, rfl⟩
          | (exfalso; simp at *; omega)
    · rw [if_neg k3]
      refine Fn.step mixed k_condition_leaf ?_
      repeat' (first | refine i_s rfl ?_ | refine sw ?_ | refine i_box rfl rfl ?_ | refine c_cond rfl (fun h => ?_) (fun h => ?_))
      all_goals first
        | exact e_ret ⟨rfl, _, rfl, rfl⟩
        | (exfalso; simp_all; done)
theorem treeC_len (l : List Cn) : (treeC l).length = l.length := by simp [treeC]
theorem treeC_get {l : List Cn} {i : Nat} {n : Cn} (h : l[i]? = some n) : (treeC l)[i]? = some ⟨[], n.ch⟩ := by simp [treeC, h]
theorem treeC_ch {l : List Cn} {i : Nat} {n : Cn} (h : l[i]? = some n) : chL (treeC l) i = n.ch := chL_get (treeC_get h)
def backTo {α : Type} (f : α → V) (l : List α) : Nat → List (List V)
  | 0 => []
  | k + 1 => (match l[k]? with
    | some x => [.int .i64 k, f x]
    | none => []) :: backTo f l k
def c_slices_Backward_int : Cmd :=
 (qS [qx 1 5056065 1 0, qq 2 (.mov (.c (.nilfn)))]
 (.seq (.ops [qq 3 (.mkfn 115 [.t 1]), qm 2 3]) .ret))
def r_slices_Backward_int : List RVar := [.tmp 2]
def n_slices_Backward_int : Nat := 4
theorem k_slices_Backward_int : chkFn Go.Proofs.Tryz.prog 79 n_slices_Backward_int r_slices_Backward_int c_slices_Backward_int = true := by kernel_rfl
theorem f_slices_Backward_int (l : List Int) : Fc Go.Proofs.Tryz.prog 79 [.sl .p (l.map i64V)] (.fn 115 [.cptr .p (.sl .p (l.map i64V)) 0]) := by
  refine Fn.step mixed k_slices_Backward_int ?_
  repeat' (first | refine i_s rfl ?_ | refine sw ?_ | refine i_box rfl rfl ?_)
  exact e_ret ⟨rfl, _, rfl, rfl⟩
def c_slices_Backward_int_1 : Cmd :=
 (qS [ql 4 1 1, qn 5 4, qv 6 .sub [] 5 1, qm 3 6]
 (.block 0 (.loop (qT (qS [qm 7 3, qv 8 .geq [] 7 0]
 (.cond (.t 8) .skip (.exit 0)))
 (qT (.block 1 (qS [qm 11 0, qm 12 3, ql 13 1 1, qm 14 3, qi 15 1 13 14, ql 16 1 15, qq 17 (.call .y (.t 11) [.t 12, .t 16]), qq 18 (.not (.t 17))]
 (.cond (.t 18) .ret .skip)))
 (.ops [qm 9 3, qv 10 .sub [] 9 1, qm 3 10]))))))
def r_slices_Backward_int_1 : List RVar := []
def n_slices_Backward_int_1 : Nat := 19
theorem k_slices_Backward_int_1 : chkFn Go.Proofs.Tryz.prog 115 n_slices_Backward_int_1 r_slices_Backward_int_1 c_slices_Backward_int_1 = true := by kernel_rfl
theorem ct_Backward_int {G : Type} {H : HT G} (l : List Int) (hl : l.length ≤ 140737488355328) (g0 : G) (K : G → Prop) (hy0 : YL H (backTo i64V l l.length) g0 K) :
    Cc Go.Proofs.Tryz.prog H 115 [.rnd, .cptr .p (.sl .p (l.map i64V)) 0] [] (stOf []) g0 fun _ σ' g' => σ' = stOf [] ∧ K g' := by
  refine CT.step _ mixed k_slices_Backward_int_1 (fun nm hnm => stOf_mem _ nm hnm) fun hM => ?_
  repeat (first | refine i_len rfl ?_ | refine i_s rfl ?_ | refine sw ?_ | refine jb rfl rfl ?_)
  refine c_loop (ι := Nat × G) (fun i => [(0, .rnd), (1, .cptr .p (.sl .p (l.map i64V)) 0), (3, .int .i64 ((i.1 : Int) - 1))]) (fun i => []) (fun i => i.2)
    (fun i => i.1 ≤ l.length ∧ YL H (backTo i64V l i.1) i.2 K) (fun i => i.1) (l.length, g0) ⟨Nat.le_refl _, hy0⟩ ft rfl fun i hi => ?_
  obtain ⟨k, g⟩ := i
  obtain ⟨h1, hy⟩ := hi
  simp only at h1 hy
  clear hy0
  repeat (first | refine i_s rfl ?_ | refine sw ?_)
  refine c_cond rfl (fun h => ?_) (fun h => ?_)
  · have hge := of_decide_eq_true h
    obtain ⟨m, rfl⟩ : ∃ m, k = m + 1 := ⟨k - 1, by omega⟩
    obtain ⟨x, hx⟩ := get_some (l := l) (k := m) (by omega)
    simp only [backTo, hx] at hy
    have ek : ((m + 1 : Nat) : Int) - 1 = m := by omega
    rw [ek]
    clear h hge
    repeat (first | refine i_s rfl ?_ | refine sw ?_ | refine jd rfl rfl ?_)
    refine i_y hM rfl rfl rfl (hM _ _ _ _ (fun u g' hu => ?_) hy)
    rcases hu with ⟨rfl, hu⟩ | ⟨rfl, hu⟩
    · repeat (first | refine i_s rfl ?_ | refine sw ?_ | refine c_f rfl ?_ | refine jb rfl rfl ?_)
      exact e_loop ⟨(m, g'), ⟨by simp only; omega, hu⟩, ft, rfl, by simp only; omega⟩
    · repeat (first | refine i_s rfl ?_ | refine sw ?_ | refine c_t rfl ?_)
      exact e_ret ⟨rfl, _, rfl, rfl, rfl, restr_stOf _ _, hu⟩
  · have hlt := of_decide_eq_false h
    obtain rfl : k = 0 := by omega
    repeat refine sw ?_
    exact e_end ⟨rfl, _, rfl, rfl, rfl, restr_stOf _ _, hy⟩
def backF {α β : Type} (l : List α) (step : Nat → β → α → Option β) : Nat → β → Option β
  | 0, b => some b
  | k + 1, b => match l[k]? with
    | some x => match step k b x with
      | some b' => backF l step k b'
      | none => none
    | none => none
theorem YL_back {G α β : Type} {f : α → V} {H' : HT G} (hM : MonoH H') {K : G → Prop} (l : List α) (st stR : β → G) (step : Nat → β → α → Option β) (inv : Nat → β → Prop)
    (hinv : ∀ k b x b', l[k]? = some x → inv (k + 1) b → step k b x = some b' → inv k b')
    (hH : ∀ (k : Nat) (b : β) (x : α), l[k]? = some x → inv (k + 1) b → ∀ K' : V → G → Prop, (match step k b x with
      | some b' => K' (.bool true) (st b')
      | none => K' (.bool false) (stR b)) → H' [.int .i64 k, f x] (st b) K') :
    ∀ (k : Nat) (b : β), k ≤ l.length → inv k b → (∀ b', backF l step k b = some b' → inv 0 b' → K (st b')) → (backF l step k b = none → ∀ b', K (stR b')) → YL H' (backTo f l k) (st b) K
  | 0, b, _, hi, hk, _ => hk b rfl hi
  | k + 1, b, hl, hi, hk, hk2 => by
    obtain ⟨x, hx⟩ := get_some (l := l) (k := k) (by omega)
    simp only [backTo, hx]
    simp only [backF, hx] at hk hk2
    refine hH k b x hx hi _ ?_
    cases hs : step k b x with
    | some b' =>
      rw [hs] at hk hk2
      exact .inl ⟨rfl, YL_back hM l st stR step inv hinv hH k b' (by omega) (hinv k b x b' hx hi hs) hk hk2⟩
    | none =>
      rw [hs] at hk2
      exact .inr ⟨rfl, hk2 rfl b⟩
def chStep (l : List Sx) (_ : Nat) (a c : Int) : Option Int := if c < 0 ∨ c ≠ a - 1 then none else some (a - sz l c.toNat)
theorem backF_chn (l : List Sx) (ch : List Int) : ∀ (k : Nat) (a : Int), k ≤ ch.length → backF ch (chStep l) k a = chn l a (ch.take k).reverse
  | 0, a, _ => by simp [backF, chn]
  | k + 1, a, h => by
    obtain ⟨x, hx⟩ := get_some (l := ch) (k := k) (by omega)
    rw [take_succ_get hx, List.reverse_append, List.reverse_singleton, List.singleton_append]
    simp only [backF, hx, chn, chStep]
    by_cases hc : x < 0 ∨ x ≠ a - 1
    · rw [if_pos hc, if_pos hc]
    · rw [if_neg hc, if_neg hc]
      exact backF_chn l ch k _ (by omega)
def c_condition_shape_1 : Cmd :=
 (qS [qq 3 (.alloc 4928194 (.agg [.int .i64 0, .int .i64 0]))]
 (.seq (.ops [qm 4 0, ql 5 1 1, qq 6 (.bin .add false [] (.c (.int .i64 100)) (.t 5)), qq 7 (.build [.int .i64 0, .int .i64 0] [(0 , 1 , .t 4), (1 , 1 , .t 6)]), qs 2 3 7]) .ret))
def r_condition_shape_1 : List RVar := [.cell true 2 3]
def n_condition_shape_1 : Nat := 8
theorem k_condition_shape_1 : chkFn Go.Proofs.Tryz.prog 77 n_condition_shape_1 r_condition_shape_1 c_condition_shape_1 = true := by kernel_rfl
theorem f_condition_shape_1 (code : Int) (i : Nat) (hi : i ≤ 1000) : Fc Go.Proofs.Tryz.prog 77 [.int .i64 code, .cptr .p (.int .i64 i) 0] (ftV ⟨code, 100 + i⟩) := by
  refine Fn.step mixed k_condition_shape_1 ?_
  repeat' (first | refine i_s rfl ?_ | refine sw ?_ | refine ja rfl rfl ?_ | refine i_stb rfl ?_ | refine i_alloc rfl ?_)
  exact e_ret ⟨rfl, _, rfl, rfl⟩
def firsts (l : List Sx) (n k : Nat) : List Int := (List.range n).map fun j => if j < k then fst_ l j else 0
theorem firsts_zero (l : List Sx) (n : Nat) : firsts l n 0 = List.replicate n 0 := by
  unfold firsts
  simp only [Nat.not_lt_zero, if_false]
  apply List.ext_getElem
  · simp
  · intro i h1 h2
    simp
theorem firsts_get {l : List Sx} {n k j : Nat} (hj : j < k) (hn : j < n) : (firsts l n k)[j]? = some (fst_ l j) := by
  unfold firsts
  simp [hn, hj]
theorem firsts_set {l : List Sx} {n k : Nat} (hk : k < n) : (firsts l n k).set k (fst_ l k) = firsts l n (k + 1) := by
  unfold firsts
  apply List.ext_getElem
  · simp
  · intro i h1 h2
    simp only [List.getElem_set, List.getElem_map, List.getElem_range]
    by_cases e : k = i
    · subst e; simp
    · rw [if_neg e]
      by_cases h : i < k
      · rw [if_pos h, if_pos (by omega)]
      · rw [if_neg h, if_neg (by omega)]
end Hm
end
section
namespace Hm
open Go
theorem sh_big {l : List Cn} (h : l.length = 0 ∨ l.length > 30) : shapeF l = ⟨2, -10⟩ := by unfold shapeF; rw [if_pos h]
theorem sh_hit {l : List Cn} {i : Nat} {f : Flt} (h0 : ¬ (l.length = 0 ∨ l.length > 30)) (hi : i < l.length) (hp : ∀ j, j < i → cnBad l j = none) (hf : cnBad l i = some f) : shapeF l = f := by
  unfold shapeF
  rw [if_neg h0, scan0_hit hp hi hf]
theorem sh_all {l : List Cn} (h0 : ¬ (l.length = 0 ∨ l.length > 30)) (hp : ∀ j, j < l.length → cnBad l j = none) : shapeF l = if sz (treeC l) (l.length - 1) ≠ l.length then ⟨5, -10⟩ else okF := by
  unfold shapeF
  rw [if_neg h0, scan0_none hp]
theorem cnBad_chain {l : List Cn} {j : Nat} {n : Cn} (hn : l[j]? = some n) (h : cnBad l j = none) : ∃ e, chn (treeC l) j n.ch.reverse = some e := by
  unfold cnBad at h
  rw [hn] at h
  simp only at h
  split at h
  · cases h
  · split at h
    · cases h
    · split at h
      · cases h
      · rename_i h3
        cases hc : chn (treeC l) j n.ch.reverse with
        | none => rw [hc] at h3; exact absurd rfl h3
        | some e => exact ⟨e, rfl⟩
theorem cnBad_ok {l : List Cn} {j : Nat} {n : Cn} (hn : l[j]? = some n) (h : cnBad l j = none) : (1 ≤ n.kind ∧ n.kind ≤ 8) ∧ (0 ≤ arityI n.kind → (n.ch.length : Int) = arityI n.kind) := by
  unfold cnBad at h
  rw [hn] at h
  simp only at h
  split at h
  · cases h
  · rename_i h1
    split at h
    · cases h
    · rename_i h2
      exact ⟨by omega, fun h3 => by
        by_cases e : (n.ch.length : Int) = arityI n.kind
        · exact e
        · exact absurd ⟨h3, e⟩ h2⟩
theorem chTo_of {l : List Cn} {i : Nat} (hp : ∀ j, j < i → cnBad l j = none) : chTo (treeC l) i := fun j hj x hx => by
  have hjl := get_lt hx
  rw [treeC_len] at hjl
  obtain ⟨n, hn⟩ := get_some hjl
  have := treeC_get hn
  rw [this, Option.some.injEq] at hx
  rw [← hx]
  exact cnBad_chain hn (hp j hj)
theorem chTo_one {l : List Sx} {i : Nat} (h : chTo l i) {x : Sx} (hx : l[i]? = some x) {e : Int} (he : chn l i x.ch.reverse = some e) : chTo l (i + 1) := fun j hj y hy => by
  by_cases c : j < i
  · exact h j c y hy
  · have : j = i := by omega
    subst this
    rw [hx] at hy
    cases hy
    exact ⟨e, he⟩
theorem has_parent {l : List Sx} {n : Nat} (hc : chTo l n) : ∀ (j : Nat), j < n → ∀ k : Nat, fst_ l j ≤ k → k < j → ∃ p, k < p ∧ p ≤ j ∧ (k : Int) ∈ chL l p := by
  intro j
  induction j using Nat.strongRecOn with
  | ind j ih =>
    intro hj k h1 h2
    have hlow : lowTo l (j + 1) := fun i hi => hc.low i (by omega)
    have hs := sz_eq hlow
    have key : ∀ (r : List Int) (a e : Int), a ≤ j → chn l a r = some e → (∀ c ∈ r, c ∈ chL l j) → e ≤ k → (k : Int) < a → ∃ p, k < p ∧ p ≤ j ∧ (k : Int) ∈ chL l p := by
      intro r
      induction r with
      | nil => intro a e _ h _ h3 h4; simp only [chn, Option.some.injEq] at h; omega
      | cons c r ihr =>
        intro a e ha h hm h3 h4
        simp only [chn] at h
        split at h
        · cases h
        · rename_i hcc
          simp only [not_or, Decidable.not_not] at hcc
          by_cases h5 : (k : Int) < a - sz l c.toNat
          · have := sz_pos l c.toNat
            exact ihr _ _ (by omega) h (fun c' h' => hm c' (by simp [h'])) h3 h5
          · by_cases h6 : (k : Int) = c
            · exact ⟨j, h2, Nat.le_refl _, by rw [h6]; exact hm c (by simp)⟩
            · obtain ⟨p, p1, p2, p3⟩ := ih c.toNat (by omega) (by omega) k (by unfold fst_; omega) (by omega)
              exact ⟨p, p1, by omega, p3⟩
    cases hx : l[j]? with
    | none =>
      have : chL l j = [] := by unfold chL; rw [hx]
      rw [this] at hs
      simp only [sumN] at hs
      unfold fst_ at h1
      omega
    | some x =>
      obtain ⟨e, he⟩ := hc j hj x hx
      have hce := (chn_end he).1
      rw [sumN_rev] at hce
      rw [chL_get hx] at hs
      refine key x.ch.reverse j e (Int.le_refl _) he (fun c hc => by rw [chL_get hx]; exact List.mem_reverse.1 hc) ?_ (by omega)
      unfold fst_ at h1
      omega
end Hm
end
section
namespace Hm
open Go
set_option maxRecDepth 100000
set_option maxHeartbeats 4000000
theorem len0C {n : Nat} (h : ((n : Int) == 0) = true) : n = 0 := by
  have h1 : (n : Int) = 0 := by simpa using h
  omega
def c_condition_shape : Cmd :=
 (qS [qq 2 (.alloc 2240130 (.agg [.int .i64 0, .int .i64 0]))]
 (qT (qS [qm 11 0, qn 12 11, qv 13 .eql [.i] 12 0, qm 14 13, qg 15 14 false (.mov (.t 0)), qg 16 14 false (.len false (.t 15)), qg 17 14 false (.bin .gtr false [] (.t 16) (.c (.int .i64 30))), qq 18 (.pick (.t 14) (.c (.bool true)) (.t 17))]
 (.cond (.t 18) (.seq (.ops [qq 19 (.build [.int .i64 0, .int .i64 0] [(0 , 1 , .c (.int .i64 2)), (1 , 1 , .c (.int .i64 (-10)))]), qs 2 2 19]) .ret) .skip))
 (qS [qm 20 0, qn 21 20, qq 22 (.mkSl 2241409 1 8 (.int .i64 0) (.t 21) (.t 21)), qq 3 (.alloc 2240193 (.sl .nil [])), qs 1 3 22]
 (qT (qS [qm 23 0, qn 24 23, qc 25 0]
 (.block 0 (.loop (qS [qu 26 .lss [] 25 24]
 (qT (.cond (.t 26) .skip (.exit 0))
 (qT (.block 1 (qS [qm 27 25, qi 28 7 23 25, qL 29 7 28, qq 4 (.alloc 2240257 (.int .i64 0)), qq 5 (.alloc 2240327 (.agg [.int .i64 0, .sl .nil [], .int .i64 0, .sl .nil [], .int .i64 0, .int .i64 0, .int .i64 0])), qs 1 4 27, qs 7 5 29]
 (qS [qq 30 (.mkfn 77 [.t 4]), qq 6 (.alloc 2240385 (.nilfn)), qs 1 6 30]
 (qT (qS [qf 31 0 5, ql 32 1 31, qv 33 .lss [] 32 1, qm 34 33, qg 35 34 false (.faddr 0 (.t 5)), qg 36 34 false (.load false 1 (.t 35)), qg 37 34 false (.bin .gtr false [] (.t 36) (.c (.int .i64 8))), qq 38 (.pick (.t 34) (.c (.bool true)) (.t 37))]
 (.cond (.t 38) (.seq (.ops [ql 39 1 6, qq 40 (.call .f (.t 39) [.c (.int .i64 4)]), qs 2 2 40]) .ret) .skip))
 (qT (qS [qf 41 0 5, ql 42 1 41, qk 43 78 [42], qm 7 43]
 (qS [qm 44 7, qv 45 .geq [] 44 0, qm 46 45, qg 47 46 true (.faddr 1 (.t 5)), qg 48 46 true (.load false 1 (.t 47)), qg 49 46 true (.len false (.t 48)), qg 50 46 true (.mov (.t 7)), qg 51 46 true (.bin .neq false [.i] (.t 49) (.t 50)), qq 52 (.pick (.t 46) (.t 51) (.c (.bool false)))]
 (.cond (.t 52) (.seq (.ops [ql 53 1 6, qq 54 (.call .f (.t 53) [.c (.int .i64 9)]), qs 2 2 54]) .ret) .skip)))
 (qS [ql 55 1 4, qq 8 (.alloc 2240513 (.int .i64 0)), qs 1 8 55]
 (qT (qS [qf 56 1 5, ql 57 1 56, qk 58 79 [57]]
 (.block 2 (.rangeF [] (.t 58) [59, 60] (.ops [qm 10 60]) (.block 3 (qT (qS [qm 61 10, qv 62 .lss [] 61 0, qm 63 62, qg 64 63 false (.mov (.t 10)), qg 65 63 false (.load false 1 (.t 8)), qg 66 63 false (.bin .sub false [] (.t 65) (.c (.int .i64 1))), qg 67 63 false (.bin .neq false [.i] (.t 64) (.t 66)), qq 68 (.pick (.t 63) (.c (.bool true)) (.t 67))]
 (.cond (.t 68) (.seq (.ops [ql 69 1 6, qq 70 (.call .f (.t 69) [.c (.int .i64 5)]), qs 2 2 70]) .ret) .skip))
 (.ops [ql 71 1 3, qm 72 10, qi 73 1 71 72, ql 74 1 73, qs 1 8 74]))))))
 (.ops [ql 75 1 3, ql 76 1 4, ql 77 1 8, qi 78 1 75 76, qs 1 78 77]))))))))
 (.ops [qv 79 .add [] 25 1, qm 25 79])))))))
 (qT (qS [ql 80 1 3, qm 81 0, qn 82 81, qv 83 .sub [] 82 1, qi 84 1 80 83, ql 85 1 84, qv 86 .neq [.i] 85 0]
 (.cond (.t 86) (.seq (.ops [qq 87 (.build [.int .i64 0, .int .i64 0] [(0 , 1 , .c (.int .i64 5)), (1 , 1 , .c (.int .i64 (-10)))]), qs 2 2 87]) .ret) .skip))
 (.seq (.ops [qq 88 (.build [.int .i64 0, .int .i64 0] []), qs 2 2 88]) .ret))))))
def r_condition_shape : List RVar := [.cell true 2 2]
def n_condition_shape : Nat := 89
theorem k_condition_shape : chkFn Go.Proofs.Tryz.prog 35 n_condition_shape r_condition_shape c_condition_shape = true := by kernel_rfl
abbrev shS (l : List Cn) (i : Nat) (r : Flt) (a : Int) : List (Nat × Blk) := [(2240130, .box (ftV r)), (2240193, .box (.msl 2241409 0 0 l.length)), (2241409, .arr 0 ((firsts (treeC l) l.length i).map i64V)), (2240257, .box (.int .i64 i)), (2240385, .box (.fn 77 [.bptr 2240257 0])), (2240513, .box (.int .i64 a))]
theorem f_condition_shape (l : List Cn) (hl : l.length ≤ 1599289640354) (ho : ∀ n ∈ l, CnOk n) : Fc Go.Proofs.Tryz.prog 35 [.sl .p (l.map cnV)] (ftV (shapeF l)) := by
  by_cases hb : l.length = 0 ∨ l.length > 30
  · rw [sh_big hb]
    refine Fn.step mixed k_condition_shape ?_
    repeat' (first | refine i_len rfl ?_ | refine i_s rfl ?_ | refine sw ?_ | refine i_gt rfl ?_ | refine i_gf rfl ?_ | refine c_t rfl ?_ | refine i_stb rfl ?_ | refine i_alloc rfl ?_ | (refine sp ?_ ?_ <;> try intro h) | fail)
    all_goals first
      | exact e_ret ⟨rfl, _, rfl, rfl⟩
      | (exfalso; have h1 := of_decide_eq_false h; rename_i h0; have h2 : ¬ (l.length : Int) = 0 := (fun e => by rw [e] at h0; cases h0); omega)
  have hl2 : 1 ≤ l.length ∧ l.length ≤ 30 := by omega
  refine Fn.step mixed k_condition_shape ?_
  repeat' (first | refine i_len rfl ?_ | refine i_s rfl ?_ | refine sw ?_ | refine i_gt rfl ?_ | refine i_gf rfl ?_ | refine c_t rfl ?_ | refine i_stb rfl ?_ | refine i_alloc rfl ?_ | (refine sp ?_ ?_ <;> try intro h) | fail)
  all_goals first
    | exact absurd (len0C h) (by omega)
    | (exfalso; have h9 := of_decide_eq_true h; omega)
    | skip
  refine i_mks rfl rfl rfl (by omega) (by omega) (by omega) (by omega) rfl ?_
  repeat (first | refine i_len rfl ?_ | refine i_s rfl ?_ | refine sw ?_ | refine i_stb rfl ?_ | refine i_alloc rfl ?_)
  refine c_for l.length (fun i => [(0, .sl .p (l.map cnV)), (2, .bptr 2240130 0), (3, .bptr 2240193 0), (23, .sl .p (l.map cnV)), (24, .int .i64 l.length), (25, .int .i64 i)])
    (fun i => [(2240130, .box (ftV okF)), (2240193, .box (.msl 2241409 0 0 l.length)), (2241409, .arr 0 ((firsts (treeC l) l.length i).map i64V))]) (fun i => ∀ j, j < i → cnBad l j = none) all_zero
    ⟨⟨rfl, rfl, rfl, rfl, rfl, rfl, trivial⟩, ⟨rfl, rfl, by rw [firsts_zero, List.map_replicate]; rfl, trivial⟩, rfl⟩ fun i hi hp => ?_
  repeat (first | refine i_s rfl ?_ | refine sw ?_)
  refine c_cond rfl (fun h => ?_) (fun h => ?_)
  · have hlt : i < l.length := by simpa using h
    obtain ⟨n, hn⟩ := get_some hlt
    have hno := ho n (mem_get hn)
    have hnc := hno.ch
    have hA := f_condition_arity n.kind
    have hB := f_slices_Backward_int n.ch
    have hF4 := f_condition_shape_1 4 i (by omega)
    have hF9 := f_condition_shape_1 9 i (by omega)
    have hF5 := f_condition_shape_1 5 i (by omega)
    clear h
    by_cases k1 : n.kind < 1 ∨ n.kind > 8
    · have hbad : cnBad l i = some ⟨4, 100 + i⟩ := by simp only [cnBad, hn]; rw [if_pos k1]
      rw [sh_hit hb hlt hp hbad]
      clear hp hbad ho hno
      repeat' (first | refine i_s rfl ?_ | refine sw ?_ | refine i_gt rfl ?_ | refine i_gf rfl ?_ | refine c_t rfl ?_ | refine jd rfl rfl ?_ | refine i_stb rfl ?_ | refine i_alloc rfl ?_ | (refine sp ?_ ?_ <;> try intro h) | refine sf rfl rfl hF4 ?_ | fail)
      all_goals first
        | exact e_ret ⟨rfl, _, rfl, rfl⟩
        | (exfalso; clear hA hB hF4 hF9 hF5; simp at *; omega)
    by_cases k2 : 0 ≤ arityI n.kind ∧ (n.ch.length : Int) ≠ arityI n.kind
    · have hbad : cnBad l i = some ⟨9, 100 + i⟩ := by simp only [cnBad, hn]; rw [if_neg k1, if_pos k2]
      rw [sh_hit hb hlt hp hbad]
      clear hp hbad ho hno
      generalize arityI n.kind = ar at *
      repeat' (first | refine i_len rfl ?_ | refine i_s rfl ?_ | refine sw ?_ | refine i_gt rfl ?_ | refine i_gf rfl ?_ | refine c_t rfl ?_ | refine c_f rfl ?_ | refine jd rfl rfl ?_ | refine i_stb rfl ?_ | refine i_alloc rfl ?_ | (refine sp ?_ ?_ <;> try intro h) | refine sf rfl rfl hA ?_ | refine sf rfl rfl hF9 ?_ | fail)
      all_goals first
        | exact e_ret ⟨rfl, _, rfl, rfl⟩
        | (exfalso; clear hA hB hF4 hF9 hF5; simp at *; omega)
    have hbad : cnBad l i = if (chn (treeC l) i n.ch.reverse).isNone = true then some ⟨5, 100 + i⟩ else none := by simp only [cnBad, hn]; rw [if_neg k1, if_neg k2]
    generalize arityI n.kind = ar at *
    repeat' (first | refine i_len rfl ?_ | refine i_s rfl ?_ | refine sw ?_ | refine i_gt rfl ?_ | refine i_gf rfl ?_ | refine c_t rfl ?_ | refine c_f rfl ?_ | refine jd rfl rfl ?_ | refine i_stb rfl ?_ | refine i_alloc rfl ?_ | (refine sp ?_ ?_ <;> try intro h) | refine sf rfl rfl hA ?_ | refine sf rfl rfl hB ?_ | fail)
    all_goals first
      | (exfalso; clear hA hB hF4 hF9 hF5 hp hbad; simp at *; omega)
      | skip
    all_goals refine c_rangeS [(0, .sl .p (l.map cnV)), (2, .bptr 2240130 0), (3, .bptr 2240193 0), (4, .bptr 2240257 0), (6, .bptr 2240385 0), (8, .bptr 2240513 0), (23, .sl .p (l.map cnV)), (24, .int .i64 l.length), (25, .int .i64 i)] [(2240130, .box (ftV okF)), (2240193, .box (.msl 2241409 0 0 l.length)), (2241409, .arr 0 ((firsts (treeC l) l.length i).map i64V)), (2240257, .box (.int .i64 i)), (2240385, .box (.fn 77 [.bptr 2240257 0])), (2240513, .box (.int .i64 i))] [2240130, 2240193, 2241409, 2240257, 2240385, 2240513] [] [(2240130, .box (ftV okF)), (2240193, .box (.msl 2241409 0 0 l.length)), (2241409, .arr 0 ((firsts (treeC l) l.length i).map i64V)), (2240257, .box (.int .i64 i)), (2240385, .box (.fn 77 [.bptr 2240257 0])), (2240513, .box (.int .i64 i))] rfl ft rfl rfl rfl rfl ?_
    all_goals clear hA hB hF4 hF9
    all_goals refine Cc_mono ?_ (ct_Backward_int n.ch (by omega) _ (fun st => (∃ a : Int, chn (treeC l) i n.ch.reverse = some a ∧ st = (stOf (shS l i okF a), (), none)) ∨ (chn (treeC l) i n.ch.reverse = none ∧ ∃ a : Int, st = (stOf (shS l i ⟨5, 100 + i⟩ a), (), some .ret))) (YL_back (RHm noH_mono) n.ch (fun a : Int => (stOf (shS l i okF a), (), none)) (fun a : Int => (stOf (shS l i ⟨5, 100 + i⟩ a), (), some .ret)) (chStep (treeC l)) (fun _ a => 0 ≤ a ∧ a ≤ i) ?_ ?_ n.ch.length i (Nat.le_refl _) ⟨by omega, by omega⟩ ?_ ?_))
    · rintro _ σ' st ⟨rfl, hst⟩
      refine ⟨rfl, ?_⟩
      rcases hst with ⟨a, ha, rfl⟩ | ⟨hno2, a, rfl⟩
      · rw [ha] at hbad
        have hb0 : cnBad l i = none := hbad
        have hce := (chn_end ha).1
        have hsz := sz_eq (chTo_one (chTo_of hp) (treeC_get hn) ha).low
        rw [treeC_ch hn] at hsz
        rw [sumN_rev] at hce
        have ea : a = fst_ (treeC l) i := by unfold fst_; omega
        subst ea
        have hg : ((firsts (treeC l) l.length i).map i64V)[0 + ((i : Nat) : Int).toNat]? = some (i64V 0) := by
          rw [Nat.zero_add, show ((i : Nat) : Int).toNat = i from rfl, List.getElem?_map]
          unfold firsts
          simp [hlt]
        have hset := firsts_set (l := treeC l) hlt
        clear hbad ho hno hsz hce ha
        show WE _ _ _ _ _ .normal _ _ _
        repeat (first | refine i_s rfl ?_ | refine sw ?_)
        refine i_ima rfl rfl rfl rfl (by omega) (by omega) rfl ?_
        refine i_stp rfl rfl rfl hg rfl rfl ?_
        repeat (first | refine i_s rfl ?_ | refine sw ?_ | refine ja rfl rfl ?_)
        refine e_for hlt (all_succ hp hb0) ⟨⟨rfl, rfl, rfl, rfl, rfl, rfl, trivial⟩, ⟨rfl, rfl, ?_, trivial⟩, rfl⟩
        rw [← hset, List.map_set]
        rw [Nat.zero_add]
        rfl
      · rw [hno2] at hbad
        rw [sh_hit hb hlt hp hbad]
        exact e_ret ⟨rfl, _, rfl, rfl⟩
    · intro k b x b' hx hb hs
      unfold chStep at hs
      split at hs
      · cases hs
      · rename_i hcc
        simp only [not_or, Decidable.not_not] at hcc
        cases hs
        have h1 := sz_leC x.toNat i (chTo_of hp) (by omega)
        have h2 := sz_pos (treeC l) x.toNat
        omega
    · intro k b x hx hb K' hk
      have hg : x < 0 ∨ x ≠ b - 1 ∨ ((firsts (treeC l) l.length i).map i64V)[0 + x.toNat]? = some (i64V (fst_ (treeC l) x.toNat)) := by
        by_cases c : x < 0
        · exact .inl c
        · by_cases c2 : x = b - 1
          · exact .inr (.inr (by rw [Nat.zero_add, List.getElem?_map, firsts_get (by omega) (by omega)]; rfl))
          · exact .inr (.inl c2)
      unfold chStep at hk
      clear hp hbad ho hno
      refine rh_intro noH_mono rfl ?_
      by_cases hcc : x < 0 ∨ x ≠ b - 1
      · rw [if_pos hcc] at hk
        clear hg
        repeat (first | refine i_s rfl ?_ | refine sw ?_)
        refine e_end ?_
        show WC _ _ _ _ [] _ _ _ _
        repeat' (first | refine i_s rfl ?_ | refine sw ?_ | refine i_gt rfl ?_ | refine i_gf rfl ?_ | refine c_t rfl ?_ | refine jb rfl rfl ?_ | refine i_stb rfl ?_ | (refine sp ?_ ?_ <;> try intro h) | refine sf rfl rfl hF5 ?_ | fail)
        all_goals first
          | (refine e_ret ?_; exact rhq_r rfl rfl hk)
          | (exfalso; clear hF5 hk; simp at *; omega)
      · rw [if_neg hcc] at hk
        simp only [not_or, Decidable.not_not] at hcc
        obtain ⟨hc0, hc1⟩ := hcc
        have hg : ((firsts (treeC l) l.length i).map i64V)[0 + x.toNat]? = some (i64V (fst_ (treeC l) x.toNat)) := by
          rcases hg with h | h | h
          · omega
          · exact absurd hc1 h
          · exact h
        have ef : b - sz (treeC l) x.toNat = fst_ (treeC l) x.toNat := by unfold fst_; omega
        rw [ef] at hk
        clear ef
        generalize fst_ (treeC l) x.toNat = fx at *
        repeat (first | refine i_s rfl ?_ | refine sw ?_)
        refine e_end ?_
        show WC _ _ _ _ [] _ _ _ _
        repeat' (first | refine i_s rfl ?_ | refine sw ?_ | refine i_gt rfl ?_ | refine i_gf rfl ?_ | refine c_t rfl ?_ | refine jb rfl rfl ?_ | (refine sp ?_ ?_ <;> try intro h) | fail)
        all_goals first
          | (exfalso; clear hF5 hk hg; simp at *; omega)
          | skip
        refine i_ima rfl rfl rfl rfl (by omega) (by omega) rfl ?_
        refine i_ldp rfl rfl rfl hg rfl ?_
        repeat (first | refine sw ?_ | refine i_stb rfl ?_)
        refine e_end ?_
        exact rhq_n rfl rfl hk
    · intro b' h _
      rw [backF_chn _ _ _ _ (Nat.le_refl _), List.take_length] at h
      exact .inl ⟨b', h, rfl⟩
    · intro h b'
      rw [backF_chn _ _ _ _ (Nat.le_refl _), List.take_length] at h
      exact .inr ⟨h, b', rfl⟩
    · rintro _ σ' st ⟨rfl, hst⟩
      refine ⟨rfl, ?_⟩
      rcases hst with ⟨a, ha, rfl⟩ | ⟨hno2, a, rfl⟩
      · rw [ha] at hbad
        have hb0 : cnBad l i = none := hbad
        have hce := (chn_end ha).1
        have hsz := sz_eq (chTo_one (chTo_of hp) (treeC_get hn) ha).low
        rw [treeC_ch hn] at hsz
        rw [sumN_rev] at hce
        have ea : a = fst_ (treeC l) i := by unfold fst_; omega
        subst ea
        have hg : ((firsts (treeC l) l.length i).map i64V)[0 + ((i : Nat) : Int).toNat]? = some (i64V 0) := by
          rw [Nat.zero_add, show ((i : Nat) : Int).toNat = i from rfl, List.getElem?_map]
          unfold firsts
          simp [hlt]
        have hset := firsts_set (l := treeC l) hlt
        clear hbad ho hno hsz hce ha
        show WE _ _ _ _ _ .normal _ _ _
        repeat (first | refine i_s rfl ?_ | refine sw ?_)
        refine i_ima rfl rfl rfl rfl (by omega) (by omega) rfl ?_
        refine i_stp rfl rfl rfl hg rfl rfl ?_
        repeat (first | refine i_s rfl ?_ | refine sw ?_ | refine ja rfl rfl ?_)
        refine e_for hlt (all_succ hp hb0) ⟨⟨rfl, rfl, rfl, rfl, rfl, rfl, trivial⟩, ⟨rfl, rfl, ?_, trivial⟩, rfl⟩
        rw [← hset, List.map_set]
        rw [Nat.zero_add]
        rfl
      · rw [hno2] at hbad
        rw [sh_hit hb hlt hp hbad]
        exact e_ret ⟨rfl, _, rfl, rfl⟩
    · intro k b x b' hx hb hs
      unfold chStep at hs
      split at hs
      · cases hs
      · rename_i hcc
        simp only [not_or, Decidable.not_not] at hcc
        cases hs
        have h1 := sz_leC x.toNat i (chTo_of hp) (by omega)
        have h2 := sz_pos (treeC l) x.toNat
        omega
    · intro k b x hx hb K' hk
      have hg : x < 0 ∨ x ≠ b - 1 ∨ ((firsts (treeC l) l.length i).map i64V)[0 + x.toNat]? = some (i64V (fst_ (treeC l) x.toNat)) := by
        by_cases c : x < 0
        · exact .inl c
        · by_cases c2 : x = b - 1
          · exact .inr (.inr (by rw [Nat.zero_add, List.getElem?_map, firsts_get (by omega) (by omega)]; rfl))
          · exact .inr (.inl c2)
      unfold chStep at hk
      clear hp hbad ho hno
      refine rh_intro noH_mono rfl ?_
      by_cases hcc : x < 0 ∨ x ≠ b - 1
      · rw [if_pos hcc] at hk
        clear hg
        repeat (first | refine i_s rfl ?_ | refine sw ?_)
        refine e_end ?_
        show WC _ _ _ _ [] _ _ _ _
        repeat' (first | refine i_s rfl ?_ | refine sw ?_ | refine i_gt rfl ?_ | refine i_gf rfl ?_ | refine c_t rfl ?_ | refine jb rfl rfl ?_ | refine i_stb rfl ?_ | (refine sp ?_ ?_ <;> try intro h) | refine sf rfl rfl hF5 ?_ | fail)
        all_goals first
          | (refine e_ret ?_; exact rhq_r rfl rfl hk)
          | (exfalso; clear hF5 hk; simp at *; omega)
      · rw [if_neg hcc] at hk
        simp only [not_or, Decidable.not_not] at hcc
        obtain ⟨hc0, hc1⟩ := hcc
        have hg : ((firsts (treeC l) l.length i).map i64V)[0 + x.toNat]? = some (i64V (fst_ (treeC l) x.toNat)) := by
          rcases hg with h | h | h
          · omega
          · exact absurd hc1 h
          · exact h
        have ef : b - sz (treeC l) x.toNat = fst_ (treeC l) x.toNat := by unfold fst_; omega
        rw [ef] at hk
        clear ef
        generalize fst_ (treeC l) x.toNat = fx at *
        repeat (first | refine i_s rfl ?_ | refine sw ?_)
        refine e_end ?_
        show WC _ _ _ _ [] _ _ _ _
        repeat' (first | refine i_s rfl ?_ | refine sw ?_ | refine i_gt rfl ?_ | refine i_gf rfl ?_ | refine c_t rfl ?_ | refine jb rfl rfl ?_ | (refine sp ?_ ?_ <;> try intro h) | fail)
        all_goals first
          | (exfalso; clear hF5 hk hg; simp at *; omega)
          | skip
        refine i_ima rfl rfl rfl rfl (by omega) (by omega) rfl ?_
        refine i_ldp rfl rfl rfl hg rfl ?_
        repeat (first | refine sw ?_ | refine i_stb rfl ?_)
        refine e_end ?_
        exact rhq_n rfl rfl hk
    · intro b' h _
      rw [backF_chn _ _ _ _ (Nat.le_refl _), List.take_length] at h
      exact .inl ⟨b', h, rfl⟩
    · intro h b'
      rw [backF_chn _ _ _ _ (Nat.le_refl _), List.take_length] at h
      exact .inr ⟨h, b', rfl⟩
  · have hge : i = l.length := by have : ¬ i < l.length := by simpa using h
                                  omega
    subst hge
    rw [sh_all hb hp]
    have hg : ((firsts (treeC l) l.length l.length).map i64V)[0 + ((l.length : Int) - 1).toNat]? = some (i64V (fst_ (treeC l) (l.length - 1))) := by
      rw [Nat.zero_add, show ((l.length : Int) - 1).toNat = l.length - 1 from by omega, List.getElem?_map, firsts_get (by omega) (by omega)]; rfl
    have ez : fst_ (treeC l) (l.length - 1) = (l.length : Int) - sz (treeC l) (l.length - 1) := by unfold fst_; omega
    rw [ez] at hg
    clear hp ho h
    generalize sz (treeC l) (l.length - 1) = S at *
    by_cases z : S = l.length
    · rw [if_neg (by simp [z])]
      repeat (first | refine i_len rfl ?_ | refine i_s rfl ?_ | refine sw ?_ | refine jb rfl rfl ?_)
      refine i_ima rfl rfl rfl rfl (by omega) (by omega) rfl ?_
      refine i_ldp rfl rfl rfl hg rfl ?_
      repeat' (first | refine i_s rfl ?_ | refine sw ?_ | refine i_stb rfl ?_ | refine c_cond rfl (fun h => ?_) (fun h => ?_))
      all_goals first
        | exact e_ret ⟨rfl, _, rfl, rfl⟩
        | (exfalso; clear hg; simp at *; omega)
    · rw [if_pos z]
      repeat (first | refine i_len rfl ?_ | refine i_s rfl ?_ | refine sw ?_ | refine jb rfl rfl ?_)
      refine i_ima rfl rfl rfl rfl (by omega) (by omega) rfl ?_
      refine i_ldp rfl rfl rfl hg rfl ?_
      repeat' (first | refine i_s rfl ?_ | refine sw ?_ | refine i_stb rfl ?_ | refine c_cond rfl (fun h => ?_) (fun h => ?_))
      all_goals first
        | exact e_ret ⟨rfl, _, rfl, rfl⟩
        | (exfalso; clear hg; simp at *; omega)
def c_slices_Backward_ConditionNode : Cmd :=
 (qS [qx 1 5120065 1 0, qq 2 (.mov (.c (.nilfn)))]
 (.seq (.ops [qq 3 (.mkfn 116 [.t 1]), qm 2 3]) .ret))
def r_slices_Backward_ConditionNode : List RVar := [.tmp 2]
def n_slices_Backward_ConditionNode : Nat := 4
theorem k_slices_Backward_ConditionNode : chkFn Go.Proofs.Tryz.prog 80 n_slices_Backward_ConditionNode r_slices_Backward_ConditionNode c_slices_Backward_ConditionNode = true := by kernel_rfl
theorem f_slices_Backward_ConditionNode (l : List Cn) : Fc Go.Proofs.Tryz.prog 80 [.sl .p (l.map cnV)] (.fn 116 [.cptr .p (.sl .p (l.map cnV)) 0]) := by
  refine Fn.step mixed k_slices_Backward_ConditionNode ?_
  repeat' (first | refine i_s rfl ?_ | refine sw ?_ | refine i_box rfl rfl ?_)
  exact e_ret ⟨rfl, _, rfl, rfl⟩
def c_slices_Backward_ConditionNode_1 : Cmd :=
 (qS [ql 4 1 1, qn 5 4, qv 6 .sub [] 5 1, qm 3 6]
 (.block 0 (.loop (qT (qS [qm 7 3, qv 8 .geq [] 7 0]
 (.cond (.t 8) .skip (.exit 0)))
 (qT (.block 1 (qS [qm 11 0, qm 12 3, ql 13 1 1, qm 14 3, qi 15 7 13 14, qL 16 7 15, qq 17 (.call .y (.t 11) [.t 12, .t 16]), qq 18 (.not (.t 17))]
 (.cond (.t 18) .ret .skip)))
 (.ops [qm 9 3, qv 10 .sub [] 9 1, qm 3 10]))))))
def r_slices_Backward_ConditionNode_1 : List RVar := []
def n_slices_Backward_ConditionNode_1 : Nat := 19
theorem k_slices_Backward_ConditionNode_1 : chkFn Go.Proofs.Tryz.prog 116 n_slices_Backward_ConditionNode_1 r_slices_Backward_ConditionNode_1 c_slices_Backward_ConditionNode_1 = true := by kernel_rfl
theorem ct_Backward_Cn {G : Type} {H : HT G} (l : List Cn) (hl : l.length ≤ 140737488355328) (g0 : G) (K : G → Prop) (hy0 : YL H (backTo cnV l l.length) g0 K) :
    Cc Go.Proofs.Tryz.prog H 116 [.rnd, .cptr .p (.sl .p (l.map cnV)) 0] [] (stOf []) g0 fun _ σ' g' => σ' = stOf [] ∧ K g' := by
  refine CT.step _ mixed k_slices_Backward_ConditionNode_1 (fun nm hnm => stOf_mem _ nm hnm) fun hM => ?_
  repeat (first | refine i_len rfl ?_ | refine i_s rfl ?_ | refine sw ?_ | refine jb rfl rfl ?_)
  refine c_loop (ι := Nat × G) (fun i => [(0, .rnd), (1, .cptr .p (.sl .p (l.map cnV)) 0), (3, .int .i64 ((i.1 : Int) - 1))]) (fun i => []) (fun i => i.2)
    (fun i => i.1 ≤ l.length ∧ YL H (backTo cnV l i.1) i.2 K) (fun i => i.1) (l.length, g0) ⟨Nat.le_refl _, hy0⟩ ft rfl fun i hi => ?_
  obtain ⟨k, g⟩ := i
  obtain ⟨h1, hy⟩ := hi
  simp only at h1 hy
  clear hy0
  repeat (first | refine i_s rfl ?_ | refine sw ?_)
  refine c_cond rfl (fun h => ?_) (fun h => ?_)
  · have hge := of_decide_eq_true h
    obtain ⟨m, rfl⟩ : ∃ m, k = m + 1 := ⟨k - 1, by omega⟩
    obtain ⟨x, hx⟩ := get_some (l := l) (k := m) (by omega)
    simp only [backTo, hx] at hy
    have ek : ((m + 1 : Nat) : Int) - 1 = m := by omega
    rw [ek]
    clear h hge
    repeat (first | refine i_s rfl ?_ | refine sw ?_ | refine jd rfl rfl ?_)
    refine i_y hM rfl rfl rfl (hM _ _ _ _ (fun u g' hu => ?_) hy)
    rcases hu with ⟨rfl, hu⟩ | ⟨rfl, hu⟩
    · repeat (first | refine i_s rfl ?_ | refine sw ?_ | refine c_f rfl ?_ | refine jb rfl rfl ?_)
      exact e_loop ⟨(m, g'), ⟨by simp only; omega, hu⟩, ft, rfl, by simp only; omega⟩
    · repeat (first | refine i_s rfl ?_ | refine sw ?_ | refine c_t rfl ?_)
      exact e_ret ⟨rfl, _, rfl, rfl, rfl, restr_stOf _ _, hu⟩
  · have hlt := of_decide_eq_false h
    obtain rfl : k = 0 := by omega
    repeat refine sw ?_
    exact e_end ⟨rfl, _, rfl, rfl, rfl, restr_stOf _ _, hy⟩
theorem find_range_hit {p : Nat → Bool} : ∀ {n k : Nat}, k < n → (∀ j, j < k → p j = false) → p k = true → (List.range n).find? p = some k := by
  intro n k hk hj hp
  rw [List.find?_eq_some_iff_getElem]
  refine ⟨hp, k, by simpa using hk, by simp, fun j hjk => by simp [hj j hjk]⟩
theorem parentC_gt {l : List Cn} {i p : Nat} (h : parentC l i = some p) : i < p ∧ p < l.length := by
  unfold parentC at h
  have h1 := List.find?_some h
  have h2 := List.mem_of_find?_eq_some h
  simp only [Bool.and_eq_true, decide_eq_true_eq] at h1
  exact ⟨h1.1, by simpa using h2⟩
theorem scopeF_fuel (c : Cnd) : ∀ (f g i : Nat), c.nodes.length ≤ i + f → c.nodes.length ≤ i + g → scopeF c f i = scopeF c g i
  | 0, 0, i, _, _ => rfl
  | 0, g + 1, i, h, _ => by
    simp only [scopeF]
    cases hp : parentC c.nodes i with
    | none => rfl
    | some p => have := parentC_gt hp; omega
  | f + 1, 0, i, _, h => by
    simp only [scopeF]
    cases hp : parentC c.nodes i with
    | none => rfl
    | some p => have := parentC_gt hp; omega
  | f + 1, g + 1, i, h1, h2 => by
    simp only [scopeF]
    cases hp : parentC c.nodes i with
    | none => rfl
    | some p =>
      have := parentC_gt hp
      simp only
      rw [scopeF_fuel c f g p (by omega) (by omega)]
theorem scopeC_eq (c : Cnd) (i : Nat) (hi : i < c.nodes.length) : scopeC c i = match parentC c.nodes i with
    | none => c.types
    | some p => scopeC c p ++ (match c.nodes[p]? with
      | some n => if quantK n.kind = true then [n.type] else []
      | none => []) := by
  unfold scopeC
  obtain ⟨m, hm⟩ : ∃ m, c.nodes.length = m + 1 := ⟨c.nodes.length - 1, by omega⟩
  conv => lhs; rw [hm]
  simp only [scopeF]
  cases hp : parentC c.nodes i with
  | none => rfl
  | some p =>
    have := parentC_gt hp
    simp only
    rw [scopeF_fuel c m c.nodes.length p (by omega) (by omega)]
    cases c.nodes[p]? <;> rfl
theorem scopeF_len (c : Cnd) : ∀ (f i : Nat), (scopeF c f i).length ≤ c.types.length + f
  | 0, _ => by simp [scopeF]
  | f + 1, i => by
    simp only [scopeF]
    split
    · omega
    · rename_i p _
      have := scopeF_len c f p
      rw [List.length_append]
      split
      · split <;> simp <;> omega
      · simp; omega
end Hm
end
section
namespace Hm
open Go
def ownC (n : Cn) : List Int := if quantK n.kind = true then [n.type] else []
theorem chn_place {l : List Sx} : ∀ {r : List Int} {a e : Int}, chn l a r = some e → ∀ q : Int, e ≤ q → q < a → ∃ c ∈ r, 0 ≤ c ∧ fst_ l c.toNat ≤ q ∧ q ≤ c
  | [], a, e, h, q, h1, h2 => by simp only [chn, Option.some.injEq] at h; omega
  | c :: r, a, e, h, q, h1, h2 => by
    simp only [chn] at h
    split at h
    · cases h
    · rename_i hcc
      simp only [not_or, Decidable.not_not] at hcc
      by_cases h3 : a - sz l c.toNat ≤ q
      · exact ⟨c, by simp, by omega, by unfold fst_; omega, by omega⟩
      · obtain ⟨c', m, p⟩ := chn_place h q h1 (by omega)
        exact ⟨c', by simp [m], p⟩
theorem chn_disj {l : List Sx} : ∀ {r : List Int} {a e : Int}, chn l a r = some e → ∀ c ∈ r, ∀ k ∈ r, k < c → k < fst_ l c.toNat
  | [], a, e, h, c, hc, k, hk, hlt => by simp at hc
  | c0 :: r, a, e, h, c, hc, k, hk, hlt => by
    simp only [chn] at h
    split at h
    · cases h
    · rename_i hcc
      simp only [not_or, Decidable.not_not] at hcc
      have h2 := (chn_end h).2
      have h3 := sz_pos l c0.toNat
      rcases List.mem_cons.1 hc with e1 | hc1
      · rcases List.mem_cons.1 hk with e2 | hk1
        · omega
        · have := h2 k hk1
          subst e1
          unfold fst_; omega
      · rcases List.mem_cons.1 hk with e2 | hk1
        · have := h2 c hc1
          omega
        · exact chn_disj h c hc1 k hk1 hlt
theorem chn_fst {l : List Sx} : ∀ {r : List Int} {a e : Int}, chn l a r = some e → ∀ c ∈ r, e ≤ fst_ l c.toNat
  | [], a, e, h, c, hc => by simp at hc
  | c0 :: r, a, e, h, c, hc => by
    simp only [chn] at h
    split at h
    · cases h
    · rename_i hcc
      simp only [not_or, Decidable.not_not] at hcc
      have h2 := (chn_end h).1
      rcases List.mem_cons.1 hc with rfl | hc
      · unfold fst_; omega
      · exact chn_fst h c hc
theorem chn_first {l : List Sx} {i n : Nat} (hc : chTo l n) (hi : i < n) {x : Sx} (hx : l[i]? = some x) : chn l i x.ch.reverse = some (fst_ l i) := by
  obtain ⟨e, he⟩ := hc i hi x hx
  have h1 := (chn_end he).1
  have hs := sz_eq (l := l) (i := i) (fun j hj => hc.low j (by omega))
  rw [chL_get hx] at hs
  rw [sumN_rev] at h1
  rw [he]
  congr 1
  unfold fst_
  omega
theorem laminar {l : List Sx} {n : Nat} (hc : chTo l n) (hl : n ≤ l.length) : ∀ (i : Nat), i < n → ∀ p : Nat, p ≤ i → fst_ l i ≤ p → fst_ l i ≤ fst_ l p := by
  intro i
  induction i using Nat.strongRecOn with
  | ind i ih =>
    intro hi p hp hf
    by_cases e : p = i
    · subst e; omega
    obtain ⟨x, hx⟩ := get_some (l := l) (k := i) (by omega)
    have hch := chn_first hc hi hx
    obtain ⟨c, hm, c0, c1, c2⟩ := chn_place hch p hf (by omega)
    have hlt := ((chn_end hch).2 c hm).2
    have := ih c.toNat (by omega) (by omega) p (by omega) c1
    have := chn_fst hch c hm
    omega
theorem one_parent {l : List Sx} {n : Nat} (hc : chTo l n) (hl : n ≤ l.length) {i p k : Nat} (hi : i < n) (hp : p < i) (h1 : (k : Int) ∈ chL l i) (h2 : (k : Int) ∈ chL l p) : False := by
  obtain ⟨x, hx⟩ := get_some (l := l) (k := i) (by omega)
  obtain ⟨y, hy⟩ := get_some (l := l) (k := p) (by omega)
  have hci := chn_first hc hi hx
  have hcp := chn_first hc (by omega) hy
  rw [chL_get hx] at h1
  rw [chL_get hy] at h2
  have h1' : (k : Int) ∈ x.ch.reverse := by simpa using h1
  have h2' : (k : Int) ∈ y.ch.reverse := by simpa using h2
  have k1 := (chn_end hci).2 _ h1'
  have k2 := (chn_end hcp).2 _ h2'
  have k3 := chn_fst hci _ h1'
  have k4 := chn_fst hcp _ h2'
  have k5 : fst_ l (k : Int).toNat ≤ k := by have := sz_pos l (k : Int).toNat; unfold fst_; omega
  obtain ⟨c, hm, c0, c1, c2⟩ := chn_place hci p (by omega) (by omega)
  have c3 := ((chn_end hci).2 c hm).2
  have h3 := laminar hc hl c.toNat (by omega) p (by omega) c1
  have h4 := chn_disj hci c hm k h1' (by omega)
  omega
theorem low_of_none {l : List Cn} (hp : ∀ j, j < l.length → cnBad l j = none) : chTo (treeC l) l.length := chTo_of hp
theorem parentC_one {l : List Cn} (hp : ∀ j, j < l.length → cnBad l j = none) {i k : Nat} {n : Cn} (hn : l[i]? = some n) (hk : (k : Int) ∈ n.ch) : parentC l k = some i := by
  have hc := low_of_none hp
  have hi := get_lt hn
  have hlow := hc.low i hi k (by rw [treeC_ch hn]; exact hk)
  unfold parentC
  refine find_range_hit hi (fun j hj => ?_) ?_
  · by_cases hkj : k < j
    · obtain ⟨m, hm⟩ := get_some (l := l) (k := j) (by omega)
      rw [hm]
      simp only [Bool.and_eq_false_iff, decide_eq_false_iff_not]
      exact .inr fun hm2 => one_parent hc (by rw [treeC_len]; omega) hi hj (by rw [treeC_ch hn]; exact hk) (by rw [treeC_ch hm]; exact hm2)
    · simp [hkj]
  · rw [hn]
    simp only [Bool.and_eq_true, decide_eq_true_eq]
    exact ⟨by omega, hk⟩
theorem scope_child {c : Cnd} (hp : ∀ j, j < c.nodes.length → cnBad c.nodes j = none) {i k : Nat} {n : Cn} (hn : c.nodes[i]? = some n) (hk : (k : Int) ∈ n.ch) : scopeC c k = scopeC c i ++ ownC n := by
  have hi := get_lt hn
  have hlow := (low_of_none hp).low i hi k (by rw [treeC_ch hn]; exact hk)
  rw [scopeC_eq c k (by omega), parentC_one hp hn hk]
  simp only [hn]
  rfl
theorem scope_root {c : Cnd} (h : 0 < c.nodes.length) : scopeC c (c.nodes.length - 1) = c.types := by
  rw [scopeC_eq c _ (by omega)]
  cases hp : parentC c.nodes (c.nodes.length - 1) with
  | none => rfl
  | some p => have := parentC_gt hp; omega
structure NOk (d : Dom) (n : Cn) (ps : List Int) : Prop where
  k0 : 1 ≤ n.kind
  k8 : n.kind ≤ 8
  ar : 0 ≤ arityI n.kind → (n.ch.length : Int) = arityI n.kind
  qu : quCode d n ps = 0
  lf : leafCode d n ps = 0
inductive ST (d : Dom) (l : List Cn) : Bool → Nat → Nat → List Int → List Int → Prop
  | node {a i ps n} (hn : l[i]? = some n) (ok : NOk d n ps) (h : ST d l false a i (ps ++ ownC n) n.ch) : ST d l true a (i + 1) ps []
  | nil {a ps} : ST d l false a a ps []
  | cons {a b c ps ch} (h : ST d l true a b ps []) (hr : ST d l false b c ps ch) : ST d l false a c ps (((b : Int) - 1) :: ch)
theorem ST.le {d l m a b ps ch} (h : ST d l m a b ps ch) : a ≤ b ∧ (m = true → a < b) := by
  induction h with
  | node _ _ _ ih => omega
  | nil => simp
  | cons _ _ ih1 ih2 => exact ⟨by omega, fun h => by cases h⟩
theorem ST.snoc {d l m a b ps ch} (h : ST d l m a b ps ch) : m = false → ∀ {c}, ST d l true b c ps [] → ST d l false a c ps (ch ++ [(c : Int) - 1]) := by
  induction h with
  | node _ _ _ _ => intro h; cases h
  | nil => intro _ c hc; exact .cons hc .nil
  | cons h1 h2 _ ih2 => intro _ c hc; exact .cons h1 (ih2 rfl hc)
theorem st_chain {d : Dom} {l : List Cn} {ps : List Int} : ∀ (r : List Int) (a e : Int), 0 ≤ a → chn (treeC l) a r = some e → (∀ c ∈ r, ST d l true (fst_ (treeC l) c.toNat).toNat (c.toNat + 1) ps []) → (∀ c ∈ r, 0 ≤ fst_ (treeC l) c.toNat) →
    ST d l false e.toNat a.toNat ps r.reverse
  | [], a, e, h0, h, _, _ => by simp only [chn, Option.some.injEq] at h; subst h; exact .nil
  | c :: r, a, e, h0, h, hs, hf => by
    simp only [chn] at h
    split at h
    · cases h
    · rename_i hcc
      simp only [not_or, Decidable.not_not] at hcc
      have f0 := hf c (by simp)
      have ef : fst_ (treeC l) c.toNat = a - sz (treeC l) c.toNat := by unfold fst_; omega
      rw [List.reverse_cons]
      have h1 := st_chain r _ e (by omega) h (fun c' h' => hs c' (by simp [h'])) (fun c' h' => hf c' (by simp [h']))
      have h2 := hs c (by simp)
      rw [ef] at h2
      have ea : a.toNat = c.toNat + 1 := by omega
      rw [ea]
      have := h1.snoc rfl h2
      rwa [show ((c.toNat + 1 : Nat) : Int) - 1 = c from by omega] at this
theorem fst_nn {l : List Sx} {n : Nat} (hc : chTo l n) {i : Nat} (hi : i < n) : 0 ≤ fst_ l i := by
  have := sz_leC i n hc hi
  unfold fst_; omega
theorem st_of {d : Dom} {c : Cnd} (hp : ∀ j, j < c.nodes.length → cnBad c.nodes j = none) (hq : ∀ i n, c.nodes[i]? = some n → quCode d n (scopeC c i) = 0 ∧ leafCode d n (scopeC c i) = 0) :
    ∀ i, i < c.nodes.length → ST d c.nodes true (fst_ (treeC c.nodes) i).toNat (i + 1) (scopeC c i) [] := by
  intro i
  induction i using Nat.strongRecOn with
  | ind i ih =>
    intro hi
    have hc := low_of_none hp
    obtain ⟨n, hn⟩ := get_some hi
    obtain ⟨⟨k0, k8⟩, ka⟩ := cnBad_ok hn (hp i hi)
    obtain ⟨q1, q2⟩ := hq i n hn
    have hch := chn_first hc hi (treeC_get hn)
    have hr := (chn_end hch).2
    refine .node hn ⟨k0, k8, ka, q1, q2⟩ ?_
    have := st_chain (d := d) (ps := scopeC c i ++ ownC n) _ _ _ (by omega) hch (fun k hk => ?_) (fun k hk => ?_)
    · simpa using this
    · have hk2 := hr k hk
      have h1 := ih k.toNat (by omega) (by omega)
      have h2 : ((k.toNat : Nat) : Int) ∈ n.ch := by rw [show ((k.toNat : Nat) : Int) = k from by omega]; exact List.mem_reverse.1 hk
      rwa [scope_child hp hn h2] at h1
    · have hk2 := hr k hk
      exact fst_nn hc (by omega)
theorem shapeF_ok {l : List Cn} (h : shapeF l = okF) : (1 ≤ l.length ∧ l.length ≤ 30) ∧ (∀ j, j < l.length → cnBad l j = none) ∧ sz (treeC l) (l.length - 1) = l.length := by
  unfold shapeF at h
  split at h
  · cases h
  · rename_i h0
    split at h
    · rename_i f hf
      exfalso
      subst h
      have : ∀ n i, scan (cnBad l) i n ≠ some okF := by
        intro n i
        refine scan_prop (fun o => o ≠ some okF) (by simp) (fun i => ?_) n i
        unfold cnBad
        split
        · simp
        · repeat' split
          all_goals simp [okF]
      exact this _ _ hf
    · rename_i hf
      split at h
      · cases h
      · rename_i h2
        exact ⟨by omega, fun j hj => scan_allX _ _ hf j (by omega) (by omega), by simpa using h2⟩
theorem nodeCode_all {f : Cn → List Int → Int} {c : Cnd} (h : scan (nodeCode f c) 0 c.nodes.length = none) : ∀ i n, c.nodes[i]? = some n → f n (scopeC c i) = 0 := by
  intro i n hn
  have := scan_allX _ _ h i (by omega) (by have := get_lt hn; omega)
  unfold nodeCode at this
  rw [hn] at this
  simp only at this
  split at this
  · cases this
  · rename_i h2; simpa using h2
structure CndV (d : Dom) (c : Cnd) : Prop where
  dom : domFault d = okF
  par : paramsCode d.types.length c.types = 0
  len : c.nodes.length ≤ 30
  tree : ST d c.nodes true 0 c.nodes.length c.types []
theorem ne_okF {c i : Int} (h : c ≠ 0) : (⟨c, i⟩ : Flt) ≠ okF := by
  intro e
  exact h (congrArg Flt.code e)
theorem scan_nodeCode_ne {f : Cn → List Int → Int} {c : Cnd} {x : Flt} : ∀ n i, scan (nodeCode f c) i n = some x → x ≠ okF := by
  intro n i
  have := scan_prop (bad := nodeCode f c) (fun o => ∀ y, o = some y → y ≠ okF) (by simp) (fun i y hy => ?_) n i
  · exact this x
  · unfold nodeCode at hy
    split at hy
    · cases hy
    · split at hy
      · rename_i h
        cases hy
        exact ne_okF h
      · cases hy
theorem cndV_of {d : Dom} {c : Cnd} (h : condFault d c = okF) : CndV d c := by
  unfold condFault at h
  split at h
  · rename_i h1; exact absurd h h1
  · rename_i h1
    split at h
    · rename_i h2; exact absurd h (ne_okF h2)
    · rename_i h2
      split at h
      · rename_i h3; exact absurd h h3
      · rename_i h3
        split at h
        · rename_i f hf; exact absurd h (scan_nodeCode_ne _ _ hf)
        · rename_i hq
          split at h
          · rename_i f hf; exact absurd h (scan_nodeCode_ne _ _ hf)
          · rename_i hl
            have h1 : domFault d = okF := by simpa using h1
            have h2 : paramsCode d.types.length c.types = 0 := by simpa using h2
            have h3 : shapeF c.nodes = okF := by simpa using h3
            obtain ⟨⟨n0, n1⟩, hp, hs⟩ := shapeF_ok h3
            refine ⟨h1, h2, n1, ?_⟩
            have := st_of hp (fun i n hn => ⟨nodeCode_all hq i n hn, nodeCode_all hl i n hn⟩) (c.nodes.length - 1) (by omega)
            rw [scope_root n0, show c.nodes.length - 1 + 1 = c.nodes.length from by omega] at this
            have e : (fst_ (treeC c.nodes) (c.nodes.length - 1)).toNat = 0 := by unfold fst_; omega
            rwa [e] at this
end Hm
end
section
namespace Hm
open Go
set_option maxRecDepth 100000
set_option maxHeartbeats 4000000
theorem msl_all {l : List Int} {n : Nat} (h : l.length = n) : V.sl .p (((l.map i64V).drop 0).take n) = V.sl .p (l.map i64V) := by
  rw [List.drop_zero, List.take_of_length_le (by simp; omega)]
theorem er_msl {σ : Store} {nm gen i len n : Nat} {rows : List V} (hs : σ nm = .arr gen rows) : er σ (n + 1) (.msl nm gen i len) = .sl .p ((rows.drop i).take len) := by
  simp [er, hs]
def c_slices_Clone_int : Cmd :=
 (qS [qq 2 (.mov (.c (.sl .nil [])))]
 (qT (qS [qm 3 0, qq 4 (.isnil false (.t 3))]
 (.cond (.t 4) (.seq (.ops [qq 2 (.newArr 3520321)]) .ret) .skip))
 (.seq (.ops [qq 5 (.bslA 3520321 1 []), qm 6 0, qq 7 (.append 1 8 3 (.t 5) (.t 6)), qm 2 7]) .ret)))
def r_slices_Clone_int : List RVar := [.tmp 2]
def n_slices_Clone_int : Nat := 8
theorem k_slices_Clone_int : chkFn Go.Proofs.Tryz.prog 55 n_slices_Clone_int r_slices_Clone_int c_slices_Clone_int = true := by kernel_rfl
theorem f_slices_Clone_int (s : List Int) (hl : s.length ≤ 17592186044416) : Fc Go.Proofs.Tryz.prog 55 [.sl .p (s.map i64V)] (.sl .p (s.map i64V)) := by
  refine Fn.step mixed k_slices_Clone_int ?_
  repeat (first | refine i_s rfl ?_ | refine sw ?_)
  refine i_isnil rfl fun b hb => ?_
  repeat refine sw ?_
  refine c_cond rfl (fun h => ?_) (fun h => ?_)
  · have e : s = [] := by simpa using hb (by simpa using h)
    subst e
    repeat refine sw ?_
    refine i_na rfl ?_
    repeat refine sw ?_
    exact e_ret ⟨rfl, _, rfl, rfl⟩
  · repeat refine sw ?_
    refine i_bsla rfl rfl rfl rfl ?_
    repeat refine i_s rfl ?_
    refine i_appmM (l := []) (f := i64V) s rfl rfl rfl rfl rfl (fun c hc => ⟨rfl, rfl⟩) (by simp; omega) (by simp; omega) ?_
    repeat (first | refine i_s rfl ?_ | refine sw ?_)
    exact e_ret ⟨rfl, _, rfl, ((er_msl (i := 0) (len := ([] ++ s).length) (n := 5) rfl).trans (msl_all rfl)).symm⟩
theorem ct_Clone1 {G : Type} {H : HT G} (s : List Int) (hl : s.length ≤ 17592186044416) (σ : Store) (g : G) (h1 : σ 3520321 = .unused) (hp : ∀ nm, σ nm ≠ .unused → nm ∈ [3520321]) :
    Cc Go.Proofs.Tryz.prog H 55 [.sl .p (s.map i64V)] [3520321] σ g fun r σ' g' => (∃ gen, r = .msl 3520321 gen 0 s.length ∧ σ' = stOf [(3520321, .arr gen (s.map i64V))]) ∧ g' = g := by
  refine CT.step _ mixed k_slices_Clone_int hp fun hM => ?_
  repeat (first | refine i_s rfl ?_ | refine sw ?_)
  refine i_isnil rfl fun b hb => ?_
  repeat refine sw ?_
  refine c_cond rfl (fun h => ?_) (fun h => ?_)
  · have e : s = [] := by simpa using hb (by simpa using h)
    subst e
    repeat refine sw ?_
    refine i_na h1 ?_
    repeat refine sw ?_
    exact e_ret ⟨rfl, _, rfl, rfl, rfl, ⟨0, rfl, restr_stOf _ _⟩, rfl⟩
  · repeat refine sw ?_
    refine i_bsla h1 rfl rfl rfl ?_
    repeat refine i_s rfl ?_
    refine i_appmM (l := []) (f := i64V) s rfl rfl rfl rfl rfl (fun c hc => ⟨rfl, rfl⟩) (by simp; omega) (by simp; omega) ?_
    repeat (first | refine i_s rfl ?_ | refine sw ?_)
    refine e_ret ⟨rfl, _, rfl, rfl, rfl, ⟨1, rfl, ?_⟩, rfl⟩
    rw [restr_stOf]; rfl
def psV (ps : List Int) : V := .sl .p (ps.map i64V)
def rowC (c : Cnd) (k i : Nat) : V := if i + 1 = c.nodes.length then psV c.types else if k ≤ (parentC c.nodes i).getD 0 then psV (scopeC c i) else .sl .nil []
def rowsC (R : Nat → V) (n : Nat) : List V := (List.range n).map R
theorem rowsC_get {R : Nat → V} {n i : Nat} (h : i < n) : (rowsC R n)[i]? = some (R i) := by simp [rowsC, h]
theorem rowsC_set {R : Nat → V} {n i : Nat} {v : V} : (rowsC R n).set i v = rowsC (fun j => if j = i then v else R j) n := by
  unfold rowsC
  apply List.ext_getElem
  · simp
  · intro j h1 h2
    simp only [List.getElem_set, List.getElem_map, List.getElem_range]
    by_cases e : i = j
    · subst e; simp
    · rw [if_neg e, if_neg (by omega)]
theorem rowsC_congr {R R' : Nat → V} {n : Nat} (h : ∀ i, i < n → R i = R' i) : rowsC R n = rowsC R' n := by
  unfold rowsC
  exact List.map_congr_left fun i hi => h i (by simpa using hi)
theorem rowsC_len (R : Nat → V) (n : Nat) : (rowsC R n).length = n := by simp [rowsC]
def rowI (c : Cnd) (m : Nat) (ch : List Int) (i : Nat) : V := if (i : Int) ∈ ch then psV (scopeC c i) else rowC c (m + 1) i
theorem parentC_mem {l : List Cn} {i p : Nat} (h : parentC l i = some p) : ∃ n, l[p]? = some n ∧ (i : Int) ∈ n.ch := by
  unfold parentC at h
  have h1 := List.find?_some h
  simp only [Bool.and_eq_true] at h1
  obtain ⟨_, h2⟩ := h1
  cases hn : l[p]? with
  | none => rw [hn] at h2; cases h2
  | some n => rw [hn] at h2; exact ⟨n, rfl, by simpa using h2⟩
theorem parent_some {l : List Cn} (hp : ∀ j, j < l.length → cnBad l j = none) (hs : sz (treeC l) (l.length - 1) = l.length) {i : Nat} (hi : i + 1 < l.length) : ∃ p, parentC l i = some p := by
  have hc := low_of_none hp
  obtain ⟨p, h1, h2, h3⟩ := has_parent hc (l.length - 1) (by omega) i (by unfold fst_; omega) (by omega)
  obtain ⟨n, hn⟩ := get_some (l := l) (k := p) (by omega)
  rw [treeC_ch hn] at h3
  exact ⟨p, parentC_one hp hn h3⟩
theorem rowI_end {c : Cnd} (hp : ∀ j, j < c.nodes.length → cnBad c.nodes j = none) (hs : sz (treeC c.nodes) (c.nodes.length - 1) = c.nodes.length) {m : Nat} {n : Cn} (hn : c.nodes[m]? = some n) (i : Nat) (hi : i < c.nodes.length) : rowI c m n.ch i = rowC c m i := by
  have hm := get_lt hn
  unfold rowI
  by_cases h : (i : Int) ∈ n.ch
  · have := parentC_one hp hn h
    have h2 := parentC_gt this
    rw [if_pos h]
    unfold rowC
    rw [if_neg (by omega), this, if_pos (by simp)]
  · rw [if_neg h]
    unfold rowC
    by_cases e : i + 1 = c.nodes.length
    · rw [if_pos e, if_pos e]
    · rw [if_neg e, if_neg e]
      obtain ⟨p, hpp⟩ := parent_some hp hs (i := i) (by omega)
      rw [hpp]
      simp only [Option.getD_some]
      by_cases e2 : p = m
      · subst e2
        obtain ⟨n', hn', hmem⟩ := parentC_mem hpp
        rw [hn] at hn'
        cases hn'
        exact absurd hmem h
      · by_cases h3 : m ≤ p
        · rw [if_pos (by omega), if_pos h3]
        · rw [if_neg (by omega), if_neg h3]
theorem rowC_at {c : Cnd} (hp : ∀ j, j < c.nodes.length → cnBad c.nodes j = none) (hs : sz (treeC c.nodes) (c.nodes.length - 1) = c.nodes.length) {m : Nat} (hm : m < c.nodes.length) : rowC c (m + 1) m = psV (scopeC c m) := by
  unfold rowC
  by_cases e : m + 1 = c.nodes.length
  · rw [if_pos e]
    have : m = c.nodes.length - 1 := by omega
    rw [this, scope_root (by omega)]
  · rw [if_neg e]
    obtain ⟨p, hpp⟩ := parent_some hp hs (i := m) (by omega)
    have := parentC_gt hpp
    rw [hpp, if_pos (by simp only [Option.getD_some]; omega)]
theorem rowC_zero {c : Cnd} (i : Nat) (hi : i < c.nodes.length) : rowC c 0 i = psV (scopeC c i) := by
  unfold rowC
  by_cases e : i + 1 = c.nodes.length
  · rw [if_pos e]
    have : i = c.nodes.length - 1 := by omega
    rw [this, scope_root (by omega)]
  · rw [if_neg e, if_pos (by omega)]
theorem rowC_start {c : Cnd} (hp : ∀ j, j < c.nodes.length → cnBad c.nodes j = none) (h0 : 0 < c.nodes.length) : rowsC (rowC c c.nodes.length) c.nodes.length = (List.replicate c.nodes.length (V.sl .nil [])).set (c.nodes.length - 1) (psV c.types) := by
  apply List.ext_getElem
  · simp [rowsC]
  · intro i h1 h2
    have hi : i < c.nodes.length := by simpa [rowsC] using h1
    simp only [rowsC, List.getElem_map, List.getElem_range, List.getElem_set, List.getElem_replicate]
    unfold rowC
    have hg : (parentC c.nodes i).getD 0 < c.nodes.length := by
      cases hpp : parentC c.nodes i with
      | none => simpa using h0
      | some p => have := parentC_gt hpp; simpa using this.2
    by_cases e : i + 1 = c.nodes.length
    · rw [if_pos e, if_pos (by omega)]
    · rw [if_neg e, if_neg (by omega), if_neg (by omega)]
theorem backF_some {α : Type} (l : List α) : ∀ (k b : Nat), k ≤ l.length → backF l (fun k _ _ => some k) k b ≠ none
  | 0, b, _ => by simp [backF]
  | k + 1, b, h => by
    obtain ⟨x, hx⟩ := get_some (l := l) (k := k) (by omega)
    simp only [backF, hx]
    exact backF_some l k k (by omega)
theorem er_mslR {σ : Store} {nm gen len n : Nat} {rows : List V} (hs : σ nm = .arr gen rows) (h : rows.length = len) : er σ (n + 1) (.msl nm gen 0 len) = .sl .p rows := by
  rw [show er σ (n + 1) (.msl nm gen 0 len) = .sl .p ((rows.drop 0).take len) from by simp [er, hs], List.drop_zero, List.take_of_length_le (by omega)]
def c_condition_scopes : Cmd :=
 (qS [qx 1 2304066 2 0, qq 2 (.mov (.c (.sl .nil [])))]
 (qS [qf 9 1 1, ql 10 1 9, qn 11 10, qq 12 (.mkSl 2304769 1 24 (.sl .nil []) (.t 11) (.t 11)), qq 3 (.alloc 2304193 (.sl .nil [])), qs 1 3 12]
 (qS [ql 13 1 3, ql 14 1 3, qn 15 14, qv 16 .sub [] 15 1, qf 17 0 1, ql 18 1 17, qi 19 1 13 16, qs 1 19 18]
 (qT (qS [qf 20 1 1, ql 21 1 20, qk 22 80 [21]]
 (.block 0 (.rangeF [] (.t 22) [23, 24] (qS [qm 4 23]
 (.ops [qq 5 (.alloc 2304327 (.agg [.int .i64 0, .sl .nil [], .int .i64 0, .sl .nil [], .int .i64 0, .int .i64 0, .int .i64 0])), qs 7 5 24])) (.block 1 (qS [ql 25 1 3, qm 26 4, qi 27 1 25 26, ql 28 1 27, qm 6 28]
 (qT (qS [qf 29 0 5, ql 30 1 29, qv 31 .eql [.i] 30 7, qm 32 31, qg 33 32 false (.faddr 0 (.t 5)), qg 34 32 false (.load false 1 (.t 33)), qg 35 32 false (.bin .eql false [.i] (.t 34) (.c (.int .i64 8))), qq 36 (.pick (.t 32) (.c (.bool true)) (.t 35))]
 (.cond (.t 36) (.seq (.opsT (.node 2 1 (.node 3 1 (.leaf [0, 2, 3, 4, 1, 5, 6]) (.leaf [0, 2, 1, 3, 4, 5, 6])) (.leaf [0, 1, 2, 3, 4, 5, 6])) [qm 37 6, qq 38 (.call (.s [3520321]) (.c (.fn 55 [])) [.t 37]), qf 39 6 5, ql 40 1 39, qq 41 (.bsl 1 [.t 40]), qq 42 (.append 1 8 3 (.t 38) (.t 41)), qm 6 42]) (.frz 6)) .skip))
 (qS [qf 43 1 5, ql 44 1 43, qn 45 44, qc 46 0]
 (.block 2 (.loop (qS [qu 47 .lss [] 46 45]
 (qT (.cond (.t 47) .skip (.exit 2))
 (qT (.block 3 (qS [qi 48 1 44 46, ql 49 1 48, qm 8 49]
 (.ops [ql 50 1 3, qm 51 8, qm 52 6, qi 53 1 50 51, qs 1 53 52])))
 (.ops [qv 54 .add [] 46 1, qm 46 54])))))))))))))
 (.seq (.ops [ql 55 1 3, qm 2 55]) .ret)))))
def r_condition_scopes : List RVar := [.tmp 2]
def n_condition_scopes : Nat := 56
theorem k_condition_scopes : chkFn Go.Proofs.Tryz.prog 36 n_condition_scopes r_condition_scopes c_condition_scopes = true := by kernel_rfl
abbrev scS (c : Cnd) (R : Nat → V) : List (Nat × Blk) := [(2304066, .box (cndV c)), (2304193, .box (.msl 2304769 0 0 c.nodes.length)), (2304769, .arr 0 (rowsC R c.nodes.length))]
theorem f_condition_scopes (c : Cnd) (ho : CndOk c) (ht : c.types.length ≤ 3) (h30 : c.nodes.length ≤ 30) (h0 : 0 < c.nodes.length) (hp : ∀ j, j < c.nodes.length → cnBad c.nodes j = none) (hs : sz (treeC c.nodes) (c.nodes.length - 1) = c.nodes.length) :
    Fc Go.Proofs.Tryz.prog 36 [cndV c] (.sl .p (rowsC (fun i => psV (scopeC c i)) c.nodes.length)) := by
  have hB := f_slices_Backward_ConditionNode c.nodes
  have hst := rowC_start hp h0
  refine Fn.step mixed k_condition_scopes ?_
  repeat (first | refine i_len rfl ?_ | refine i_s rfl ?_ | refine sw ?_ | refine i_box rfl rfl ?_)
  refine i_mks rfl rfl rfl (by omega) (by omega) (by omega) (by omega) rfl ?_
  repeat (first | refine i_s rfl ?_ | refine sw ?_ | refine jb rfl rfl ?_ | refine i_stb rfl ?_ | refine i_alloc rfl ?_)
  refine i_ima rfl rfl rfl rfl (by omega) (by simp only [Int.toNat_natCast]; omega) rfl ?_
  refine i_stp (row := .sl .nil []) rfl rfl rfl (by rw [List.getElem?_replicate]; exact if_pos (by simp only [Int.toNat_natCast]; omega)) rfl rfl ?_
  repeat (first | refine i_s rfl ?_ | refine sw ?_ | refine sf rfl rfl hB ?_)
  refine c_rangeS [(1, .bptr 2304066 0), (3, .bptr 2304193 0)] (scS c (rowC c c.nodes.length)) [2304066, 2304193, 2304769] []
    (scS c (rowC c c.nodes.length)) rfl ⟨⟨rfl, rfl, trivial⟩, ⟨rfl, rfl, ?_, trivial⟩, rfl⟩ rfl rfl rfl rfl ?_
  · rw [hst, show c.nodes.length - 1 = 0 + ((c.nodes.length : Int) - 1).toNat from by omega]
    rfl
  clear hst hB
  refine Cc_mono ?_ (ct_Backward_Cn c.nodes (by omega) _ (fun st => st = (stOf (scS c (rowC c 0)), (), none)) (YL_back (RHm noH_mono) c.nodes (fun k : Nat => (stOf (scS c (rowC c k)), (), none)) (fun k : Nat => (stOf (scS c (rowC c k)), (), none)) (fun k _ _ => some k) (fun k b => b = k) ?_ ?_ c.nodes.length c.nodes.length (Nat.le_refl _) rfl ?_ ?_))
  · rintro _ σ' st ⟨rfl, rfl⟩
    refine ⟨rfl, ?_⟩
    show WE _ _ _ _ _ .normal _ _ _
    repeat (first | refine i_s rfl ?_ | refine sw ?_)
    refine e_ret ⟨rfl, _, rfl, ?_⟩
    rw [show rowsC (fun i => psV (scopeC c i)) c.nodes.length = rowsC (rowC c 0) c.nodes.length from rowsC_congr fun i hi => (rowC_zero i hi).symm]
    exact (er_mslR (n := 5) rfl (rowsC_len _ _)).symm
  · intro k b x b' hx hb h; cases h; rfl
  · rintro m b n hn rfl K' hk
    simp only at hk
    have hm := get_lt hn
    have hrow := rowsC_get (R := rowC c (m + 1)) hm
    rw [rowC_at hp hs hm] at hrow
    refine rh_intro noH_mono rfl ?_
    repeat (first | refine i_s rfl ?_ | refine sw ?_ | refine i_stb rfl ?_ | refine i_alloc rfl ?_)
    refine e_end ?_
    show WC _ _ _ _ [] _ _ _ _
    repeat (first | refine i_s rfl ?_ | refine sw ?_)
    refine i_ima rfl rfl rfl rfl (by omega) (by omega) rfl ?_
    refine i_ldp rfl rfl rfl (by rw [Nat.zero_add]; exact hrow) rfl ?_
    repeat (first | refine i_s rfl ?_ | refine sw ?_)
    refine i_join noH_mono (fun ρ' σ' g' => g' = () ∧ Fits [2304066, 2304193, 2304769] [(3, .bptr 2304193 0), (5, .bptr 2304327 0), (6, psV (scopeC c m)), (36, .bool (quantK n.kind))] ((2304327, .box (cnV n)) :: scS c (rowC c (m + 1))) ρ' σ') ?_ ?_
    · repeat' (first | refine i_s rfl ?_ | refine sw ?_ | refine i_gt rfl ?_ | refine i_gf rfl ?_ | refine i_g rfl (fun h => ?_) (fun h => ?_))
      all_goals (refine e_end ⟨rfl, ⟨rfl, rfl, rfl, congrArg V.bool ?_, trivial⟩, ⟨rfl, rfl, rfl, rfl, trivial⟩, rfl⟩; unfold quantK; first | (simp_all; done) | (simp_all; rfl))
    rintro ρ' σ' g' ⟨rfl, hf⟩
    refine e_seq ?_
    refine c_cut _ _ hf ?_
    skip
    have hsl := scopeF_len c c.nodes.length m
    refine c_join noH_mono (fun e ρ' σ' g' => e = .normal ∧ g' = () ∧ Fits [2304066, 2304193, 2304769] [(3, .bptr 2304193 0), (5, .bptr 2304327 0), (6, psV (scopeC c m ++ ownC n))] ((2304327, .box (cnV n)) :: scS c (rowC c (m + 1))) ρ' σ') ?_ ?_
    · refine c_cond rfl (fun h => ?_) (fun h => ?_)
      · have e : ownC n = [n.type] := by unfold ownC; rw [if_pos h]
        rw [e]
        repeat refine sw ?_
        skip
        refine c_node (c_node ?_ ?_) ?_
        all_goals
          repeat (first | refine i_s rfl ?_ | refine sw ?_)
          refine i_c rfl rfl rfl (ct_Clone1 (scopeC c m) (by unfold scopeC; omega) _ _ rfl fun nm h => restr_mem nm h) ?_
          rintro _ _ _ ⟨⟨gen, rfl, rfl⟩, rfl⟩
          repeat refine i_s rfl ?_
          refine i_appmM [n.type] rfl rfl rfl rfl rfl (fun c hc => ⟨rfl, rfl⟩) (by simp only [List.length_singleton]; unfold scopeC; omega) (by simp only [List.length_singleton]; unfold scopeC; omega) ?_
          repeat (first | refine i_s rfl ?_ | refine sw ?_)
          refine c_frza rfl rfl rfl ?_
          refine e_end ⟨rfl, rfl, ⟨rfl, rfl, msl_all (by simp), trivial⟩, ⟨rfl, rfl, rfl, rfl, trivial⟩, rfl⟩
      · have e : ownC n = [] := by unfold ownC; rw [h]; rfl
        rw [e, List.append_nil]
        repeat refine sw ?_
        refine e_end ⟨rfl, rfl, ⟨rfl, rfl, rfl, trivial⟩, ⟨rfl, rfl, rfl, rfl, trivial⟩, rfl⟩
    rintro _ ρ' σ' g' ⟨rfl, rfl, hf⟩
    refine e_seq ?_
    refine c_cut _ _ hf ?_
    clear hf hrow
    have hno := (ho.nodes n (mem_get hn)).ch
    repeat (first | refine i_len rfl ?_ | refine i_s rfl ?_ | refine sw ?_)
    refine c_for n.ch.length (fun j => [(3, .bptr 2304193 0), (6, psV (scopeC c m ++ ownC n)), (44, .sl .p (n.ch.map i64V)), (45, .int .i64 n.ch.length), (46, .int .i64 j)]) (fun j => scS c (rowI c m (n.ch.take j))) (fun _ => True) trivial ⟨⟨rfl, rfl, rfl, rfl, rfl, trivial⟩, ⟨rfl, rfl, ?_, trivial⟩, rfl⟩ fun j hj _ => ?_
    · show Blk.arr 0 _ = Blk.arr 0 _
      exact congrArg _ (rowsC_congr fun i hi => by simp [rowI])
    repeat (first | refine i_s rfl ?_ | refine sw ?_)
    refine c_cond rfl (fun h => ?_) (fun h => ?_)
    · have hlt : j < n.ch.length := by simpa using h
      obtain ⟨x, hx⟩ := get_some hlt
      obtain ⟨x0, x1⟩ := (low_of_none hp).low m hm x (by rw [treeC_ch hn]; exact mem_get hx)
      obtain ⟨t, xs, hr⟩ : ∃ t xs, rowI c m (n.ch.take j) x.toNat = .sl t xs := by
        unfold rowI rowC psV
        repeat' split
        all_goals exact ⟨_, _, rfl⟩
      have hg := rowsC_get (R := rowI c m (n.ch.take j)) (n := c.nodes.length) (i := x.toNat) (by omega)
      rw [hr] at hg
      have hsc : scopeC c x.toNat = scopeC c m ++ ownC n := scope_child hp hn (by rw [show ((x.toNat : Nat) : Int) = x from by omega]; exact mem_get hx)
      clear h
      repeat (first | refine i_s rfl ?_ | refine sw ?_ | refine jd rfl rfl ?_)
      refine i_ima rfl rfl rfl rfl x0 (by omega) rfl ?_
      refine i_stp rfl rfl rfl (by rw [Nat.zero_add]; exact hg) rfl rfl ?_
      repeat (first | refine i_s rfl ?_ | refine sw ?_ | refine ja rfl rfl ?_)
      refine e_for hlt trivial ⟨⟨rfl, rfl, rfl, rfl, rfl, trivial⟩, ⟨rfl, rfl, ?_, trivial⟩, rfl⟩
      show Blk.arr 0 _ = Blk.arr 0 _
      rw [Nat.zero_add, rowsC_set]
      refine congrArg _ (rowsC_congr fun i hi => ?_)
      unfold rowI
      rw [take_succ_get hx]
      by_cases e : i = x.toNat
      · subst e
        rw [if_pos rfl, if_pos (by rw [show ((x.toNat : Nat) : Int) = x from by omega]; simp), hsc]
        rfl
      · rw [if_neg e]
        have e2 : ((i : Int) ∈ n.ch.take j ++ [x]) ↔ (i : Int) ∈ n.ch.take j := by simp; omega
        simp only [e2]
    · have hge : j = n.ch.length := by have : ¬ j < n.ch.length := by simpa using h
                                       omega
      subst hge
      clear h
      rw [List.take_length, show scS c (rowI c m n.ch) = scS c (rowC c m) from by unfold scS; rw [rowsC_congr fun i hi => rowI_end hp hs hn i hi]]
      repeat refine sw ?_
      refine e_end ?_
      exact rhq_n rfl rfl hk
  · rintro b' h rfl; rfl
  · intro h; exact absurd h (backF_some _ _ _ (Nat.le_refl _))
theorem cf_dom {d : Dom} {c : Cnd} (h : domFault d ≠ okF) : condFault d c = domFault d := by unfold condFault; rw [if_pos h]
theorem cf_par {d : Dom} {c : Cnd} (h : domFault d = okF) (h2 : paramsCode d.types.length c.types ≠ 0) : condFault d c = ⟨paramsCode d.types.length c.types, -9⟩ := by unfold condFault; rw [if_neg (by simp [h]), if_pos h2]
theorem cf_shape {d : Dom} {c : Cnd} (h : domFault d = okF) (h2 : paramsCode d.types.length c.types = 0) (h3 : shapeF c.nodes ≠ okF) : condFault d c = shapeF c.nodes := by unfold condFault; rw [if_neg (by simp [h]), if_neg (by simp [h2]), if_pos h3]
theorem cf_rest {d : Dom} {c : Cnd} (h : domFault d = okF) (h2 : paramsCode d.types.length c.types = 0) (h3 : shapeF c.nodes = okF) : condFault d c = match scan (nodeCode (quCode d) c) 0 c.nodes.length with
    | some f => f
    | none => match scan (nodeCode (leafCode d) c) 0 c.nodes.length with
      | some f => f
      | none => okF := by unfold condFault; rw [if_neg (by simp [h]), if_neg (by simp [h2]), if_neg (by simp [h3])]; rfl
theorem domTy {d : Dom} (h : domFault d = okF) : DoTy d := by
  unfold domFault at h
  split at h
  · have := congrArg Flt.index h
    simp [okF] at this
  · rename_i h1
    split at h
    · have := congrArg Flt.index h
      simp [okF] at this
    · rename_i h2
      exact doTy_of (by simpa using h1) (by simpa using h2)
theorem nodeCode_none {f : Cn → List Int → Int} {c : Cnd} {i : Nat} {n : Cn} (hn : c.nodes[i]? = some n) (h : f n (scopeC c i) = 0) : nodeCode f c i = none := by
  unfold nodeCode
  rw [hn]
  simp only
  rw [if_neg (by simp [h])]
theorem nodeCode_hit {f : Cn → List Int → Int} {c : Cnd} {i : Nat} {n : Cn} (hn : c.nodes[i]? = some n) (h : f n (scopeC c i) ≠ 0) : nodeCode f c i = some ⟨f n (scopeC c i), 100 + i⟩ := by
  unfold nodeCode
  rw [hn]
  simp only
  rw [if_pos h]
theorem nodeCode_zero {f : Cn → List Int → Int} {c : Cnd} {i : Nat} {n : Cn} (hn : c.nodes[i]? = some n) (h : nodeCode f c i = none) : f n (scopeC c i) = 0 := by
  unfold nodeCode at h
  rw [hn] at h
  simp only at h
  split at h
  · cases h
  · rename_i h2; simpa using h2
theorem scopeF_rng {d : Dom} {c : Cnd} (ht : ∀ t ∈ c.types, -1 ≤ t ∧ t < d.types.length) (hq : ∀ i n, c.nodes[i]? = some n → quCode d n (scopeC c i) = 0) : ∀ f i, ∀ t ∈ scopeF c f i, -1 ≤ t ∧ t < d.types.length
  | 0, i, t, h => ht t h
  | f + 1, i, t, h => by
    simp only [scopeF] at h
    split at h
    · exact ht t h
    · rename_i p hp
      rcases List.mem_append.1 h with h | h
      · exact scopeF_rng ht hq f p t h
      · split at h
        · rename_i n hn
          split at h
          · rename_i hk
            rw [List.mem_singleton.1 h]
            have := hq p n hn
            unfold quCode at this
            rw [hk, if_neg (by simp)] at this
            split at this
            · cases this
            · rename_i hb
              simp only [badT, Bool.or_eq_true, decide_eq_true_eq, not_or] at hb
              omega
          · simp at h
        · simp at h
theorem scopeC_ps {d : Dom} {c : Cnd} (ht : paramsCode d.types.length c.types = 0) (h30 : c.nodes.length ≤ 30) (hq : ∀ i n, c.nodes[i]? = some n → quCode d n (scopeC c i) = 0) (i : Nat) : PsOk d (scopeC c i) := by
  obtain ⟨h1, h2⟩ := paramsCode_ok ht
  have := scopeF_len c c.nodes.length i
  exact ⟨by unfold scopeC; omega, scopeF_rng h2 hq _ _⟩
def c_condition_Validate : Cmd :=
 (qS [qx 2 704134 6 0, qx 3 704194 2 1, qq 4 (.alloc 704258 (.agg [.int .i64 0, .int .i64 0]))]
 (qT (qS [qL 14 6 2, qk 15 33 [14], qq 5 (.alloc 704322 (.agg [.int .i64 0, .int .i64 0])), qs 2 5 15]
 (qS [qL 16 2 5, qq 17 (.build [.int .i64 0, .int .i64 0] []), qq 18 (.bin .neq true [.i, .i] (.t 16) (.t 17))]
 (.cond (.t 18) (.seq (.ops [qL 19 2 5, qs 2 4 19]) .ret) .skip)))
 (qT (qS [qL 20 6 2, qf 21 0 3, ql 22 1 21, qk 23 34 [20, 22], qm 6 23]
 (qS [qm 24 6, qv 25 .neq [.i] 24 0]
 (.cond (.t 25) (.seq (.ops [qm 26 6, qq 27 (.build [.int .i64 0, .int .i64 0] [(0 , 1 , .t 26), (1 , 1 , .c (.int .i64 (-9)))]), qs 2 4 27]) .ret) .skip)))
 (qT (qS [qf 28 1 3, ql 29 1 28, qk 30 35 [29], qq 7 (.alloc 704450 (.agg [.int .i64 0, .int .i64 0])), qs 2 7 30]
 (qS [qL 31 2 7, qq 32 (.build [.int .i64 0, .int .i64 0] []), qq 33 (.bin .neq true [.i, .i] (.t 31) (.t 32))]
 (.cond (.t 33) (.seq (.ops [qL 34 2 7, qs 2 4 34]) .ret) .skip)))
 (qS [qL 35 2 3, qk 36 36 [35], qm 8 36]
 (qT (qS [qq 37 (.build [.nilfn, .nilfn] [(0 , 1 , .c (.fn 37 [])), (1 , 1 , .c (.fn 38 []))]), qc 38 0]
 (.block 0 (.loop (qS [qv 39 .lss [] 38 2]
 (qT (.cond (.t 39) .skip (.exit 0))
 (qT (.block 1 (qS [qq 40 (.idxA 2 (.t 37) (.t 38)), qm 10 40]
 (qS [qf 41 1 3, ql 42 1 41, qn 43 42, qc 44 0]
 (.block 2 (.loop (qS [qu 45 .lss [] 44 43]
 (qT (.cond (.t 45) .skip (.exit 2))
 (qT (.block 3 (qS [qm 46 44, qi 47 7 42 44, qL 48 7 47, qq 12 (.alloc 704775 (.agg [.int .i64 0, .sl .nil [], .int .i64 0, .sl .nil [], .int .i64 0, .int .i64 0, .int .i64 0])), qm 11 46, qs 7 12 48]
 (qS [qm 49 10, qL 50 6 2, qL 51 7 12, qm 52 8, qm 53 11, qi 54 1 52 53, ql 55 1 54, qq 56 (.call .f (.t 49) [.t 50, .t 51, .t 55]), qm 13 56]
 (qS [qm 57 13, qv 58 .neq [.i] 57 0]
 (.cond (.t 58) (.seq (.ops [qm 59 13, qm 60 11, qq 61 (.bin .add false [] (.c (.int .i64 100)) (.t 60)), qq 62 (.build [.int .i64 0, .int .i64 0] [(0 , 1 , .t 59), (1 , 1 , .t 61)]), qs 2 4 62]) .ret) .skip)))))
 (.ops [qv 63 .add [] 44 1, qm 44 63])))))))))
 (.ops [qv 64 .add [] 38 1, qm 38 64])))))))
 (.seq (.ops [qq 65 (.build [.int .i64 0, .int .i64 0] []), qs 2 4 65]) .ret)))))))
def r_condition_Validate : List RVar := [.cell true 2 4]
def n_condition_Validate : Nat := 66
theorem k_condition_Validate : chkFn Go.Proofs.Tryz.prog 11 n_condition_Validate r_condition_Validate c_condition_Validate = true := by kernel_rfl
theorem f_condition_Validate (d : Dom) (hdo : DoOk d) (c : Cnd) (ho : CndOk c) : Fc Go.Proofs.Tryz.prog 11 [domV d, cndV c] (ftV (condFault d c)) := by
  have hD := f_domain_Validate d hdo
  have htl := hdo.types.1
  have hcl := ho.types
  have hnl := ho.len
  have hP := f_domain_Params d htl c.types (by omega)
  have hS := f_condition_shape c.nodes hnl ho.nodes
  by_cases t1 : domFault d = okF
  · rw [t1] at hD
    by_cases t2 : paramsCode d.types.length c.types = 0
    · rw [t2] at hP
      by_cases t3 : shapeF c.nodes = okF
      · rw [cf_rest t1 t2 t3]
        rw [t3] at hS
        obtain ⟨⟨n0, n1⟩, hp, hs⟩ := shapeF_ok t3
        obtain ⟨p1, p2⟩ := paramsCode_ok t2
        have hSc := f_condition_scopes c ho p1 n1 n0 hp hs
        have hdt : DoTy d := domTy t1
        refine Fn.step mixed k_condition_Validate ?_
        repeat' (first | refine i_s rfl ?_ | refine sw ?_ | refine c_f rfl ?_ | refine i_stb rfl ?_ | refine i_alloc rfl ?_ | refine i_box rfl rfl ?_ | refine sf rfl rfl hD ?_ | refine sf rfl rfl hP ?_ | refine sf rfl rfl hS ?_ | refine sf rfl rfl hSc ?_ | fail)
        all_goals first
          | (exfalso; clear hD hP hS hSc; simp [okF] at *; done)
          | skip
        clear hD hP hS hSc
        refine c_for 2 (fun q => [(2, .bptr 704134 0), (3, .bptr 704194 0), (4, .bptr 704258 0), (8, .sl .p (rowsC (fun i => psV (scopeC c i)) c.nodes.length)), (37, .agg [.fn 37 [], .fn 38 []]), (38, .int .i64 q)])
          (fun _ => [(704134, .box (domV d)), (704194, .box (cndV c)), (704258, .box (ftV okF))])
          (fun q => (0 < q → ∀ j, j < c.nodes.length → nodeCode (quCode d) c j = none) ∧ (1 < q → ∀ j, j < c.nodes.length → nodeCode (leafCode d) c j = none)) (by simp) ft fun q hq hi => ?_
        have hq3 : q = 0 ∨ q = 1 ∨ q = 2 := by omega
        rcases hq3 with rfl | rfl | rfl
        · skip
          clear hi
          have hget : [V.fn 37 [], V.fn 38 []][((0 : Nat) : Int).toNat]? = some (V.fn 37 []) := rfl
          repeat' (first | refine i_len rfl ?_ | refine i_s rfl ?_ | refine sw ?_ | refine c_t rfl ?_ | refine jg rfl rfl ?_ | fail)
          all_goals try (refine i_idxA rfl rfl (by omega) (by omega) hget ?_; clear hget)
          skip
          refine c_for c.nodes.length (fun i => [(2, .bptr 704134 0), (3, .bptr 704194 0), (4, .bptr 704258 0), (8, .sl .p (rowsC (fun i => psV (scopeC c i)) c.nodes.length)), (10, .fn 37 []), (37, .agg [.fn 37 [], .fn 38 []]), (38, .int .i64 (0 : Nat)), (42, .sl .p (c.nodes.map cnV)), (43, .int .i64 c.nodes.length), (44, .int .i64 i)])
            (fun _ => [(704134, .box (domV d)), (704194, .box (cndV c)), (704258, .box (ftV okF))]) (fun i => ∀ j, j < i → nodeCode (quCode d) c j = none) all_zero ft fun i hi hall => ?_
          by_cases hlt : i < c.nodes.length
          · obtain ⟨n, hn⟩ := get_some hlt
            have hrg : (List.range c.nodes.length)[i]? = some i := by simp [hlt]
            have hC := f_condition_quantifier d htl n (scopeC c i) (by have := scopeF_len c c.nodes.length i; unfold scopeC; omega)
            by_cases z : quCode d n (scopeC c i) = 0
            · have hnn := nodeCode_none hn z
              rw [z] at hC
              clear hdo ho hp hs t1 t2 t3 n0 n1 p1 p2 hdt
              repeat' (first | refine i_s rfl ?_ | refine sw ?_ | refine c_f rfl ?_ | refine ja rfl rfl ?_ | refine jd rfl rfl ?_ | refine i_stb rfl ?_ | refine i_alloc rfl ?_ | refine c_cond rfl (fun h => ?_) (fun h => ?_) | refine sf rfl rfl hC ?_ | fail)
              all_goals first
                | (exact e_for hlt (all_succ hall hnn) ft)
                | (exfalso; clear hC; simp at *; omega)
            · rw [scan0_hit hall hlt (nodeCode_hit hn z)]
              clear hall hdo ho hp hs t1 t2 t3 p1 p2 hdt
              generalize quCode d n (scopeC c i) = e at *
              repeat' (first | refine i_s rfl ?_ | refine sw ?_ | refine ja rfl rfl ?_ | refine jd rfl rfl ?_ | refine i_stb rfl ?_ | refine i_alloc rfl ?_ | refine c_cond rfl (fun h => ?_) (fun h => ?_) | refine sf rfl rfl hC ?_ | fail)
              all_goals first
                | exact e_ret ⟨rfl, _, rfl, rfl⟩
                | (exfalso; clear hC; simp at *; omega)
          · have hge : i = c.nodes.length := by omega
            subst hge
            clear hlt
            repeat' (first | refine i_s rfl ?_ | refine sw ?_ | refine ja rfl rfl ?_ | refine c_cond rfl (fun h => ?_) (fun h => ?_))
            all_goals first
              | exact e_for (by omega) ⟨fun _ => hall, fun h => by omega⟩ ft
              | (exfalso; simp at *; done)
              | (exfalso; simp at *; omega)
        · have hqa := hi.1 (by omega)
          rw [scan0_none hqa]
          simp only
          clear hi
          have hget : [V.fn 37 [], V.fn 38 []][((1 : Nat) : Int).toNat]? = some (V.fn 38 []) := rfl
          repeat' (first | refine i_len rfl ?_ | refine i_s rfl ?_ | refine sw ?_ | refine c_t rfl ?_ | refine jg rfl rfl ?_ | fail)
          all_goals try (refine i_idxA rfl rfl (by omega) (by omega) hget ?_; clear hget)
          skip
          refine c_for c.nodes.length (fun i => [(2, .bptr 704134 0), (3, .bptr 704194 0), (4, .bptr 704258 0), (8, .sl .p (rowsC (fun i => psV (scopeC c i)) c.nodes.length)), (10, .fn 38 []), (37, .agg [.fn 37 [], .fn 38 []]), (38, .int .i64 (1 : Nat)), (42, .sl .p (c.nodes.map cnV)), (43, .int .i64 c.nodes.length), (44, .int .i64 i)])
            (fun _ => [(704134, .box (domV d)), (704194, .box (cndV c)), (704258, .box (ftV okF))]) (fun i => ∀ j, j < i → nodeCode (leafCode d) c j = none) all_zero ft fun i hi hall => ?_
          by_cases hlt : i < c.nodes.length
          · obtain ⟨n, hn⟩ := get_some hlt
            have hrg : (List.range c.nodes.length)[i]? = some i := by simp [hlt]
            have hC := f_condition_leaf d hdt n (ho.nodes n (mem_get hn)) (scopeC c i) (scopeC_ps t2 n1 (fun i n hn => nodeCode_zero hn (hqa i (get_lt hn))) i)
            by_cases z : leafCode d n (scopeC c i) = 0
            · have hnn := nodeCode_none hn z
              rw [z] at hC
              clear hdo ho hp hs t1 t2 t3 n0 n1 p1 p2 hdt hqa
              repeat' (first | refine i_s rfl ?_ | refine sw ?_ | refine c_f rfl ?_ | refine ja rfl rfl ?_ | refine jd rfl rfl ?_ | refine i_stb rfl ?_ | refine i_alloc rfl ?_ | refine c_cond rfl (fun h => ?_) (fun h => ?_) | refine sf rfl rfl hC ?_ | fail)
              all_goals first
                | (exact e_for hlt (all_succ hall hnn) ft)
                | (exfalso; clear hC; simp at *; omega)
            · rw [scan0_hit hall hlt (nodeCode_hit hn z)]
              clear hall hdo ho hp hs t1 t2 t3 p1 p2 hdt hqa
              generalize leafCode d n (scopeC c i) = e at *
              repeat' (first | refine i_s rfl ?_ | refine sw ?_ | refine ja rfl rfl ?_ | refine jd rfl rfl ?_ | refine i_stb rfl ?_ | refine i_alloc rfl ?_ | refine c_cond rfl (fun h => ?_) (fun h => ?_) | refine sf rfl rfl hC ?_ | fail)
              all_goals first
                | exact e_ret ⟨rfl, _, rfl, rfl⟩
                | (exfalso; clear hC; simp at *; omega)
          · have hge : i = c.nodes.length := by omega
            subst hge
            clear hlt
            repeat' (first | refine i_s rfl ?_ | refine sw ?_ | refine ja rfl rfl ?_ | refine c_cond rfl (fun h => ?_) (fun h => ?_))
            all_goals first
              | exact e_for (by omega) ⟨fun _ => hqa, fun _ => hall⟩ ft
              | (exfalso; simp at *; done)
              | (exfalso; simp at *; omega)
        · have hqa := hi.1 (by omega)
          have hla := hi.2 (by omega)
          rw [scan0_none hqa, scan0_none hla]
          simp only
          clear hi hqa hla
          repeat' (first | refine i_s rfl ?_ | refine sw ?_ | refine c_f rfl ?_ | refine i_stb rfl ?_)
          all_goals first
            | exact e_ret ⟨rfl, _, rfl, rfl⟩
            | (exfalso; simp at *; omega)
      · rw [cf_shape t1 t2 t3]
        refine Fn.step mixed k_condition_Validate ?_
        repeat' (first | refine i_s rfl ?_ | refine sw ?_ | refine c_f rfl ?_ | refine i_stb rfl ?_ | refine i_alloc rfl ?_ | refine i_box rfl rfl ?_ | refine c_cond rfl (fun h => ?_) (fun h => ?_) | refine sf rfl rfl hD ?_ | refine sf rfl rfl hP ?_ | refine sf rfl rfl hS ?_ | fail)
        all_goals first
          | exact e_ret ⟨rfl, _, rfl, rfl⟩
          | exact absurd (eq_ok (by assumption)) t3
          | (exfalso; clear hD hP hS t3; simp [okF] at *; done)
    · rw [cf_par t1 t2]
      generalize paramsCode d.types.length c.types = e at *
      refine Fn.step mixed k_condition_Validate ?_
      repeat' (first | refine i_s rfl ?_ | refine sw ?_ | refine c_f rfl ?_ | refine i_stb rfl ?_ | refine i_alloc rfl ?_ | refine i_box rfl rfl ?_ | refine c_cond rfl (fun h => ?_) (fun h => ?_) | refine sf rfl rfl hD ?_ | refine sf rfl rfl hP ?_ | fail)
      all_goals first
        | exact e_ret ⟨rfl, _, rfl, rfl⟩
        | (exfalso; clear hD hP hS; simp [okF] at *; done)
        | (exfalso; clear hD hP hS; simp [okF] at *; omega)
  · rw [cf_dom t1]
    refine Fn.step mixed k_condition_Validate ?_
    repeat' (first | refine i_s rfl ?_ | refine sw ?_ | refine i_stb rfl ?_ | refine i_alloc rfl ?_ | refine i_box rfl rfl ?_ | refine c_cond rfl (fun h => ?_) (fun h => ?_) | refine sf rfl rfl hD ?_ | fail)
    all_goals first
      | exact e_ret ⟨rfl, _, rfl, rfl⟩
      | exact absurd (eq_ok (by assumption)) t1
theorem nzF_code {f g : Nat → Int} {x : Flt} {n : Nat} (h : scan (nzF f g) 0 n = some x) : x.code ≠ 0 := by
  have := scan_prop (bad := nzF f g) (fun o => ∀ y, o = some y → y.code ≠ 0) (by simp) (fun i y hy => by
    unfold nzF at hy
    split at hy
    · cases hy
    · rename_i h; cases hy; exact h) n 0
  exact this x h
theorem domFault_code (d : Dom) : (domFault d).code = 0 ↔ domFault d = okF := by
  have key : ∀ c i : Int, c ≠ 0 → ((⟨c, i⟩ : Flt).code = 0 ↔ (⟨c, i⟩ : Flt) = okF) := fun c i h => ⟨fun h1 => absurd h1 h, fun h1 => absurd (congrArg Flt.code h1) h⟩
  have key2 : ∀ x : Flt, x.code ≠ 0 → (x.code = 0 ↔ x = okF) := fun x h => ⟨fun h1 => absurd h1 h, fun h1 => absurd (congrArg Flt.code h1) h⟩
  unfold domFault
  split
  · rename_i h; exact key _ _ fun h1 => h ((typesFault_code _).1 h1)
  · split
    · rename_i h; exact key _ _ fun h1 => h ((objectsFault_code _ _).1 h1)
    · split
      · exact key _ _ (by decide)
      · split
        · rename_i f hf; exact key2 _ (nzF_code hf)
        · split
          · exact key _ _ (by decide)
          · split
            · rename_i f hf; exact key2 _ (nzF_code hf)
            · split
              · rename_i h; exact key _ _ h
              · split
                · rename_i h; exact key _ _ h
                · simp [okF]
end Hm
end
section
namespace Hm
open Go
theorem ST.root {d l a b ps} (h : ST d l true a b ps []) : ∃ i n, b = i + 1 ∧ a ≤ i ∧ l[i]? = some n ∧ NOk d n ps ∧ ST d l false a i (ps ++ ownC n) n.ch := by
  cases h with
  | node hn ok h => exact ⟨_, _, rfl, h.le.1, hn, ok, h⟩
theorem ST.kids {d l m a b ps ch} (h : ST d l m a b ps ch) : m = false → ∀ k ∈ ch, ∃ a', a ≤ a' ∧ 0 ≤ k ∧ k < b ∧ a ≤ k ∧ ST d l true a' (k.toNat + 1) ps [] := by
  induction h with
  | node _ _ _ _ => intro h; cases h
  | nil => intro _ k hk; simp at hk
  | @cons a b c ps ch h1 h2 _ ih2 =>
    intro _ k hk
    have l1 := h1.le.2 rfl
    have l2 := h2.le.1
    rcases List.mem_cons.1 hk with rfl | hk
    · refine ⟨a, Nat.le_refl _, by omega, by omega, by omega, ?_⟩
      rwa [show ((b : Int) - 1).toNat + 1 = b from by omega]
    · obtain ⟨a', h3, h4, h5, h6, h7⟩ := ih2 rfl k hk
      exact ⟨a', by omega, h4, h5, by omega, h7⟩
theorem ST.low_ {d l m a b ps ch} (h : ST d l m a b ps ch) : ∀ i, a ≤ i → i < b → low (treeC l) i := by
  induction h with
  | @node a i ps n hn ok h ih =>
    intro j h1 h2
    by_cases e : j = i
    · subst e
      intro k hk
      rw [treeC_ch hn] at hk
      obtain ⟨_, _, h3, h4, _⟩ := h.kids rfl k hk
      exact ⟨h3, h4⟩
    · exact ih j h1 (by omega)
  | nil => intro i h1 h2; omega
  | @cons a b c ps ch h1 h2 ih1 ih2 =>
    intro i h3 h4
    by_cases e : i < b
    · exact ih1 i h3 e
    · exact ih2 i (by omega) h4
theorem ST.lowTo {d l b ps} (h : ST d l true 0 b ps []) : lowTo (treeC l) b := fun i hi => h.low_ i (by omega) hi
def objA (args : List Int) (x : Int) : Int := if x < 0 then (args[(-1 - x).toNat]?).getD 0 else x
def bindA (args : List Int) (a : At) : At := ⟨a.pred, a.args.map (objA args)⟩
def ch0 (n : Cn) : Nat := (n.ch.headD 0).toNat
def truF (d : Dom) (l : List Cn) (atoms : List At) : Nat → Nat → List Int → Bool
  | 0, _, _ => true
  | f + 1, i, args => match l[i]? with
    | none => true
    | some n => if n.kind = 2 then decide (bindA args n.at_ ∈ atoms) else if n.kind = 3 then decide (objA args n.left = objA args n.right)
      else if n.kind = 4 then !(truF d l atoms f (ch0 n) args) else if n.kind = 5 then n.ch.all fun k => truF d l atoms f k.toNat args else if n.kind = 6 then n.ch.any fun k => truF d l atoms f k.toNat args
      else if n.kind = 7 then (membersOf d.types d.objects n.type).any fun o => truF d l atoms f (ch0 n) (args ++ [o]) else if n.kind = 8 then (membersOf d.types d.objects n.type).all fun o => truF d l atoms f (ch0 n) (args ++ [o]) else true
def tru (d : Dom) (l : List Cn) (atoms : List At) (i : Nat) (args : List Int) : Bool := truF d l atoms (i + 1) i args
theorem arity_one {d n ps} (ok : NOk d n ps) (hk : n.kind = 4 ∨ n.kind = 7 ∨ n.kind = 8) : ∃ k, n.ch = [k] := by
  have h := ok.ar
  unfold arityI at h
  rw [if_pos hk] at h
  have h := h (by omega)
  match hc : n.ch with
  | [k] => exact ⟨k, rfl⟩
  | [] => rw [hc] at h; simp at h
  | _ :: _ :: _ => rw [hc] at h; simp at h; omega
theorem all_congrB {α : Type} {p q : α → Bool} {l : List α} (h : ∀ x ∈ l, p x = q x) : l.all p = l.all q := by
  rw [Bool.eq_iff_iff, List.all_eq_true, List.all_eq_true]
  exact ⟨fun k x hx => h x hx ▸ k x hx, fun k x hx => (h x hx).symm ▸ k x hx⟩
theorem any_congrB {α : Type} {p q : α → Bool} {l : List α} (h : ∀ x ∈ l, p x = q x) : l.any p = l.any q := by
  rw [Bool.eq_iff_iff, List.any_eq_true, List.any_eq_true]
  exact ⟨fun ⟨x, hx, k⟩ => ⟨x, hx, h x hx ▸ k⟩, fun ⟨x, hx, k⟩ => ⟨x, hx, (h x hx).symm ▸ k⟩⟩
theorem truF_ok {d : Dom} {l : List Cn} {atoms : List At} : ∀ (f : Nat) (i a : Nat) (ps args : List Int), ST d l true a (i + 1) ps [] → i < f → truF d l atoms f i args = tru d l atoms i args := by
  intro f i
  induction i using Nat.strongRecOn generalizing f with
  | ind i ih =>
    intro a ps args h hf
    obtain ⟨j, n, e, haj, hn, ok, hk⟩ := h.root
    obtain rfl : i = j := by omega
    obtain ⟨f, rfl⟩ : ∃ g, f = g + 1 := ⟨f - 1, by omega⟩
    have hkid := hk.kids rfl
    have key : ∀ k ∈ n.ch, ∀ args, truF d l atoms f k.toNat args = truF d l atoms i k.toNat args := fun k hm args => by
      obtain ⟨a', _, h0, h1, _, h2⟩ := hkid k hm
      rw [ih k.toNat (by omega) f _ _ _ h2 (by omega), ih k.toNat (by omega) i _ _ _ h2 (by omega)]
    have key0 : n.kind = 4 ∨ n.kind = 7 ∨ n.kind = 8 → ∀ args, truF d l atoms f (ch0 n) args = truF d l atoms i (ch0 n) args := fun h => by
      obtain ⟨k, hc⟩ := arity_one ok h
      have : ch0 n = k.toNat := by unfold ch0; rw [hc]; rfl
      rw [this]
      exact key k (by rw [hc]; simp)
    unfold tru
    simp only [truF, hn]
    split
    · rfl
    · split
      · rfl
      · split
        · rename_i h4; rw [key0 (.inl h4)]
        · split
          · exact all_congrB fun k hm => key k hm args
          · split
            · exact any_congrB fun k hm => key k hm args
            · split
              · rename_i h7; exact any_congrB fun o _ => key0 (.inr (.inl h7)) _
              · split
                · rename_i h8; exact all_congrB fun o _ => key0 (.inr (.inr h8)) _
                · rfl
theorem tru_eq {d : Dom} {l : List Cn} {atoms : List At} {i a : Nat} {ps : List Int} {n : Cn} (h : ST d l true a (i + 1) ps []) (hn : l[i]? = some n) (args : List Int) :
    tru d l atoms i args = if n.kind = 2 then decide (bindA args n.at_ ∈ atoms) else if n.kind = 3 then decide (objA args n.left = objA args n.right)
      else if n.kind = 4 then !(tru d l atoms (ch0 n) args) else if n.kind = 5 then n.ch.all fun k => tru d l atoms k.toNat args else if n.kind = 6 then n.ch.any fun k => tru d l atoms k.toNat args
      else if n.kind = 7 then (membersOf d.types d.objects n.type).any fun o => tru d l atoms (ch0 n) (args ++ [o]) else if n.kind = 8 then (membersOf d.types d.objects n.type).all fun o => tru d l atoms (ch0 n) (args ++ [o]) else true := by
  obtain ⟨j, n', e, haj, hn', ok, hk⟩ := h.root
  obtain rfl : i = j := by omega
  rw [hn] at hn'
  cases hn'
  have hkid := hk.kids rfl
  have key : ∀ k ∈ n.ch, ∀ args, truF d l atoms i k.toNat args = tru d l atoms k.toNat args := fun k hm args => by
    obtain ⟨a', _, h0, h1, _, h2⟩ := hkid k hm
    exact truF_ok i _ _ _ _ h2 (by omega)
  have key0 : n.kind = 4 ∨ n.kind = 7 ∨ n.kind = 8 → ∀ args, truF d l atoms i (ch0 n) args = tru d l atoms (ch0 n) args := fun h => by
    obtain ⟨k, hc⟩ := arity_one ok h
    have : ch0 n = k.toNat := by unfold ch0; rw [hc]; rfl
    rw [this]
    exact key k (by rw [hc]; simp)
  conv => lhs; unfold tru
  simp only [truF, hn]
  split
  · rfl
  · split
    · rfl
    · split
      · rename_i h4; rw [key0 (.inl h4)]
      · split
        · exact all_congrB fun k hm => key k hm args
        · split
          · exact any_congrB fun k hm => key k hm args
          · split
            · rename_i h7; exact any_congrB fun o _ => key0 (.inr (.inl h7)) _
            · split
              · rename_i h8; exact all_congrB fun o _ => key0 (.inr (.inr h8)) _
              · rfl
def ArgsOk (d : Dom) (ps args : List Int) : Prop := args.length = ps.length ∧ ∀ o ∈ args, 0 ≤ o ∧ o < d.objects.length
theorem ArgsOk.snoc {d : Dom} {ps args : List Int} (h : ArgsOk d ps args) {o t : Int} (h0 : 0 ≤ o) (h1 : o < d.objects.length) : ArgsOk d (ps ++ [t]) (args ++ [o]) := by
  refine ⟨by simp [h.1], fun x hx => ?_⟩
  rcases List.mem_append.1 hx with hx | hx
  · exact h.2 x hx
  · rw [List.mem_singleton.1 hx]; exact ⟨h0, h1⟩
theorem atom_args {d : Dom} {ps : List Int} {a : At} (h : atomCode d ps a = 0) : (0 ≤ a.pred ∧ a.pred < d.preds.length) ∧ ∃ p, d.preds[a.pred.toNat]? = some p ∧ a.args.length = p.types.length ∧ ∀ (i : Nat) (x : Int), a.args[i]? = some x → ∃ t u, p.types[i]? = some t ∧ typeOfA d ps x = some u ∧ subB d.types u t = true := by
  unfold atomCode at h
  split at h
  · cases h
  · rename_i h1
    refine ⟨by omega, ?_⟩
    cases hp : d.preds[a.pred.toNat]? with
    | none => rw [hp] at h; cases h
    | some p =>
      rw [hp] at h
      simp only at h
      split at h
      · cases h
      · rename_i h2
        have h2 : a.args.length = p.types.length := by simpa using h2
        refine ⟨p, rfl, h2, fun i x hx => ?_⟩
        have hi := get_lt hx
        obtain ⟨t, ht⟩ := get_some (l := p.types) (k := i) (by omega)
        have hnone : scan (argBad d ps p.types a) 0 a.args.length = none := by
          cases hs : scan (argBad d ps p.types a) 0 a.args.length with
          | none => rfl
          | some e =>
            rw [hs] at h
            simp only [Option.getD_some] at h
            exfalso
            have := scan_prop (bad := argBad d ps p.types a) (fun o => o ≠ some 0) (by simp) (fun i => by
              unfold argBad
              split
              · unfold tyoBad
                split
                · simp
                · split <;> simp
              · simp) a.args.length 0
            rw [hs, h] at this
            exact this rfl
        have := scan_allX _ _ hnone i (by omega) (by omega)
        unfold argBad at this
        rw [hx, ht] at this
        simp only at this
        unfold tyoBad at this
        split at this
        · cases this
        · rename_i u hu
          split at this
          · rename_i hsub
            exact ⟨t, u, ht, hu, hsub⟩
          · cases this
theorem typeOfA_rng {d : Dom} {ps : List Int} {x t : Int} (h : typeOfA d ps x = some t) : -(ps.length : Int) ≤ x ∧ x < d.objects.length := by
  unfold typeOfA at h
  split at h
  · omega
  · split at h
    · omega
    · cases h
theorem atom_rng {d : Dom} {ps : List Int} {a : At} (h : atomCode d ps a = 0) : ∀ x ∈ a.args, -(ps.length : Int) ≤ x ∧ x < d.objects.length := by
  obtain ⟨_, p, _, _, h2⟩ := atom_args h
  intro x hx
  obtain ⟨i, hi⟩ := List.getElem?_of_mem hx
  obtain ⟨t, u, _, hu, _⟩ := h2 i x hi
  exact typeOfA_rng hu
theorem objA_rng {d : Dom} {ps args : List Int} (ha : ArgsOk d ps args) {x : Int} (h : -(ps.length : Int) ≤ x ∧ x < d.objects.length) : 0 ≤ objA args x ∧ objA args x < d.objects.length := by
  unfold objA
  split
  · obtain ⟨o, ho⟩ := get_some (l := args) (k := (-1 - x).toNat) (by have := ha.1; omega)
    rw [ho]
    exact ha.2 o (mem_get ho)
  · omega
theorem bindA_ok {d : Dom} {ps args : List Int} (ha : ArgsOk d ps args) (hd : DoTy d) {a : At} (hao : AtOk a) (h : atomCode d ps a = 0) : AtOk (bindA args a) := by
  refine ⟨by simp only [bindA, List.length_map]; exact hao.len, fun c hc => ?_, hao.p⟩
  simp only [bindA, List.mem_map] at hc
  obtain ⟨x, hx, rfl⟩ := hc
  have := objA_rng ha (atom_rng h x hx)
  have := hd.ol
  simp only [InR]
  omega
end Hm
end
section
namespace Hm
open Go
set_option maxRecDepth 100000
set_option maxHeartbeats 4000000
def argBadC (d : Dom) (c : Cnd) (args : List Int) (i : Nat) : Option Flt := match args[i]?, c.types[i]? with
  | some o, some t => if o < 0 ∨ (d.objects.length : Int) ≤ o then some ⟨3, -12⟩ else match d.objects[o.toNat]? with
    | some x => if subB d.types x.type t = true then none else some ⟨8, -12⟩
    | none => none
  | _, _ => none
def argsFault (d : Dom) (c : Cnd) (args : List Int) : Flt := if args.length ≠ c.types.length then ⟨9, -12⟩ else match scan (argBadC d c args) 0 args.length with
  | some f => f
  | none => okF
theorem argBadC_code {d : Dom} {c : Cnd} {args : List Int} {f : Flt} {n : Nat} (h : scan (argBadC d c args) 0 n = some f) : f.code ≠ 0 := by
  have := scan_prop (bad := argBadC d c args) (fun o => ∀ y, o = some y → y.code ≠ 0) (by simp) (fun i y hy => by
    unfold argBadC at hy
    repeat' split at hy
    all_goals first
      | (cases hy; done)
      | (cases hy; simp)) n 0
  exact this f h
theorem argsFault_ok {d : Dom} {c : Cnd} {args : List Int} (h : argsFault d c args = okF) : ArgsOk d c.types args := by
  unfold argsFault at h
  split at h
  · cases h
  · rename_i h1
    have h1 : args.length = c.types.length := by simpa using h1
    split at h
    · rename_i f hf
      exact absurd (congrArg Flt.code h) (argBadC_code hf)
    · rename_i hn
      refine ⟨h1, fun o hm => ?_⟩
      obtain ⟨i, hi⟩ := List.getElem?_of_mem hm
      have hl := get_lt hi
      have := scan_allX _ _ hn i (by omega) (by omega)
      obtain ⟨t, ht⟩ := get_some (l := c.types) (k := i) (by omega)
      unfold argBadC at this
      rw [hi, ht] at this
      simp only at this
      split at this
      · cases this
      · omega
def c_condition_values : Cmd :=
 (qS [qx 3 2688198 6 0, qx 4 2688258 2 1, qq 6 (.alloc 2688386 (.agg [.int .i64 0, .int .i64 0]))]
 (qT (qS [qm 9 2, qn 10 9, qf 11 0 4, ql 12 1 11, qn 13 12, qu 14 .neq [.i] 10 13]
 (.cond (.t 14) (.seq (.ops [qq 15 (.build [.int .i64 0, .int .i64 0] [(0 , 1 , .c (.int .i64 9)), (1 , 1 , .c (.int .i64 (-12)))]), qs 2 6 15]) .ret) .skip))
 (qT (qS [qm 16 2, qn 17 16, qc 18 0]
 (.block 0 (.loop (qS [qu 19 .lss [] 18 17]
 (qT (.cond (.t 19) .skip (.exit 0))
 (qT (.block 1 (qS [qm 20 18, qi 21 1 16 18, ql 22 1 21, qm 7 20, qm 8 22]
 (.block 2 (qS [qm 24 8, qv 25 .lss [] 24 0, qm 26 25, qg 27 26 false (.mov (.t 8)), qg 28 26 false (.faddr 1 (.t 3)), qg 29 26 false (.load false 1 (.t 28)), qg 30 26 false (.len false (.t 29)), qg 31 26 false (.bin .geq false [] (.t 27) (.t 30)), qq 32 (.pick (.t 26) (.c (.bool true)) (.t 31)), qm 23 32]
 (.cond (.t 23) (.seq (.ops [qq 33 (.build [.int .i64 0, .int .i64 0] [(0 , 1 , .c (.int .i64 3)), (1 , 1 , .c (.int .i64 (-12)))]), qs 2 6 33]) .ret) (qS [qf 35 0 3, ql 36 1 35, qf 37 1 3, ql 38 1 37, qm 39 8, qi 40 2 38 39, qf 41 1 40, ql 42 1 41, qf 43 0 4, ql 44 1 43, qm 45 7, qi 46 1 44 45, ql 47 1 46, qk 48 84 [36, 42, 47], qq 49 (.not (.t 48)), qm 34 49]
 (.cond (.t 34) (.seq (.ops [qq 50 (.build [.int .i64 0, .int .i64 0] [(0 , 1 , .c (.int .i64 8)), (1 , 1 , .c (.int .i64 (-12)))]), qs 2 6 50]) .ret) .skip)))))))
 (.ops [qv 51 .add [] 18 1, qm 18 51])))))))
 (.seq (.ops [qq 52 (.build [.int .i64 0, .int .i64 0] []), qs 2 6 52]) .ret))))
def r_condition_values : List RVar := [.cell true 2 6]
def n_condition_values : Nat := 53
theorem k_condition_values : chkFn Go.Proofs.Tryz.prog 42 n_condition_values r_condition_values c_condition_values = true := by kernel_rfl
theorem f_condition_values (d : Dom) (hd : DoTy d) (c : Cnd) (hc : c.types.length ≤ 3) (args : List Int) (hl : args.length ≤ 140737488355328) : Fc Go.Proofs.Tryz.prog 42 [domV d, cndV c, .sl .p (args.map i64V)] (ftV (argsFault d c args)) := by
  have hol := hd.ol
  unfold argsFault
  by_cases e : args.length = c.types.length
  · rw [if_neg (by simp [e])]
    refine Fn.step mixed k_condition_values ?_
    repeat' (first | refine i_len rfl ?_ | refine i_s rfl ?_ | refine sw ?_ | refine i_stb rfl ?_ | refine i_alloc rfl ?_ | refine i_box rfl rfl ?_ | refine c_cond rfl (fun h => ?_) (fun h => ?_))
    all_goals first
      | (exfalso; simp at *; done)
      | (exfalso; simp at *; omega)
      | skip
    refine c_for args.length (fun i => [(2, .sl .p (args.map i64V)), (3, .bptr 2688198 0), (4, .bptr 2688258 0), (6, .bptr 2688386 0), (16, .sl .p (args.map i64V)), (17, .int .i64 args.length), (18, .int .i64 i)])
      (fun _ => [(2688198, .box (domV d)), (2688258, .box (cndV c)), (2688386, .box (ftV okF))]) (fun i => ∀ j, j < i → argBadC d c args j = none) all_zero ft fun i hi hall => ?_
    by_cases hlt : i < args.length
    · obtain ⟨o, ho⟩ := get_some hlt
      obtain ⟨t, ht⟩ := get_some (l := c.types) (k := i) (by omega)
      have hbad : argBadC d c args i = if o < 0 ∨ (d.objects.length : Int) ≤ o then some ⟨3, -12⟩ else match d.objects[o.toNat]? with
        | some x => if subB d.types x.type t = true then none else some ⟨8, -12⟩
        | none => none := by simp only [argBadC, ho, ht]
      by_cases b1 : o < 0 ∨ (d.objects.length : Int) ≤ o
      · rw [if_pos b1] at hbad
        rw [scan0_hit hall hlt hbad]
        clear hall hbad hd
        repeat' (first | refine i_len rfl ?_ | refine i_s rfl ?_ | refine sw ?_ | refine i_gt rfl ?_ | refine i_gf rfl ?_ | refine c_t rfl ?_ | refine jd rfl rfl ?_ | refine i_stb rfl ?_ | (refine sp ?_ ?_ <;> try intro h) | fail)
        all_goals first
          | exact e_ret ⟨rfl, _, rfl, rfl⟩
          | (exfalso; simp at *; done)
          | (exfalso; simp at *; omega)
      · rw [if_neg b1] at hbad
        obtain ⟨x, hx⟩ := get_some (l := d.objects) (k := o.toNat) (by omega)
        rw [hx] at hbad
        simp only at hbad
        obtain ⟨x0, x1⟩ := hd.o x (mem_get hx)
        have hI := f_types_Is d.types hd.ty x.type t x0 x1
        have ho0 : 0 ≤ o := by omega
        cases hsb : subB d.types x.type t with
        | true =>
          rw [hsb, if_pos rfl] at hbad
          rw [hsb] at hI
          clear hd
          repeat' (first | refine i_len rfl ?_ | refine i_s rfl ?_ | refine sw ?_ | refine i_gt rfl ?_ | refine i_gf rfl ?_ | refine c_t rfl ?_ | refine c_f rfl ?_ | refine ja rfl rfl ?_ | refine jd rfl rfl ?_ | refine i_stb rfl ?_ | (refine sp ?_ ?_ <;> try intro h) | refine sf rfl rfl hI ?_ | fail)
          all_goals first
            | (exact e_for hlt (all_succ hall hbad) ft)
            | (exfalso; clear hI hall hbad; simp at *; done)
            | (exfalso; clear hI hall hbad; simp at *; omega)
        | false =>
          rw [hsb, if_neg (by simp)] at hbad
          rw [hsb] at hI
          rw [scan0_hit hall hlt hbad]
          clear hd hall hbad
          repeat' (first | refine i_len rfl ?_ | refine i_s rfl ?_ | refine sw ?_ | refine i_gt rfl ?_ | refine i_gf rfl ?_ | refine c_t rfl ?_ | refine jd rfl rfl ?_ | refine i_stb rfl ?_ | (refine sp ?_ ?_ <;> try intro h) | refine sf rfl rfl hI ?_ | fail)
          all_goals first
            | exact e_ret ⟨rfl, _, rfl, rfl⟩
            | (exfalso; clear hI; simp at *; done)
            | (exfalso; clear hI; simp at *; omega)
    · have hge : i = args.length := by omega
      subst hge
      rw [scan0_none hall]
      clear hall
      repeat' (first | refine i_s rfl ?_ | refine sw ?_ | refine i_stb rfl ?_ | refine c_cond rfl (fun h => ?_) (fun h => ?_))
      all_goals first
        | exact e_ret ⟨rfl, _, rfl, rfl⟩
        | (exfalso; simp at *; done)
        | (exfalso; simp at *; omega)
  · rw [if_pos e]
    refine Fn.step mixed k_condition_values ?_
    repeat' (first | refine i_len rfl ?_ | refine i_s rfl ?_ | refine sw ?_ | refine i_stb rfl ?_ | refine i_alloc rfl ?_ | refine i_box rfl rfl ?_ | refine c_cond rfl (fun h => ?_) (fun h => ?_))
    all_goals first
      | exact e_ret ⟨rfl, _, rfl, rfl⟩
      | (exfalso; simp at *; done)
      | (exfalso; simp at *; omega)
def groundFault (d : Dom) (atoms : List At) : Flt := if atomsCode d [] atoms 400 ≠ 0 then ⟨atomsCode d [] atoms 400, -11⟩ else okF
theorem PsOk_nil {d : Dom} : PsOk d [] := ⟨by simp, by simp⟩
theorem objA_neg {args : List Int} {x o : Int} (h : x < 0) (ho : args[(-1 - x).toNat]? = some o) : objA args x = o := by unfold objA; rw [if_pos h, ho]; rfl
theorem objA_pos {args : List Int} {x : Int} (h : ¬ x < 0) : objA args x = x := by unfold objA; rw [if_neg h]
def c_condition_value : Cmd :=
 (qS [qc 4 0]
 (qT (qS [qm 5 0, qv 6 .lss [] 5 0]
 (.cond (.t 6) (.seq (.ops [qm 7 1, qm 8 0, qq 9 (.bin .sub false [] (.c (.int .i64 (-1))) (.t 8)), qi 10 1 7 9, ql 11 1 10, qm 4 11]) .ret) .skip))
 (.seq (.ops [qm 12 0, qm 4 12]) .ret)))
def r_condition_value : List RVar := [.tmp 4]
def n_condition_value : Nat := 13
theorem k_condition_value : chkFn Go.Proofs.Tryz.prog 92 n_condition_value r_condition_value c_condition_value = true := by kernel_rfl
theorem f_condition_value (args : List Int) (hl : args.length ≤ 140737488355328) (x : Int) (hx : -(args.length : Int) ≤ x) : Fc Go.Proofs.Tryz.prog 92 [.int .i64 x, .sl .p (args.map i64V)] (.int .i64 (objA args x)) := by
  by_cases h : x < 0
  · obtain ⟨o, ho⟩ := get_some (l := args) (k := (-1 - x).toNat) (by omega)
    rw [objA_neg h ho]
    have h0 : 0 ≤ -1 - x := by omega
    refine Fn.step mixed k_condition_value ?_
    repeat' (first | refine i_s rfl ?_ | refine sw ?_ | refine jb rfl rfl ?_ | refine jd rfl rfl ?_ | refine c_cond rfl (fun h => ?_) (fun h => ?_))
    all_goals first
      | exact e_ret ⟨rfl, _, rfl, rfl⟩
      | (exfalso; simp at *; omega)
  · rw [objA_pos h]
    refine Fn.step mixed k_condition_value ?_
    repeat' (first | refine i_s rfl ?_ | refine sw ?_ | refine c_cond rfl (fun h => ?_) (fun h => ?_))
    all_goals first
      | exact e_ret ⟨rfl, _, rfl, rfl⟩
      | (exfalso; simp at *; omega)
def c_condition_Bind : Cmd :=
 (qS [qx 2 5824130 2 0, qq 4 (.alloc 5824258 (.agg [.int .i64 0, .sl .nil []]))]
 (qS [qf 8 0 2, ql 9 1 8, qq 10 (.build [.int .i64 0, .sl .nil []] [(0 , 1 , .t 9)]), qq 5 (.alloc 5824322 (.agg [.int .i64 0, .sl .nil []])), qs 2 5 10]
 (qT (.seq (.ops [qf 11 1 2, ql 12 1 11, qn 13 12, qc 14 0]) (.nvb 5 1 5827265 (.cut (.block 0 (.loop (qS [qu 15 .lss [] 14 13]
 (qT (.cond (.t 15) .skip (.exit 0))
 (qT (.block 1 (qS [qi 16 1 12 14, ql 17 1 16, qm 7 17]
 (.ops [qf 18 1 5, ql 19 1 18, qm 20 7, qm 21 1, qk 22 92 [20, 21], qq 23 (.bsl 1 [.t 22]), qq 24 (.append 1 8 3 (.t 19) (.t 23)), qf 25 1 5, qs 1 25 24])))
 (.ops [qv 26 .add [] 14 1, qm 14 26])))))))))
 (.seq (.ops [qL 27 2 5, qs 2 4 27]) .ret))))
def r_condition_Bind : List RVar := [.cell true 2 4]
def n_condition_Bind : Nat := 28
theorem k_condition_Bind : chkFn Go.Proofs.Tryz.prog 91 n_condition_Bind r_condition_Bind c_condition_Bind = true := by kernel_rfl
theorem f_condition_Bind (args : List Int) (hl : args.length ≤ 140737488355328) (a : At) (ha : a.args.length ≤ 17592186044416) (hx : ∀ x ∈ a.args, -(args.length : Int) ≤ x) : Fc Go.Proofs.Tryz.prog 91 [atV a, .sl .p (args.map i64V)] (atV (bindA args a)) := by
  refine Fn.step mixed k_condition_Bind ?_
  repeat (first | refine i_len rfl ?_ | refine i_s rfl ?_ | refine sw ?_ | refine i_stb rfl ?_ | refine i_alloc rfl ?_ | refine i_box rfl rfl ?_)
  refine c_nvb rfl rfl rfl rfl ?_
  repeat refine sw ?_
  refine c_for a.args.length (fun k => [(1, .sl .p (args.map i64V)), (4, .bptr 5824258 0), (5, .bptr 5824322 0), (12, .sl .p (a.args.map i64V)), (13, .int .i64 a.args.length), (14, .int .i64 k)])
    (fun k => [(5824258, .box (.agg [.int .i64 0, .sl .nil []])), (5824322, .box (.agg [.int .i64 a.pred, .sl (.own 5827265) (((a.args.take k).map (objA args)).map i64V)])), (5827265, .vec ((a.args.take k).map (objA args)).length)]) (fun _ => True) trivial ft fun k hk _ => ?_
  repeat (first | refine i_s rfl ?_ | refine sw ?_)
  refine c_cond rfl (fun h => ?_) (fun h => ?_)
  · have hlt : k < a.args.length := by simpa using h
    obtain ⟨x, hget⟩ := get_some hlt
    have hV := f_condition_value args hl x (hx x (mem_get hget))
    have htl : ((a.args.take k).map (objA args)).length = k := by simp; omega
    have e : (a.args.take (k + 1)).map (objA args) = (a.args.take k).map (objA args) ++ [objA args x] := by rw [take_succ_get hget, List.map_append]; rfl
    clear h hx
    repeat (first | refine i_s rfl ?_ | refine sw ?_ | refine jd rfl rfl ?_ | refine sf rfl rfl hV ?_)
    refine i_appM rfl rfl rfl rfl rfl (by omega) (by omega) ?_
    repeat (first | refine i_s rfl ?_ | refine sw ?_ | refine ja rfl rfl ?_ | refine i_stb rfl ?_)
    refine e_for hlt trivial ⟨⟨rfl, rfl, rfl, rfl, rfl, rfl, trivial⟩, ⟨rfl, ?_, ?_, trivial⟩, rfl⟩
    · rw [e]; rfl
    · rw [e]; simp; rfl
  · have hge : k = a.args.length := by have : ¬ k < a.args.length := by simpa using h
                                       omega
    subst hge
    clear h
    rw [List.take_length]
    repeat (first | refine i_s rfl ?_ | refine sw ?_ | refine i_stb rfl ?_)
    exact e_ret ⟨rfl, _, rfl, rfl⟩
def c_condition_Eval_1_1 : Cmd :=
 (qS [qx 2 2880130 2 0, qb 3 false]
 (.seq (.ops [qL 4 2 1, qL 5 2 2, qk 6 46 [4, 5], qv 7 .eql [.i] 6 0, qm 3 7]) .ret))
def r_condition_Eval_1_1 : List RVar := [.tmp 3]
def n_condition_Eval_1_1 : Nat := 8
theorem k_condition_Eval_1_1 : chkFn Go.Proofs.Tryz.prog 45 n_condition_Eval_1_1 r_condition_Eval_1_1 c_condition_Eval_1_1 = true := by kernel_rfl
theorem f_Eval_1_1 (u t : At) (hu : AtOk u) (ht : AtOk t) : Fc Go.Proofs.Tryz.prog 45 [atV u, .cptr .p (atV t) 0] (.bool (decide (t = u))) := by
  have h := f_domain_Compare t u ht hu
  refine Fn.step mixed k_condition_Eval_1_1 ?_
  repeat' (first | refine i_s rfl ?_ | refine sw ?_ | refine i_box rfl rfl ?_ | refine sf rfl rfl h ?_ | fail)
  refine e_ret ⟨rfl, _, rfl, congrArg V.bool ?_⟩
  by_cases e : t = u
  · rw [atomOrd_zero.2 e, decide_eq_true e]; rfl
  · have : atomOrd t u ≠ 0 := fun h => e (atomOrd_zero.1 h)
    rw [decide_eq_false e]
    simpa using this
def c_condition_Eval_1 : Cmd :=
 (qS [qx 2 2752130 2 0, qb 3 false]
 (.seq (.ops [ql 4 1 1, qq 5 (.mkfn 45 [.t 2]), qk 6 44 [4, 5], qm 3 6]) .ret))
def r_condition_Eval_1 : List RVar := [.tmp 3]
def n_condition_Eval_1 : Nat := 7
theorem k_condition_Eval_1 : chkFn Go.Proofs.Tryz.prog 43 n_condition_Eval_1 r_condition_Eval_1 c_condition_Eval_1 = true := by kernel_rfl
theorem f_Eval_1 (l : List At) (hl : l.length ≤ 140737488355328) (ho : ∀ a ∈ l, AtOk a) (a : At) (ha : AtOk a) : Fc Go.Proofs.Tryz.prog 43 [atV a, .cptr .p (.sl .p (l.map atV)) 0] (.bool (decide (a ∈ l))) := by
  have hC := f_ContainsFunc_Atom l (fun u => decide (a = u)) 45 [.cptr .p (atV a) 0] hl (fun _ _ => rfl) rfl (fun u hu => f_Eval_1_1 u a (ho u hu) ha)
  rw [show l.any (fun u => decide (a = u)) = decide (a ∈ l) from by rw [Bool.eq_iff_iff]; simp] at hC
  refine Fn.step mixed k_condition_Eval_1 ?_
  repeat' (first | refine i_s rfl ?_ | refine sw ?_ | refine i_box rfl rfl ?_ | refine sf rfl rfl hC ?_ | fail)
  exact e_ret ⟨rfl, _, rfl, rfl⟩
def evV (d : Dom) (c : Cnd) (l : List At) : V := .agg [.sl .p (d.types.map tyV), .sl .p (d.objects.map obV), .sl .p (d.preds.map prdV), .sl .p (d.schemas.map schV), .sl .p (d.init.map atV), .sl .p (d.goal.map litV), .sl .p (c.types.map i64V), .sl .p (c.nodes.map cnV), .fn 43 [.cptr .p (.sl .p (l.map atV)) 0]]
theorem mem_rng {l : List Typ} {os : List Obj} {t o : Int} (h : o ∈ membersOf l os t) : 0 ≤ o ∧ o < os.length := by
  obtain ⟨k, x, rfl, hx, _⟩ := mem_members.1 h
  have := get_lt hx
  omega
theorem all_take_none {α : Type} {p : α → Bool} {l : List α} (h : ∀ j, j < l.length → ∀ x, l[j]? = some x → p x = true) : l.all p = true := by
  rw [List.all_eq_true]
  intro x hx
  obtain ⟨i, hi⟩ := List.getElem?_of_mem hx
  exact h i (get_lt hi) x hi
def c_condition_evaluator_each : Cmd :=
 (qS [qx 5 5952327 7 1, qb 8 false]
 (qT (qS [qm 11 0, qq 12 (.nilck (.t 11)), qf 13 0 12, qf 14 0 13, ql 15 1 14, qm 16 0, qq 17 (.nilck (.t 16)), qf 18 0 17, qf 19 1 18, ql 20 1 19, qf 21 6 5, ql 22 1 21, qk 23 99 [15, 20, 22], qn 24 23, qc 25 0]
 (.block 0 (.loop (qS [qu 26 .lss [] 25 24]
 (qT (.cond (.t 26) .skip (.exit 0))
 (qT (.block 1 (qS [qi 27 1 23 25, ql 28 1 27, qm 10 28]
 (qT (.opsT (.node 1 6 (.node 2 6 (.node 3 6 (.node 4 6 (.leaf [0, 1, 2, 3, 4, 5, 7, 8, 11, 6, 9, 10, 12]) (.node 4 9 (.leaf [0, 1, 2, 3, 5, 7, 8, 11, 6, 4, 9, 10, 12]) (.leaf [0, 1, 2, 3, 5, 7, 8, 11, 6, 9, 4, 10, 12]))) (.node 3 9 (.node 4 9 (.leaf [0, 1, 2, 5, 7, 8, 11, 6, 3, 4, 9, 10, 12]) (.leaf [0, 1, 2, 5, 7, 8, 11, 6, 3, 9, 4, 10, 12])) (.leaf [0, 1, 2, 5, 7, 8, 11, 6, 9, 3, 4, 10, 12]))) (.node 2 9 (.node 3 9 (.node 4 9 (.leaf [0, 1, 5, 7, 8, 11, 6, 2, 3, 4, 9, 10, 12]) (.leaf [0, 1, 5, 7, 8, 11, 6, 2, 3, 9, 4, 10, 12])) (.leaf [0, 1, 5, 7, 8, 11, 6, 2, 9, 3, 4, 10, 12])) (.leaf [0, 1, 5, 7, 8, 11, 6, 9, 2, 3, 4, 10, 12]))) (.node 1 9 (.node 2 9 (.node 3 9 (.node 4 9 (.leaf [0, 5, 7, 8, 11, 6, 1, 2, 3, 4, 9, 10, 12]) (.leaf [0, 5, 7, 8, 11, 6, 1, 2, 3, 9, 4, 10, 12])) (.leaf [0, 5, 7, 8, 11, 6, 1, 2, 9, 3, 4, 10, 12])) (.leaf [0, 5, 7, 8, 11, 6, 1, 9, 2, 3, 4, 10, 12])) (.leaf [0, 5, 7, 8, 11, 6, 9, 1, 2, 3, 4, 10, 12]))) [qm 29 0, qf 30 1 5, ql 31 1 30, qq 32 (.iaddr 1 (.t 31) (.c (.int .i64 0))), ql 33 1 32, qm 34 2, qq 35 (.call (.s [3520321]) (.c (.fn 55 [])) [.t 34]), qm 36 10, qq 37 (.bsl 1 [.t 36]), qq 38 (.append 1 8 3 (.t 35) (.t 37)), qk 39 47 [29, 33, 38], qm 40 3, qu 41 .neq [.b] 39 40])
 (.cond (.t 41) (.seq (.ops [qb 8 false]) .ret) .skip))))
 (.ops [qv 42 .add [] 25 1, qm 25 42])))))))
 (.seq (.ops [qb 8 true]) .ret)))
def r_condition_evaluator_each : List RVar := [.tmp 8]
def n_condition_evaluator_each : Nat := 43
theorem k_condition_evaluator_each : chkFn Go.Proofs.Tryz.prog 93 n_condition_evaluator_each r_condition_evaluator_each c_condition_evaluator_each = true := by kernel_rfl
theorem f_each (d : Dom) (hd : DoTy d) (c : Cnd) (l : List At) (n : Cn) (k : Int) (hch : n.ch = [k]) (args : List Int) (hal : args.length ≤ 100) (want : Bool) (g : Int → Bool)
    (hE : ∀ o ∈ membersOf d.types d.objects n.type, Fc Go.Proofs.Tryz.prog 47 [.cptr .p (evV d c l) 0, .int .i64 k, .sl .p ((args ++ [o]).map i64V)] (.bool (g o))) :
    Fc Go.Proofs.Tryz.prog 93 [.cptr .p (evV d c l) 0, cnV n, .sl .p (args.map i64V), .bool want] (.bool ((membersOf d.types d.objects n.type).all fun o => g o == want)) := by
  have hO := f_types_Of d.types hd.ty d.objects hd.ol hd.o n.type
  have hml : (membersOf d.types d.objects n.type).length ≤ 8 := by have := members_length (l := d.types) (os := d.objects) (t := n.type); have := hd.ol; omega
  refine Fn.step mixed k_condition_evaluator_each ?_
  repeat (first | refine i_len rfl ?_ | refine i_s rfl ?_ | refine sw ?_ | refine i_box rfl rfl ?_ | refine sf rfl rfl hO ?_)
  clear hO
  generalize membersOf d.types d.objects n.type = M at *
  refine c_for M.length (fun i => [(0, .cptr .p (evV d c l) 0), (2, .sl .p (args.map i64V)), (3, .bool want), (5, .bptr 5952327 0), (23, .sl .p (M.map i64V)), (24, .int .i64 M.length), (25, .int .i64 i)])
    (fun _ => [(5952327, .box (cnV n))]) (fun i => ∀ j, j < i → ∀ x, M[j]? = some x → (g x == want) = true) (fun j hj => absurd hj (by omega)) ft fun i hi hall => ?_
  by_cases hlt : i < M.length
  · obtain ⟨o, ho⟩ := get_some hlt
    have hEo := hE o (mem_get ho)
    have hk0 : [k][(0 : Int).toNat]? = some k := rfl
    rw [← hch] at hk0
    clear hE hd hch
    repeat' (first | refine i_s rfl ?_ | refine sw ?_ | refine jd rfl rfl ?_ | (refine sp ?_ ?_ <;> try intro h) | fail)
    all_goals first
      | (exfalso; simp at *; omega)
      | skip
    all_goals
      refine i_c rfl rfl rfl (ct_Clone1 args (by omega) _ _ rfl fun nm h => restr_mem nm h) ?_
      rintro _ _ _ ⟨⟨gen, rfl, rfl⟩, rfl⟩
      repeat' (first | refine i_s rfl ?_ | refine jd rfl rfl ?_ | fail)
    all_goals
      refine i_appmM [o] rfl rfl rfl rfl rfl (fun c hc => ⟨rfl, rfl⟩) (by simp only [List.length_singleton]; omega) (by simp only [List.length_singleton]; omega) ?_
      repeat' (first | refine i_s rfl ?_ | refine jd rfl rfl ?_ | fail)
    all_goals
      refine i_f rfl (congrArg (fun x => [V.cptr .p (evV d c l) 0, .int .i64 k, x]) ((er_msl (n := 5) (i := 0) (len := (args ++ [o]).length) rfl).trans (msl_all rfl))) hEo rfl ?_
    all_goals
      cases hg : g o <;> cases want
    all_goals rw [hg] at hEo
    all_goals
      repeat' (first | refine i_s rfl ?_ | refine sw ?_ | refine c_t rfl ?_ | refine c_f rfl ?_ | refine ja rfl rfl ?_ | fail)
    all_goals first
      | (exfalso; clear hEo hall; simp at *; done)
      | (exact e_for hlt (fun j hj x hx => (by
          by_cases e : j = i
          · subst e; rw [ho] at hx; cases hx; rw [hg]; rfl
          · exact hall j (by omega) x hx)) ft)
      | (refine e_ret ⟨rfl, _, rfl, congrArg V.bool ?_⟩
         rw [List.all_eq_false]
         exact ⟨o, mem_get ho, by rw [hg]; simp⟩)
  · have hge : i = M.length := by omega
    subst hge
    rw [all_take_none hall]
    clear hall hE hd
    repeat' (first | refine i_s rfl ?_ | refine sw ?_ | refine c_cond rfl (fun h => ?_) (fun h => ?_))
    all_goals first
      | exact e_ret ⟨rfl, _, rfl, rfl⟩
      | (exfalso; simp at *; done)
      | (exfalso; simp at *; omega)
def c_condition_evaluator_eval_1 : Cmd :=
 (qS [qx 3 5696193 1 0, qq 4 (.mov (.c (.nilfn)))]
 (.seq (.ops [qq 5 (.mkfn 90 [.t 1, .t 2, .t 3]), qm 4 5]) .ret))
def r_condition_evaluator_eval_1 : List RVar := [.tmp 4]
def n_condition_evaluator_eval_1 : Nat := 6
theorem k_condition_evaluator_eval_1 : chkFn Go.Proofs.Tryz.prog 89 n_condition_evaluator_eval_1 r_condition_evaluator_eval_1 c_condition_evaluator_eval_1 = true := by kernel_rfl
theorem f_eval_1 (want : Bool) (x y : V) : Fc Go.Proofs.Tryz.prog 89 [.bool want, .cptr .p x 0, .cptr .p y 0] (.fn 90 [.cptr .p x 0, .cptr .p y 0, .cptr .p (.bool want) 0]) := by
  refine Fn.step mixed k_condition_evaluator_eval_1 ?_
  repeat' (first | refine i_s rfl ?_ | refine sw ?_ | refine i_box rfl rfl ?_)
  exact e_ret ⟨rfl, _, rfl, rfl⟩
def c_condition_evaluator_eval_1_1 : Cmd :=
 (qS [qb 5 false]
 (.seq (.ops [ql 6 1 1, qm 7 0, ql 8 1 2, qk 9 47 [6, 7, 8], ql 10 1 3, qu 11 .eql [.b] 9 10, qm 5 11]) .ret))
def r_condition_evaluator_eval_1_1 : List RVar := [.tmp 5]
def n_condition_evaluator_eval_1_1 : Nat := 12
theorem k_condition_evaluator_eval_1_1 : chkFn Go.Proofs.Tryz.prog 90 n_condition_evaluator_eval_1_1 r_condition_evaluator_eval_1_1 c_condition_evaluator_eval_1_1 = true := by kernel_rfl
theorem f_eval_1_1 (d : Dom) (c : Cnd) (l : List At) (args : List Int) (want : Bool) (k : Int) (b : Bool) (hE : Fc Go.Proofs.Tryz.prog 47 [.cptr .p (evV d c l) 0, .int .i64 k, .sl .p (args.map i64V)] (.bool b)) :
    Fc Go.Proofs.Tryz.prog 90 [.int .i64 k, .cptr .p (.cptr .p (evV d c l) 0) 0, .cptr .p (.sl .p (args.map i64V)) 0, .cptr .p (.bool want) 0] (.bool (b == want)) := by
  refine Fn.step mixed k_condition_evaluator_eval_1_1 ?_
  repeat' (first | refine i_s rfl ?_ | refine sw ?_ | refine sf rfl rfl hE ?_ | fail)
  exact e_ret ⟨rfl, _, rfl, rfl⟩
theorem all_any_f {α : Type} (l : List α) (p : α → Bool) : l.all p = !(l.any fun k => p k == false) := by
  rw [Bool.eq_iff_iff]
  simp
theorem any_all_f {α : Type} (l : List α) (p : α → Bool) : l.any p = !(l.all fun k => p k == false) := by
  rw [Bool.eq_iff_iff]
  simp
theorem any_t {α : Type} (l : List α) (p : α → Bool) : (l.any fun k => p k == true) = l.any p := any_congrB fun k _ => by simp
theorem all_t {α : Type} (l : List α) (p : α → Bool) : (l.all fun k => p k == true) = l.all p := all_congrB fun k _ => by simp
def c_condition_evaluator_eval : Cmd :=
 (qS [qx 3 3008193 1 0, qx 5 3008321 1 2, qb 6 false]
 (.seq (.ops [ql 9 1 3, qq 10 (.nilck (.t 9)), qf 11 6 10, qf 12 1 11, ql 13 1 12, qm 14 1, qi 15 7 13 14, qL 16 7 15, qq 7 (.alloc 3008455 (.agg [.int .i64 0, .sl .nil [], .int .i64 0, .sl .nil [], .int .i64 0, .int .i64 0, .int .i64 0])), qs 7 7 16]) (.seq (.frz 5) (qT (.frz 3)
 (qS [qq 17 (.mkfn 89 [.t 3, .t 5]), qm 8 17]
 (qT (qS [qf 18 0 7, ql 19 1 18]
 (.block 0 (qS [qv 21 .eql [.i] 19 2, qm 20 21]
 (.cond (.t 20) (.seq (.ops [ql 22 1 3, qq 23 (.nilck (.t 22)), qf 24 8 23, ql 25 1 24, qf 26 2 7, qL 27 2 26, ql 28 1 5, qk 29 91 [27, 28], qq 30 (.call .f (.t 25) [.t 29]), qm 6 30]) .ret) (qS [qv 32 .eql [.i] 19 3, qm 31 32]
 (.cond (.t 31) (.seq (.ops [qf 33 4 7, ql 34 1 33, ql 35 1 5, qk 36 92 [34, 35], qf 37 5 7, ql 38 1 37, ql 39 1 5, qk 40 92 [38, 39], qu 41 .eql [.i] 36 40, qm 6 41]) .ret) (qS [qv 43 .eql [.i] 19 4, qm 42 43]
 (.cond (.t 42) (.seq (.ops [ql 44 1 3, qf 45 1 7, ql 46 1 45, qq 47 (.iaddr 1 (.t 46) (.c (.int .i64 0))), ql 48 1 47, ql 49 1 5, qk 50 47 [44, 48, 49], qq 51 (.not (.t 50)), qm 6 51]) .ret) (qS [qv 53 .eql [.i] 19 5, qm 52 53]
 (.cond (.t 52) (.seq (.ops [qf 54 1 7, ql 55 1 54, qm 56 8, qq 57 (.call .f (.t 56) [.c (.bool false)]), qk 58 75 [55, 57], qq 59 (.not (.t 58)), qm 6 59]) .ret) (qS [qv 61 .eql [.i] 19 6, qm 60 61]
 (.cond (.t 60) (.seq (.ops [qf 62 1 7, ql 63 1 62, qm 64 8, qq 65 (.call .f (.t 64) [.c (.bool true)]), qk 66 75 [63, 65], qm 6 66]) .ret) (qS [qv 68 .eql [.i] 19 7, qm 67 68]
 (.cond (.t 67) (.seq (.ops [ql 69 1 3, qL 70 7 7, ql 71 1 5, qq 72 (.call .f (.c (.fn 93 [])) [.t 69, .t 70, .t 71, .c (.bool false)]), qq 73 (.not (.t 72)), qm 6 73]) .ret) (qS [qv 75 .eql [.i] 19 8, qm 74 75]
 (.cond (.t 74) (.seq (.ops [ql 76 1 3, qL 77 7 7, ql 78 1 5, qq 79 (.call .f (.c (.fn 93 [])) [.t 76, .t 77, .t 78, .c (.bool true)]), qm 6 79]) .ret) .skip))))))))))))))))
 (.seq (.ops [qb 6 true]) .ret)))))))
def r_condition_evaluator_eval : List RVar := [.tmp 6]
def n_condition_evaluator_eval : Nat := 80
theorem k_condition_evaluator_eval : chkFn Go.Proofs.Tryz.prog 47 n_condition_evaluator_eval r_condition_evaluator_eval c_condition_evaluator_eval = true := by kernel_rfl
theorem f_eval (d : Dom) (hd : DoTy d) (c : Cnd) (ho : CndOk c) (l : List At) (hl : l.length ≤ 140737488355328) (hlo : ∀ a ∈ l, AtOk a) : ∀ (i a : Nat) (ps args : List Int), ST d c.nodes true a (i + 1) ps [] → ps.length ≤ 6 → ArgsOk d ps args →
    Fc Go.Proofs.Tryz.prog 47 [.cptr .p (evV d c l) 0, .int .i64 i, .sl .p (args.map i64V)] (.bool (tru d c.nodes l i args)) := by
  intro i
  induction i using Nat.strongRecOn with
  | ind i ih =>
    intro a ps args hst hps ha
    obtain ⟨j, n, e, haj, hn, ok, hkids⟩ := hst.root
    obtain rfl : i = j := by omega
    rw [tru_eq hst hn args]
    have hno := ho.nodes n (mem_get hn)
    have hkid := hkids.kids rfl
    have hal : args.length ≤ 6 := by have := ha.1; omega
    have hk0 := ok.k0
    have hk8 := ok.k8
    have hqu := ok.qu
    have hlf := ok.lf
    have hnc := hno.ch
    have hown : quantK n.kind = false → ownC n = [] := fun h => by unfold ownC; rw [h]; rfl
    by_cases k2 : n.kind = 2
    · rw [if_pos k2]
      unfold leafCode at hlf
      rw [if_pos k2] at hlf
      have hr := atom_rng hlf
      have hB := f_condition_Bind args (by omega) n.at_ hno.at_.len (fun x hx => by have := (hr x hx).1; have := ha.1; omega)
      have hH := f_Eval_1 l hl hlo (bindA args n.at_) (bindA_ok ha hd hno.at_ hlf)
      generalize decide (bindA args n.at_ ∈ l) = b at *
      generalize bindA args n.at_ = at2 at *
      clear hd ho hlo ih hst hkids hkid hno hr ok
      refine Fn.step mixed k_condition_evaluator_eval ?_
      repeat' (first | refine i_s rfl ?_ | refine sw ?_ | refine jd rfl rfl ?_ | refine i_stb rfl ?_ | refine i_alloc rfl ?_ | refine i_box rfl rfl ?_ | refine c_cond rfl (fun h => ?_) (fun h => ?_) | refine sf rfl rfl hB ?_ | refine sf rfl rfl hH ?_ | refine c_frzb rfl rfl rfl ?_)
      all_goals first
        | exact e_ret ⟨rfl, _, rfl, rfl⟩
        | (exfalso; clear hB hH; simp_all; done)
    rw [if_neg k2]
    by_cases k3 : n.kind = 3
    · rw [if_pos k3]
      unfold leafCode at hlf
      rw [if_neg k2, if_pos k3] at hlf
      have hb : badArg d ps n.left = false ∧ badArg d ps n.right = false := by
        split at hlf
        · cases hlf
        · rename_i h; simpa using h
      simp only [badArg, Bool.or_eq_false_iff, decide_eq_false_iff_not] at hb
      have hL := f_condition_value args (by omega) n.left (by have := ha.1; omega)
      have hR := f_condition_value args (by omega) n.right (by have := ha.1; omega)
      generalize objA args n.left = u at *
      generalize objA args n.right = w at *
      clear hd ho hlo ih hst hkids hkid hno ok
      refine Fn.step mixed k_condition_evaluator_eval ?_
      repeat' (first | refine i_s rfl ?_ | refine sw ?_ | refine jd rfl rfl ?_ | refine i_stb rfl ?_ | refine i_alloc rfl ?_ | refine i_box rfl rfl ?_ | refine c_cond rfl (fun h => ?_) (fun h => ?_) | refine sf rfl rfl hL ?_ | refine sf rfl rfl hR ?_ | refine c_frzb rfl rfl rfl ?_)
      all_goals first
        | exact e_ret ⟨rfl, _, rfl, rfl⟩
        | (exfalso; clear hL hR; simp_all; done)
    rw [if_neg k3]
    by_cases k4 : n.kind = 4
    · rw [if_pos k4]
      obtain ⟨k, hch⟩ := arity_one ok (.inl k4)
      obtain ⟨a', _, x0, x1, _, hs⟩ := hkid k (by rw [hch]; simp)
      rw [hown (by unfold quantK; simp [k4]), List.append_nil] at hs
      have hE := ih k.toNat (by omega) a' ps args hs hps ha
      have e0 : ch0 n = k.toNat := by unfold ch0; rw [hch]; rfl
      rw [show ((k.toNat : Nat) : Int) = k from by omega, ← e0] at hE
      generalize tru d c.nodes l (ch0 n) args = b at *
      have hk0 : [k][(0 : Int).toNat]? = some k := rfl
      rw [← hch] at hk0
      clear hd ho hlo ih hst hkids hkid hno ok hs
      refine Fn.step mixed k_condition_evaluator_eval ?_
      repeat' (first | refine i_s rfl ?_ | refine sw ?_ | refine jd rfl rfl ?_ | refine i_stb rfl ?_ | refine i_alloc rfl ?_ | refine i_box rfl rfl ?_ | refine c_cond rfl (fun h => ?_) (fun h => ?_) | refine sf rfl rfl hE ?_ | refine c_frzb rfl rfl rfl ?_)
      all_goals first
        | exact e_ret ⟨rfl, _, rfl, rfl⟩
        | (exfalso; clear hE; simp_all; done)
    rw [if_neg k4]
    by_cases k56 : n.kind = 5 ∨ n.kind = 6
    · rw [hown (by unfold quantK; rcases k56 with h | h <;> simp [h])] at hkid
      simp only [List.append_nil] at hkid
      have hC := fun want => f_ContainsFunc_int n.ch (fun k => tru d c.nodes l k.toNat args == want) 90 [.cptr .p (.cptr .p (evV d c l) 0) 0, .cptr .p (.sl .p (args.map i64V)) 0, .cptr .p (.bool want) 0] (by omega) (fun _ _ => rfl) rfl (fun k hk => by
        obtain ⟨a', _, x0, x1, _, hs⟩ := hkid k hk
        have hE := ih k.toNat (by omega) a' ps args hs hps ha
        rw [show ((k.toNat : Nat) : Int) = k from by omega] at hE
        exact f_eval_1_1 d c l args want k _ hE)
      by_cases k5 : n.kind = 5
      · rw [if_pos k5]
        have hc := hC false
        rw [all_any_f]
        generalize (n.ch.any fun k => tru d c.nodes l k.toNat args == false) = b at *
        clear hd ho hlo ih hst hkids hkid hno ok hC
        refine Fn.step mixed k_condition_evaluator_eval ?_
        repeat' (first | refine i_s rfl ?_ | refine sw ?_ | refine jd rfl rfl ?_ | refine i_stb rfl ?_ | refine i_alloc rfl ?_ | refine i_box rfl rfl ?_ | refine c_cond rfl (fun h => ?_) (fun h => ?_) | refine sf rfl rfl (f_eval_1 _ _ _) ?_ | refine sf rfl rfl hc ?_ | refine c_frzb rfl rfl rfl ?_)
        all_goals first
          | exact e_ret ⟨rfl, _, rfl, rfl⟩
          | (exfalso; clear hc; simp_all; done)
      · have k6 : n.kind = 6 := by omega
        rw [if_neg k5, if_pos k6]
        have hc := hC true
        rw [any_t] at hc
        generalize (n.ch.any fun k => tru d c.nodes l k.toNat args) = b at *
        clear hd ho hlo ih hst hkids hkid hno ok hC
        refine Fn.step mixed k_condition_evaluator_eval ?_
        repeat' (first | refine i_s rfl ?_ | refine sw ?_ | refine jd rfl rfl ?_ | refine i_stb rfl ?_ | refine i_alloc rfl ?_ | refine i_box rfl rfl ?_ | refine c_cond rfl (fun h => ?_) (fun h => ?_) | refine sf rfl rfl (f_eval_1 _ _ _) ?_ | refine sf rfl rfl hc ?_ | refine c_frzb rfl rfl rfl ?_)
        all_goals first
          | exact e_ret ⟨rfl, _, rfl, rfl⟩
          | (exfalso; clear hc; simp_all; done)
    rw [if_neg (by omega), if_neg (by omega)]
    by_cases k78 : n.kind = 7 ∨ n.kind = 8
    · have hqk : quantK n.kind = true := by unfold quantK; rcases k78 with h | h <;> simp [h]
      obtain ⟨k, hch⟩ := arity_one ok (.inr k78)
      obtain ⟨a', _, x0, x1, _, hs⟩ := hkid k (by rw [hch]; simp)
      have e0 : ch0 n = k.toNat := by unfold ch0; rw [hch]; rfl
      have how : ownC n = [n.type] := by unfold ownC; rw [if_pos hqk]
      rw [how] at hs
      have hp5 : ps.length < 6 := by
        unfold quCode at hqu
        rw [hqk, if_neg (by simp)] at hqu
        split at hqu
        · cases hqu
        · split at hqu
          · cases hqu
          · omega
      have hEach := fun want => f_each d hd c l n k hch args (by omega) want (fun o => tru d c.nodes l (ch0 n) (args ++ [o])) (fun o hom => by
        have hr := mem_rng hom
        have hE := ih k.toNat (by omega) a' _ (args ++ [o]) hs (by simp; omega) (ha.snoc hr.1 hr.2)
        rw [show ((k.toNat : Nat) : Int) = k from by omega, ← e0] at hE
        exact hE)
      by_cases k7 : n.kind = 7
      · rw [if_pos k7]
        have hc := hEach false
        rw [any_all_f]
        generalize ((membersOf d.types d.objects n.type).all fun o => tru d c.nodes l (ch0 n) (args ++ [o]) == false) = b at *
        clear hd ho hlo ih hst hkids hkid hno ok hEach hs
        refine Fn.step mixed k_condition_evaluator_eval ?_
        repeat' (first | refine i_s rfl ?_ | refine sw ?_ | refine jd rfl rfl ?_ | refine i_stb rfl ?_ | refine i_alloc rfl ?_ | refine i_box rfl rfl ?_ | refine c_cond rfl (fun h => ?_) (fun h => ?_) | refine sf rfl rfl hc ?_ | refine c_frzb rfl rfl rfl ?_)
        all_goals first
          | exact e_ret ⟨rfl, _, rfl, rfl⟩
          | (exfalso; clear hc; simp_all; done)
      · have k8 : n.kind = 8 := by omega
        rw [if_neg k7, if_pos k8]
        have hc := hEach true
        rw [all_t] at hc
        generalize ((membersOf d.types d.objects n.type).all fun o => tru d c.nodes l (ch0 n) (args ++ [o])) = b at *
        clear hd ho hlo ih hst hkids hkid hno ok hEach hs
        refine Fn.step mixed k_condition_evaluator_eval ?_
        repeat' (first | refine i_s rfl ?_ | refine sw ?_ | refine jd rfl rfl ?_ | refine i_stb rfl ?_ | refine i_alloc rfl ?_ | refine i_box rfl rfl ?_ | refine c_cond rfl (fun h => ?_) (fun h => ?_) | refine sf rfl rfl hc ?_ | refine c_frzb rfl rfl rfl ?_)
        all_goals first
          | exact e_ret ⟨rfl, _, rfl, rfl⟩
          | (exfalso; clear hc; simp_all; done)
    rw [if_neg (by omega), if_neg (by omega)]
    have k1 : n.kind = 1 := by omega
    clear hd ho hlo ih hst hkids hkid hno ok
    refine Fn.step mixed k_condition_evaluator_eval ?_
    repeat' (first | refine i_s rfl ?_ | refine sw ?_ | refine jd rfl rfl ?_ | refine i_stb rfl ?_ | refine i_alloc rfl ?_ | refine i_box rfl rfl ?_ | refine c_cond rfl (fun h => ?_) (fun h => ?_) | refine sf rfl rfl (f_eval_1 _ _ _) ?_ | refine c_frzb rfl rfl rfl ?_)
    all_goals first
      | exact e_ret ⟨rfl, _, rfl, rfl⟩
      | (exfalso; simp_all; done)
def evalFault (d : Dom) (c : Cnd) (l : List At) (args : List Int) : Flt := if condFault d c ≠ okF then condFault d c else if groundFault d l ≠ okF then groundFault d l else argsFault d c args
def evalB (d : Dom) (c : Cnd) (l : List At) (args : List Int) : Bool := decide (evalFault d c l args = okF) && tru d c.nodes l (c.nodes.length - 1) args
theorem CndV.pos {d : Dom} {c : Cnd} (h : CndV d c) : 0 < c.nodes.length := by have := h.tree.le.2 rfl; omega
theorem CndV.root {d : Dom} {c : Cnd} (h : CndV d c) : ST d c.nodes true 0 (c.nodes.length - 1 + 1) c.types [] := by
  have := h.pos
  rw [show c.nodes.length - 1 + 1 = c.nodes.length from by omega]
  exact h.tree
def c_condition_Eval : Cmd :=
 (qS [qx 4 896262 6 0, qx 5 896322 2 1, qx 6 896385 1 2, qb 8 false, qq 9 (.alloc 896578 (.agg [.int .i64 0, .int .i64 0]))]
 (qT (qS [qL 16 6 4, qL 17 2 5, qk 18 11 [16, 17], qq 10 (.alloc 896642 (.agg [.int .i64 0, .int .i64 0])), qs 2 10 18]
 (qS [qL 19 2 10, qq 20 (.build [.int .i64 0, .int .i64 0] []), qq 21 (.bin .neq true [.i, .i] (.t 19) (.t 20))]
 (.cond (.t 21) (.seq (.ops [qL 22 2 10, qb 8 false, qs 2 9 22]) .ret) .skip)))
 (qT (qS [ql 23 1 6, qn 24 23, qv 25 .gtr [] 24 400]
 (.cond (.t 25) (.seq (.ops [qq 26 (.build [.int .i64 0, .int .i64 0] [(0 , 1 , .c (.int .i64 2)), (1 , 1 , .c (.int .i64 (-11)))]), qb 8 false, qs 2 9 26]) .ret) .skip))
 (qT (qS [ql 27 1 6, qn 28 27, qc 29 0]
 (.block 0 (.loop (qS [qu 30 .lss [] 29 28]
 (qT (.cond (.t 30) .skip (.exit 0))
 (qT (.block 1 (qS [qi 31 2 27 29, qL 32 2 31, qq 12 (.alloc 896770 (.agg [.int .i64 0, .sl .nil []])), qs 2 12 32]
 (qS [qL 33 6 4, qL 34 2 12, qq 35 (.call .f (.c (.fn 41 [])) [.t 33, .c (.sl .nil []), .t 34]), qm 13 35]
 (qS [qm 36 13, qv 37 .neq [.i] 36 0]
 (.cond (.t 37) (.seq (.ops [qm 38 13, qq 39 (.build [.int .i64 0, .int .i64 0] [(0 , 1 , .t 38), (1 , 1 , .c (.int .i64 (-11)))]), qb 8 false, qs 2 9 39]) .ret) .skip)))))
 (.ops [qv 40 .add [] 29 1, qm 29 40])))))))
 (qT (qS [qL 41 6 4, qL 42 2 5, qm 43 3, qk 44 42 [41, 42, 43], qq 14 (.alloc 896898 (.agg [.int .i64 0, .int .i64 0])), qs 2 14 44]
 (qS [qL 45 2 14, qq 46 (.build [.int .i64 0, .int .i64 0] []), qq 47 (.bin .neq true [.i, .i] (.t 45) (.t 46))]
 (.cond (.t 47) (.seq (.ops [qL 48 2 14, qb 8 false, qs 2 9 48]) .ret) .skip)))
 (qS [qL 49 6 4, qL 50 2 5, qq 51 (.mkfn 43 [.t 6]), qq 52 (.build [.sl .nil [], .sl .nil [], .sl .nil [], .sl .nil [], .sl .nil [], .sl .nil [], .sl .nil [], .sl .nil [], .nilfn] [(0 , 6 , .t 49), (6 , 2 , .t 50), (8 , 1 , .t 51)]), qx 53 899401 9 52, qm 15 53]
 (.seq (.ops [qm 54 15, qf 55 1 5, ql 56 1 55, qn 57 56, qv 58 .sub [] 57 1, qm 59 3, qk 60 47 [54, 58, 59], qq 61 (.build [.int .i64 0, .int .i64 0] []), qm 8 60, qs 2 9 61]) .ret)))))))
def r_condition_Eval : List RVar := [.tmp 8, .cell true 2 9]
def n_condition_Eval : Nat := 62
theorem k_condition_Eval : chkFn Go.Proofs.Tryz.prog 14 n_condition_Eval r_condition_Eval c_condition_Eval = true := by kernel_rfl
theorem f_condition_Eval (d : Dom) (hdo : DoOk d) (c : Cnd) (ho : CndOk c) (l : List At) (hl : l.length ≤ 140737488355328) (hlo : ∀ a ∈ l, AtOk a) (args : List Int) (hal : args.length ≤ 140737488355328) :
    Fc Go.Proofs.Tryz.prog 14 [domV d, cndV c, .sl .p (l.map atV), .sl .p (args.map i64V)] (.tup [.bool (evalB d c l args), ftV (evalFault d c l args)]) := by
  have hV := f_condition_Validate d hdo c ho
  by_cases t1 : condFault d c = okF
  · rw [t1] at hV
    have hcv := cndV_of t1
    have hdt := domTy hcv.dom
    obtain ⟨p1, p2⟩ := paramsCode_ok hcv.par
    by_cases t2 : groundFault d l = okF
    · have e : evalFault d c l args = argsFault d c args := by unfold evalFault; rw [if_neg (by simp [t1]), if_neg (by simp [t2])]
      have hA := f_condition_values d hdt c p1 args hal
      have t2' : atomsCode d [] l 400 = 0 := by
        unfold groundFault at t2
        split at t2
        · rename_i h; exact absurd (congrArg Flt.code t2) h
        · rename_i h; simpa using h
      have hl400 : l.length ≤ 400 ∧ ∀ x ∈ l, atomCode d [] x = 0 := by
        unfold atomsCode at t2'
        split at t2'
        · cases t2'
        · rename_i h; exact ⟨by omega, fnz_all t2'⟩
      have hB : evalB d c l args = (decide (argsFault d c args = okF) && tru d c.nodes l (c.nodes.length - 1) args) := by unfold evalB; rw [e]
      rw [hB, e]
      refine Fn.step mixed k_condition_Eval ?_
      repeat' (first | refine i_len rfl ?_ | refine i_s rfl ?_ | refine sw ?_ | refine c_f rfl ?_ | refine i_stb rfl ?_ | refine i_alloc rfl ?_ | refine i_box rfl rfl ?_ | refine c_cond rfl (fun h => ?_) (fun h => ?_) | refine sf rfl rfl hV ?_ | fail)
      all_goals first
        | (exfalso; clear hV hA; simp [okF] at *; done)
        | (exfalso; clear hV hA; simp at *; done)
        | (exfalso; clear hV hA; simp at *; omega)
        | skip
      clear hV
      refine c_for l.length (fun i => [(3, .sl .p (args.map i64V)), (4, .bptr 896262 0), (5, .bptr 896322 0), (6, .bptr 896385 0), (9, .bptr 896578 0), (27, .sl .p (l.map atV)), (28, .int .i64 l.length), (29, .int .i64 i)])
        (fun _ => [(896262, .box (domV d)), (896322, .box (cndV c)), (896385, .box (.sl .p (l.map atV))), (896578, .box (ftV okF))]) (fun _ => True) trivial ft fun i hi _ => ?_
      by_cases hlt : i < l.length
      · obtain ⟨a, ha⟩ := get_some hlt
        have hD := f_domain_Atom d hdt [] PsOk_nil a (hlo a (mem_get ha))
        rw [hl400.2 a (mem_get ha)] at hD
        clear hA hdo ho hlo hl400 hcv hdt t1 t2 e hB
        repeat' (first | refine i_s rfl ?_ | refine sw ?_ | refine c_f rfl ?_ | refine ja rfl rfl ?_ | refine jd rfl rfl ?_ | refine i_stb rfl ?_ | refine i_alloc rfl ?_ | refine c_cond rfl (fun h => ?_) (fun h => ?_) | refine sf rfl rfl hD ?_ | fail)
        all_goals first
          | (exact e_for hlt trivial ft)
          | (exfalso; clear hD; simp at *; done)
          | (exfalso; clear hD; simp at *; omega)
      · have hge : i = l.length := by omega
        subst hge
        by_cases t3 : argsFault d c args = okF
        · rw [t3] at hA
          have hok := argsFault_ok t3
          have hE := f_eval d hdt c ho l hl hlo (c.nodes.length - 1) 0 c.types args hcv.root (by omega) hok
          have hpos := hcv.pos
          have h30 := hcv.len
          rw [show ((c.nodes.length - 1 : Nat) : Int) = (c.nodes.length : Int) - 1 from by omega] at hE
          rw [decide_eq_true t3, Bool.true_and, t3]
          generalize tru d c.nodes l (c.nodes.length - 1) args = b at *
          clear hdo ho hlo hl400 hcv hdt t1 t2 e hB t3
          repeat' (first | refine i_len rfl ?_ | refine i_s rfl ?_ | refine sw ?_ | refine c_f rfl ?_ | refine jb rfl rfl ?_ | refine i_stb rfl ?_ | refine i_alloc rfl ?_ | refine i_box rfl rfl ?_ | refine c_cond rfl (fun h => ?_) (fun h => ?_) | refine sf rfl rfl hA ?_ | refine sf rfl rfl hE ?_ | fail)
          all_goals first
            | exact e_ret ⟨rfl, _, rfl, rfl⟩
            | (exfalso; clear hA hE; simp [okF] at *; done)
            | (exfalso; clear hA hE; simp at *; done)
            | (exfalso; clear hA hE; simp at *; omega)
        · rw [decide_eq_false t3, Bool.false_and]
          clear hdo ho hlo hl400 hcv hdt t1 t2 e hB
          repeat' (first | refine i_len rfl ?_ | refine i_s rfl ?_ | refine sw ?_ | refine i_stb rfl ?_ | refine i_alloc rfl ?_ | refine i_box rfl rfl ?_ | refine c_cond rfl (fun h => ?_) (fun h => ?_) | refine sf rfl rfl hA ?_ | fail)
          all_goals first
            | exact e_ret ⟨rfl, _, rfl, rfl⟩
            | exact absurd (eq_ok (by assumption)) t3
            | (exfalso; clear hA; simp at *; done)
            | (exfalso; clear hA; simp at *; omega)
    · have e : evalFault d c l args = groundFault d l := by unfold evalFault; rw [if_neg (by simp [t1]), if_pos t2]
      have hB : evalB d c l args = false := by unfold evalB; rw [e, decide_eq_false t2]; rfl
      rw [hB, e]
      unfold groundFault at t2 ⊢
      have t2' : atomsCode d [] l 400 ≠ 0 := by
        intro h
        exact t2 (by rw [if_neg (by simp [h])])
      rw [if_pos t2']
      unfold atomsCode at t2' ⊢
      clear t2 e hB
      by_cases big : l.length > 400
      · rw [if_pos big]
        clear t2' hdo ho hlo hcv hdt t1
        refine Fn.step mixed k_condition_Eval ?_
        repeat' (first | refine i_len rfl ?_ | refine i_s rfl ?_ | refine sw ?_ | refine c_f rfl ?_ | refine i_stb rfl ?_ | refine i_alloc rfl ?_ | refine i_box rfl rfl ?_ | refine c_cond rfl (fun h => ?_) (fun h => ?_) | refine sf rfl rfl hV ?_ | fail)
        all_goals first
          | exact e_ret ⟨rfl, _, rfl, rfl⟩
          | (exfalso; clear hV; simp [okF] at *; done)
          | (exfalso; clear hV; simp at *; done)
          | (exfalso; clear hV; simp at *; omega)
      · rw [if_neg big] at t2' ⊢
        refine Fn.step mixed k_condition_Eval ?_
        repeat' (first | refine i_len rfl ?_ | refine i_s rfl ?_ | refine sw ?_ | refine c_f rfl ?_ | refine i_stb rfl ?_ | refine i_alloc rfl ?_ | refine i_box rfl rfl ?_ | refine c_cond rfl (fun h => ?_) (fun h => ?_) | refine sf rfl rfl hV ?_ | fail)
        all_goals first
          | (exfalso; clear hV; simp [okF] at *; done)
          | (exfalso; clear hV; simp at *; done)
          | (exfalso; clear hV; simp at *; omega)
          | skip
        clear hV
        refine c_for l.length (fun i => [(3, .sl .p (args.map i64V)), (4, .bptr 896262 0), (5, .bptr 896322 0), (6, .bptr 896385 0), (9, .bptr 896578 0), (27, .sl .p (l.map atV)), (28, .int .i64 l.length), (29, .int .i64 i)])
          (fun _ => [(896262, .box (domV d)), (896322, .box (cndV c)), (896385, .box (.sl .p (l.map atV))), (896578, .box (ftV okF))]) (fun i => ∀ j, j < i → ∀ x, l[j]? = some x → atomCode d [] x = 0) (fun j hj => absurd hj (by omega)) ft fun i hi hall => ?_
        by_cases hlt : i < l.length
        · obtain ⟨a, ha⟩ := get_some hlt
          have hD := f_domain_Atom d hdt [] PsOk_nil a (hlo a (mem_get ha))
          by_cases z : atomCode d [] a = 0
          · rw [z] at hD
            clear hdo ho hlo hcv hdt t1 t2'
            repeat' (first | refine i_s rfl ?_ | refine sw ?_ | refine c_f rfl ?_ | refine ja rfl rfl ?_ | refine jd rfl rfl ?_ | refine i_stb rfl ?_ | refine i_alloc rfl ?_ | refine c_cond rfl (fun h => ?_) (fun h => ?_) | refine sf rfl rfl hD ?_ | fail)
            all_goals first
              | (exact e_for hlt (fun j hj x hx => (by
                  by_cases e : j = i
                  · subst e; rw [ha] at hx; cases hx; exact z
                  · exact hall j (by omega) x hx)) ft)
              | (exfalso; clear hD hall; simp at *; done)
              | (exfalso; clear hD hall; simp at *; omega)
          · rw [fnz_hit hall ha z]
            clear hdo ho hlo hcv hdt t1 t2' hall
            generalize atomCode d [] a = e at *
            repeat' (first | refine i_s rfl ?_ | refine sw ?_ | refine ja rfl rfl ?_ | refine jd rfl rfl ?_ | refine i_stb rfl ?_ | refine i_alloc rfl ?_ | refine c_cond rfl (fun h => ?_) (fun h => ?_) | refine sf rfl rfl hD ?_ | fail)
            all_goals first
              | exact e_ret ⟨rfl, _, rfl, rfl⟩
              | (exfalso; clear hD; simp at *; done)
              | (exfalso; clear hD; simp at *; omega)
        · exact absurd (fnz_ok fun j hj x hx => hall j (by omega) x hx) t2'
  · have e : evalFault d c l args = condFault d c := by unfold evalFault; rw [if_pos t1]
    have hB : evalB d c l args = false := by unfold evalB; rw [e, decide_eq_false t1]; rfl
    rw [hB, e]
    clear e hB hdo ho hlo
    refine Fn.step mixed k_condition_Eval ?_
    repeat' (first | refine i_len rfl ?_ | refine i_s rfl ?_ | refine sw ?_ | refine i_stb rfl ?_ | refine i_alloc rfl ?_ | refine i_box rfl rfl ?_ | refine c_cond rfl (fun h => ?_) (fun h => ?_) | refine sf rfl rfl hV ?_ | fail)
    all_goals first
      | exact e_ret ⟨rfl, _, rfl, rfl⟩
      | exact absurd (eq_ok (by assumption)) t1
end Hm
end
