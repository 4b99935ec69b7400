/- Part YPA of the proof. -/
import Derived.Test.YtcafpbooikaahaaGreatYC
import Derived.Test.YtcafpbooikaahaaGreatProg
import Derived.ProofKit
set_option linter.unusedVariables false
set_option linter.unusedSimpArgs false
section
namespace Hm
open Go
theorem mixed : Go.Proofs.Tryz.prog.follows .mixedOrders = true := by kernel_rfl
end Hm
end
section
namespace Hm
open Go
set_option maxRecDepth 100000
set_option maxHeartbeats 1000000
def c_R1_Ints : Cmd :=
 (qS [qb 4 false]
 (qT (qS [qm 6 0, qn 7 6, qm 8 1, qn 9 8, qu 10 .neq [.i] 7 9]
 (.cond (.t 10) (.seq (.ops [qb 4 false]) .ret) .skip))
 (qT (qS [qc 5 0]
 (.block 0 (.loop (qT (qS [qm 11 5, qm 12 0, qn 13 12, qu 14 .lss [] 11 13]
 (.cond (.t 14) .skip (.exit 0)))
 (qT (.block 1 (qS [qm 17 0, qm 18 5, qi 19 1 17 18, ql 20 1 19, qm 21 1, qm 22 5, qi 23 1 21 22, ql 24 1 23, qu 25 .neq [.i] 20 24]
 (.cond (.t 25) (.seq (.ops [qb 4 false]) .ret) .skip)))
 (.ops [qm 15 5, qv 16 .add [] 15 1, qm 5 16]))))))
 (.seq (.ops [qb 4 true]) .ret))))
def r_R1_Ints : List RVar := [.tmp 4]
def n_R1_Ints : Nat := 26
theorem k_R1_Ints : chkFn Go.Proofs.Tryz.prog 50 n_R1_Ints r_R1_Ints c_R1_Ints = true := by kernel_rfl
theorem f_R1_Ints (xs ys : List Int) (hl : xs.length ≤ 140737488355328) : Fc Go.Proofs.Tryz.prog 50 [.sl .p (xs.map i64V), .sl .p (ys.map i64V)] (.bool (decide (xs = ys))) := by
  refine Fn.step mixed k_R1_Ints ?_
  repeat' (first | refine i_len rfl ?_ | refine i_s rfl ?_ | refine sw ?_ | refine c_cond rfl (fun h => ?_) (fun h => ?_))
  · have e : xs.length ≠ ys.length := by simp at h; omega
    refine e_ret ⟨rfl, _, rfl, congrArg V.bool (decide_eq_false fun e' => e (by rw [e']))⟩
  have e : xs.length = ys.length := by simp at h; omega
  refine c_for xs.length (fun k => [(0, .sl .p (xs.map i64V)), (1, .sl .p (ys.map i64V)), (5, .int .i64 k)]) (fun _ => []) (fun k => xs.take k = ys.take k) (by simp) ft fun k hk hi => ?_
  repeat (first | refine i_len rfl ?_ | refine i_s rfl ?_ | refine sw ?_)
  refine c_cond rfl (fun h => ?_) (fun h => ?_)
  · have hlt : k < xs.length := by simpa using h
    obtain ⟨c, hc⟩ := get_some hlt
    obtain ⟨c', hc'⟩ := get_some (e ▸ hlt)
    repeat' (first | refine i_s rfl ?_ | refine sw ?_ | refine ja rfl rfl ?_ | refine jd rfl rfl ?_ | refine c_cond rfl (fun h => ?_) (fun h => ?_))
    · refine e_ret ⟨rfl, _, rfl, congrArg V.bool (decide_eq_false fun e' => ?_)⟩
      subst e'
      rw [hc] at hc'
      cases hc'
      simp at h
    · refine e_for hlt ?_ ft
      have e : c = c' := by simpa using h
      rw [take_succ_get hc, take_succ_get hc', hi, e]
  · have hge : ¬ k < xs.length := by simpa using h
    rw [List.take_of_length_le (by omega), List.take_of_length_le (by omega)] at hi
    repeat' (first | refine i_s rfl ?_ | refine sw ?_ | fail)
    exact e_ret ⟨rfl, _, rfl, congrArg V.bool (decide_eq_true hi)⟩
end Hm
end
section
namespace Hm
open Go
set_option maxRecDepth 100000
set_option maxHeartbeats 4000000
def c_cmp_isNaN_int : Cmd :=
 (qS [qb 2 false]
 (.seq (.ops [qm 3 0, qm 4 0, qu 5 .neq [.i] 3 4, qm 2 5]) .ret))
def r_cmp_isNaN_int : List RVar := [.tmp 2]
def n_cmp_isNaN_int : Nat := 6
theorem k_cmp_isNaN_int : chkFn Go.Proofs.Tryz.prog 150 n_cmp_isNaN_int r_cmp_isNaN_int c_cmp_isNaN_int = true := by kernel_rfl
theorem f_isNaN_int (a : Int) : Fc Go.Proofs.Tryz.prog 150 [.int .i64 a] (.bool false) := by
  refine Fn.step mixed k_cmp_isNaN_int ?_
  repeat' (first | refine i_s rfl ?_ | refine sw ?_ | fail)
  all_goals first
    | exact e_ret ⟨rfl, _, rfl, congrArg V.bool (by simp)⟩
def c_cmp_Compare_int : Cmd :=
 (qS [qc 4 0]
 (qS [qm 7 0, qk 8 150 [7], qm 5 8]
 (qS [qm 9 1, qk 10 150 [9], qm 6 10]
 (qT (qS [qm 11 5]
 (.cond (.t 11) (qT (qS [qm 12 6]
 (.cond (.t 12) (.seq (.ops [qc 4 0]) .ret) .skip))
 (.seq (.ops [qc 4 (-1)]) .ret)) .skip))
 (qT (qS [qm 13 6]
 (.cond (.t 13) (.seq (.ops [qc 4 1]) .ret) .skip))
 (qT (qS [qm 14 0, qm 15 1, qu 16 .lss [] 14 15]
 (.cond (.t 16) (.seq (.ops [qc 4 (-1)]) .ret) .skip))
 (qT (qS [qm 17 0, qm 18 1, qu 19 .gtr [] 17 18]
 (.cond (.t 19) (.seq (.ops [qc 4 1]) .ret) .skip))
 (.seq (.ops [qc 4 0]) .ret))))))))
def r_cmp_Compare_int : List RVar := [.tmp 4]
def n_cmp_Compare_int : Nat := 20
theorem k_cmp_Compare_int : chkFn Go.Proofs.Tryz.prog 131 n_cmp_Compare_int r_cmp_Compare_int c_cmp_Compare_int = true := by kernel_rfl
theorem f_Compare_int (a b : Int) : Fc Go.Proofs.Tryz.prog 131 [.int .i64 a, .int .i64 b] (.int .i64 (signI a b)) := by
  refine Fn.step mixed k_cmp_Compare_int ?_
  repeat' (first | refine i_s rfl ?_ | refine sw ?_ | refine c_f rfl ?_ | refine c_cond rfl (fun h => ?_) (fun h => ?_) | refine sf rfl rfl (f_isNaN_int a) ?_ | refine sf rfl rfl (f_isNaN_int b) ?_ | fail)
  all_goals first
    | (exfalso; simp at *; done)
    | (refine e_ret ⟨rfl, _, rfl, congrArg (V.int .i64) ?_⟩; unfold signI; simp at *; (repeat' split) <;> omega)
def c_cmp_Or_int : Cmd :=
 (qS [qc 2 0]
 (qS [qc 3 0]
 (qT (qS [qm 6 0, qn 7 6, qc 8 0]
 (.block 0 (.loop (qS [qu 9 .lss [] 8 7]
 (qT (.cond (.t 9) .skip (.exit 0))
 (qT (.block 1 (qS [qi 10 1 6 8, ql 11 1 10, qm 5 11]
 (qS [qm 12 5, qm 13 3, qu 14 .neq [.i] 12 13]
 (.cond (.t 14) (.seq (.ops [qm 15 5, qm 2 15]) .ret) .skip))))
 (.ops [qv 16 .add [] 8 1, qm 8 16])))))))
 (.seq (.ops [qm 17 3, qm 2 17]) .ret))))
def r_cmp_Or_int : List RVar := [.tmp 2]
def n_cmp_Or_int : Nat := 18
theorem k_cmp_Or_int : chkFn Go.Proofs.Tryz.prog 130 n_cmp_Or_int r_cmp_Or_int c_cmp_Or_int = true := by kernel_rfl
theorem f_Or2 (a b : Int) : Fc Go.Proofs.Tryz.prog 130 [.sl .p ([a, b].map i64V)] (.int .i64 (if a ≠ 0 then a else b)) := by
  refine Fn.step mixed k_cmp_Or_int ?_
  repeat' (first | refine i_len rfl ?_ | refine i_s rfl ?_ | refine sw ?_ | fail)
  refine c_for 2 (fun k => [(6, .sl .p ([a, b].map i64V)), (7, .int .i64 2), (3, .int .i64 0), (8, .int .i64 k)]) (fun _ => []) (fun k => 0 < k → a = 0 ∧ (1 < k → b = 0)) (by simp) ft fun k hk hi => ?_
  have ha : ([a, b] : List Int)[0]? = some a := rfl
  have hb : ([a, b] : List Int)[1]? = some b := rfl
  have hk3 : k = 0 ∨ k = 1 ∨ k = 2 := by omega
  rcases hk3 with rfl | rfl | rfl
  · clear hi
    by_cases h0 : a = 0
    · repeat' (first | refine i_s rfl ?_ | refine sw ?_ | refine c_t rfl ?_ | refine ja rfl rfl ?_ | refine jd rfl rfl ?_ | refine c_cond rfl (fun h => ?_) (fun h => ?_))
      all_goals first
        | (exfalso; simp_all; done)
        | (exact e_for (by omega) (fun _ => ⟨h0, fun h => by omega⟩) ft)
    · rw [if_pos h0]
      repeat' (first | refine i_s rfl ?_ | refine sw ?_ | refine c_t rfl ?_ | refine ja rfl rfl ?_ | refine jd rfl rfl ?_ | refine c_cond rfl (fun h => ?_) (fun h => ?_))
      all_goals first
        | exact e_ret ⟨rfl, _, rfl, rfl⟩
        | (exfalso; simp_all; done)
  · obtain ⟨h0, _⟩ := hi (by omega)
    rw [if_neg (by simp [h0])]
    clear hi
    by_cases h1 : b = 0
    · repeat' (first | refine i_s rfl ?_ | refine sw ?_ | refine c_t rfl ?_ | refine ja rfl rfl ?_ | refine jd rfl rfl ?_ | refine c_cond rfl (fun h => ?_) (fun h => ?_))
      all_goals first
        | (exfalso; simp_all; done)
        | (exact e_for (by omega) (fun _ => ⟨h0, fun h => h1⟩) ft)
    · repeat' (first | refine i_s rfl ?_ | refine sw ?_ | refine c_t rfl ?_ | refine ja rfl rfl ?_ | refine jd rfl rfl ?_ | refine c_cond rfl (fun h => ?_) (fun h => ?_))
      all_goals first
        | exact e_ret ⟨rfl, _, rfl, rfl⟩
        | (exfalso; simp_all; done)
  · obtain ⟨h0, h1⟩ := hi (by omega)
    have h1 := h1 (by omega)
    subst h0
    subst h1
    clear hi
    repeat' (first | refine i_s rfl ?_ | refine sw ?_ | refine c_f rfl ?_)
    all_goals first
      | exact e_ret ⟨rfl, _, rfl, rfl⟩
      | (exfalso; simp_all; done)
def c_slices_Compare_int : Cmd :=
 (qS [qc 4 0]
 (qT (qS [qm 9 0, qn 10 9, qc 11 0]
 (.block 0 (.loop (qS [qu 12 .lss [] 11 10]
 (qT (.cond (.t 12) .skip (.exit 0))
 (qT (.block 1 (qS [qm 13 11, qi 14 1 9 11, ql 15 1 14, qm 5 13, qm 6 15]
 (qT (qS [qm 16 5, qm 17 1, qn 18 17, qu 19 .geq [] 16 18]
 (.cond (.t 19) (.seq (.ops [qc 4 1]) .ret) .skip))
 (qS [qm 20 1, qm 21 5, qi 22 1 20 21, ql 23 1 22, qm 7 23]
 (qS [qm 24 6, qm 25 7, qk 26 131 [24, 25], qm 8 26]
 (qS [qm 27 8, qv 28 .neq [.i] 27 0]
 (.cond (.t 28) (.seq (.ops [qm 29 8, qm 4 29]) .ret) .skip)))))))
 (.ops [qv 30 .add [] 11 1, qm 11 30])))))))
 (qT (qS [qm 31 0, qn 32 31, qm 33 1, qn 34 33, qu 35 .lss [] 32 34]
 (.cond (.t 35) (.seq (.ops [qc 4 (-1)]) .ret) .skip))
 (.seq (.ops [qc 4 0]) .ret))))
def r_slices_Compare_int : List RVar := [.tmp 4]
def n_slices_Compare_int : Nat := 36
theorem k_slices_Compare_int : chkFn Go.Proofs.Tryz.prog 142 n_slices_Compare_int r_slices_Compare_int c_slices_Compare_int = true := by kernel_rfl
theorem f_slices_Compare (a b : List Int) (ha : a.length ≤ 140737488355328) (hb : b.length ≤ 140737488355328) : Fc Go.Proofs.Tryz.prog 142 [.sl .p (a.map i64V), .sl .p (b.map i64V)] (.int .i64 (cmpL a b)) := by
  refine Fn.step mixed k_slices_Compare_int ?_
  repeat (first | refine i_len rfl ?_ | refine i_s rfl ?_ | refine sw ?_)
  refine c_for a.length (fun k => [(0, .sl .p (a.map i64V)), (1, .sl .p (b.map i64V)), (9, .sl .p (a.map i64V)), (10, .int .i64 a.length), (11, .int .i64 k)]) (fun _ => []) (fun k => k ≤ b.length ∧ a.take k = b.take k) (by simp) ft fun k hk hi => ?_
  obtain ⟨hkb, hi⟩ := hi
  repeat (first | refine i_s rfl ?_ | refine sw ?_)
  refine c_cond rfl (fun h => ?_) (fun h => ?_)
  · have hlt : k < a.length := by simpa using h
    obtain ⟨x, hx⟩ := get_some hlt
    clear h
    by_cases hk2 : k < b.length
    · obtain ⟨y, hy⟩ := get_some hk2
      by_cases hxy : x = y
      · have hz : signI x y = 0 := signI_zero.2 hxy
        have hs := f_Compare_int x y
        rw [hz] at hs
        repeat' (first | refine i_len rfl ?_ | refine i_s rfl ?_ | refine sw ?_ | refine c_f rfl ?_ | refine ja rfl rfl ?_ | refine jd rfl rfl ?_ | refine c_cond rfl (fun h => ?_) (fun h => ?_) | refine sf rfl rfl hs ?_ | fail)
        all_goals first
          | (exact e_for hlt ⟨hk2, by rw [take_succ_get hx, take_succ_get hy, hi, hxy]⟩ ft)
          | (exfalso; clear hs; simp at *; omega)
      · have hz : signI x y ≠ 0 := fun h => hxy (signI_zero.1 h)
        rw [cmpL_at hi hx hy hxy]
        have hs := f_Compare_int x y
        generalize signI x y = z at *
        repeat' (first | refine i_len rfl ?_ | refine i_s rfl ?_ | refine sw ?_ | refine ja rfl rfl ?_ | refine jd rfl rfl ?_ | refine c_cond rfl (fun h => ?_) (fun h => ?_) | refine sf rfl rfl hs ?_ | fail)
        all_goals first
          | exact e_ret ⟨rfl, _, rfl, rfl⟩
          | (exfalso; clear hs; simp at *; omega)
    · rw [cmpL_end hi (by omega) hkb (.inr (by omega))]
      have hz : signI a.length b.length = 1 := by unfold signI; rw [if_neg (by omega), if_pos (by omega)]
      rw [hz]
      repeat' (first | refine i_len rfl ?_ | refine i_s rfl ?_ | refine sw ?_ | refine jd rfl rfl ?_ | refine c_cond rfl (fun h => ?_) (fun h => ?_))
      all_goals first
        | exact e_ret ⟨rfl, _, rfl, rfl⟩
        | (exfalso; simp at *; omega)
  · have hge : ¬ k < a.length := by simpa using h
    clear h
    rw [cmpL_end hi (by omega) hkb (.inl (by omega))]
    repeat' (first | refine i_len rfl ?_ | refine i_s rfl ?_ | refine sw ?_ | refine c_cond rfl (fun h => ?_) (fun h => ?_))
    all_goals first
      | (refine e_ret ⟨rfl, _, rfl, congrArg (V.int .i64) ?_⟩; unfold signI; simp at *; (repeat' split) <;> omega)
def c_domain_Compare : Cmd :=
 (qS [qx 2 7552130 2 0, qx 3 7552194 2 1, qc 4 0]
 (.seq (.ops [qf 5 0 2, ql 6 1 5, qf 7 0 3, ql 8 1 7, qk 9 131 [6, 8], qf 10 1 2, ql 11 1 10, qf 12 1 3, ql 13 1 12, qk 14 142 [11, 13], qq 15 (.bsl 1 [.t 9, .t 14]), qk 16 130 [15], qm 4 16]) .ret))
def r_domain_Compare : List RVar := [.tmp 4]
def n_domain_Compare : Nat := 17
theorem k_domain_Compare : chkFn Go.Proofs.Tryz.prog 118 n_domain_Compare r_domain_Compare c_domain_Compare = true := by kernel_rfl
theorem f_domain_Compare (a b : At) (ha : AtOk a) (hb : AtOk b) : Fc Go.Proofs.Tryz.prog 118 [atV a, atV b] (.int .i64 (atomOrd a b)) := by
  have h1 := f_Compare_int a.pred b.pred
  have h2 := f_slices_Compare a.args b.args (by have := ha.len; omega) (by have := hb.len; omega)
  have h3 := f_Or2 (signI a.pred b.pred) (cmpL a.args b.args)
  have e : atomOrd a b = if signI a.pred b.pred ≠ 0 then signI a.pred b.pred else cmpL a.args b.args := by
    unfold atomOrd
    by_cases h : a.pred = b.pred
    · rw [if_pos h, if_neg (by simp [signI_zero.2 h])]
    · rw [if_neg h, if_pos (fun e => h (signI_zero.1 e))]
  rw [e]
  refine Fn.step mixed k_domain_Compare ?_
  repeat' (first | refine i_s rfl ?_ | refine sw ?_ | refine i_box rfl rfl ?_ | refine sf rfl rfl h1 ?_ | refine sf rfl rfl h2 ?_ | refine sf rfl rfl h3 ?_ | fail)
  exact e_ret ⟨rfl, _, rfl, rfl⟩
def c_slices_IndexFunc_int : Cmd :=
 (qS [qc 4 0]
 (qT (qS [qm 6 0, qn 7 6, qc 8 0]
 (.block 0 (.loop (qS [qu 9 .lss [] 8 7]
 (qT (.cond (.t 9) .skip (.exit 0))
 (qT (.block 1 (qS [qm 10 8, qm 5 10]
 (qS [qm 11 1, qm 12 0, qm 13 5, qi 14 1 12 13, ql 15 1 14, qq 16 (.call .f (.t 11) [.t 15])]
 (.cond (.t 16) (.seq (.ops [qm 17 5, qm 4 17]) .ret) .skip))))
 (.ops [qv 18 .add [] 8 1, qm 8 18])))))))
 (.seq (.ops [qc 4 (-1)]) .ret)))
def r_slices_IndexFunc_int : List RVar := [.tmp 4]
def n_slices_IndexFunc_int : Nat := 19
theorem k_slices_IndexFunc_int : chkFn Go.Proofs.Tryz.prog 94 n_slices_IndexFunc_int r_slices_IndexFunc_int c_slices_IndexFunc_int = true := by kernel_rfl
theorem f_IndexFunc_int (l : List (Int)) (p : Int → Bool) (fid : Nat) (caps : List V) (hl : l.length ≤ 140737488355328) (he : ∀ σ n, caps.map (er σ (n + 1)) = caps) (hc : closedL [] caps = true) (hp : ∀ t ∈ l, Fc Go.Proofs.Tryz.prog fid (i64V t :: caps) (.bool (p t))) :
    Fc Go.Proofs.Tryz.prog 94 [.sl .p (l.map i64V), .fn fid caps] (.int .i64 (fidx p l)) := by
  refine Fn.step mixed k_slices_IndexFunc_int ?_
  repeat (first | refine i_len rfl ?_ | refine i_s rfl ?_ | refine sw ?_)
  refine c_for l.length (fun k => [(0, .sl .p (l.map i64V)), (1, .fn fid caps), (7, .int .i64 l.length), (8, .int .i64 k)]) (fun _ => []) (fun k => ∀ j, j < k → ∀ c, l[j]? = some c → p c = false) all_zero ?_ fun k hk hi => ?_
  · exact ⟨⟨rfl, rfl, rfl, rfl, trivial⟩, trivial, by simp [fitB, closedE, closedB, hc, closedSt, hasAll]⟩
  repeat (first | refine i_s rfl ?_ | refine sw ?_)
  refine c_cond rfl (fun h => ?_) (fun h => ?_)
  · have hlt : k < l.length := by simpa using h
    obtain ⟨c, hget⟩ := get_some hlt
    repeat (first | refine i_s rfl ?_ | refine sw ?_ | refine jd rfl rfl ?_)
    refine i_f rfl (congrArg (i64V c :: ·) (he _ 5)) (hp c (mem_get hget)) rfl ?_
    repeat' (first | refine i_s rfl ?_ | refine sw ?_ | refine ja rfl rfl ?_ | refine c_cond rfl (fun h => ?_) (fun h => ?_))
    · refine e_ret ⟨rfl, _, rfl, congrArg (V.int .i64) (fidx_hit hi hget h)⟩
    · refine e_for hlt (all_succ hi fun c' hc' => ?_) ⟨⟨rfl, rfl, rfl, rfl, trivial⟩, trivial, by simp [fitB, closedE, closedB, hc, closedSt, hasAll]⟩
      rw [hget] at hc'; cases hc'; exact h
  · have hge : ¬ k < l.length := by simpa using h
    repeat' (first | refine i_s rfl ?_ | refine sw ?_ | fail)
    refine e_ret ⟨rfl, _, rfl, congrArg (V.int .i64) (fidx_none fun j hj => hi j (by omega))⟩
def c_slices_ContainsFunc_int : Cmd :=
 (qS [qb 4 false]
 (.seq (.ops [qm 5 0, qm 6 1, qk 7 94 [5, 6], qv 8 .geq [] 7 0, qm 4 8]) .ret))
def r_slices_ContainsFunc_int : List RVar := [.tmp 4]
def n_slices_ContainsFunc_int : Nat := 9
theorem k_slices_ContainsFunc_int : chkFn Go.Proofs.Tryz.prog 44 n_slices_ContainsFunc_int r_slices_ContainsFunc_int c_slices_ContainsFunc_int = true := by kernel_rfl
theorem f_ContainsFunc_int (l : List (Int)) (p : Int → Bool) (fid : Nat) (caps : List V) (hl : l.length ≤ 140737488355328) (he : ∀ σ n, caps.map (er σ (n + 1)) = caps) (hc : closedL [] caps = true) (hp : ∀ t ∈ l, Fc Go.Proofs.Tryz.prog fid (i64V t :: caps) (.bool (p t))) :
    Fc Go.Proofs.Tryz.prog 44 [.sl .p (l.map i64V), .fn fid caps] (.bool (l.any p)) := by
  refine Fn.step mixed k_slices_ContainsFunc_int ?_
  repeat (first | refine i_s rfl ?_ | refine sw ?_)
  refine i_f rfl (congrArg (fun x => [V.sl .p (l.map i64V), .fn fid x]) (he _ 4)) (f_IndexFunc_int l p fid caps hl he hc hp) rfl ?_
  repeat' (first | refine i_s rfl ?_ | refine sw ?_ | fail)
  refine e_ret ⟨rfl, _, rfl, congrArg V.bool (fidx_any p l).symm⟩
def c_slices_IndexFunc_Predicate : Cmd :=
 (qS [qc 4 0]
 (qT (qS [qm 6 0, qn 7 6, qc 8 0]
 (.block 0 (.loop (qS [qu 9 .lss [] 8 7]
 (qT (.cond (.t 9) .skip (.exit 0))
 (qT (.block 1 (qS [qm 10 8, qm 5 10]
 (qS [qm 11 1, qm 12 0, qm 13 5, qi 14 2 12 13, qL 15 2 14, qq 16 (.call .f (.t 11) [.t 15])]
 (.cond (.t 16) (.seq (.ops [qm 17 5, qm 4 17]) .ret) .skip))))
 (.ops [qv 18 .add [] 8 1, qm 8 18])))))))
 (.seq (.ops [qc 4 (-1)]) .ret)))
def r_slices_IndexFunc_Predicate : List RVar := [.tmp 4]
def n_slices_IndexFunc_Predicate : Nat := 19
theorem k_slices_IndexFunc_Predicate : chkFn Go.Proofs.Tryz.prog 137 n_slices_IndexFunc_Predicate r_slices_IndexFunc_Predicate c_slices_IndexFunc_Predicate = true := by kernel_rfl
theorem f_IndexFunc_Predicate (l : List (Prd)) (p : Prd → Bool) (fid : Nat) (caps : List V) (hl : l.length ≤ 140737488355328) (he : ∀ σ n, caps.map (er σ (n + 1)) = caps) (hc : closedL [] caps = true) (hp : ∀ t ∈ l, Fc Go.Proofs.Tryz.prog fid (prdV t :: caps) (.bool (p t))) :
    Fc Go.Proofs.Tryz.prog 137 [.sl .p (l.map prdV), .fn fid caps] (.int .i64 (fidx p l)) := by
  refine Fn.step mixed k_slices_IndexFunc_Predicate ?_
  repeat (first | refine i_len rfl ?_ | refine i_s rfl ?_ | refine sw ?_)
  refine c_for l.length (fun k => [(0, .sl .p (l.map prdV)), (1, .fn fid caps), (7, .int .i64 l.length), (8, .int .i64 k)]) (fun _ => []) (fun k => ∀ j, j < k → ∀ c, l[j]? = some c → p c = false) all_zero ?_ fun k hk hi => ?_
  · exact ⟨⟨rfl, rfl, rfl, rfl, trivial⟩, trivial, by simp [fitB, closedE, closedB, hc, closedSt, hasAll]⟩
  repeat (first | refine i_s rfl ?_ | refine sw ?_)
  refine c_cond rfl (fun h => ?_) (fun h => ?_)
  · have hlt : k < l.length := by simpa using h
    obtain ⟨c, hget⟩ := get_some hlt
    repeat (first | refine i_s rfl ?_ | refine sw ?_ | refine jd rfl rfl ?_)
    refine i_f rfl (congrArg (prdV c :: ·) (he _ 5)) (hp c (mem_get hget)) rfl ?_
    repeat' (first | refine i_s rfl ?_ | refine sw ?_ | refine ja rfl rfl ?_ | refine c_cond rfl (fun h => ?_) (fun h => ?_))
    · refine e_ret ⟨rfl, _, rfl, congrArg (V.int .i64) (fidx_hit hi hget h)⟩
    · refine e_for hlt (all_succ hi fun c' hc' => ?_) ⟨⟨rfl, rfl, rfl, rfl, trivial⟩, trivial, by simp [fitB, closedE, closedB, hc, closedSt, hasAll]⟩
      rw [hget] at hc'; cases hc'; exact h
  · have hge : ¬ k < l.length := by simpa using h
    repeat' (first | refine i_s rfl ?_ | refine sw ?_ | fail)
    refine e_ret ⟨rfl, _, rfl, congrArg (V.int .i64) (fidx_none fun j hj => hi j (by omega))⟩
def c_slices_ContainsFunc_Predicate : Cmd :=
 (qS [qb 4 false]
 (.seq (.ops [qm 5 0, qm 6 1, qk 7 137 [5, 6], qv 8 .geq [] 7 0, qm 4 8]) .ret))
def r_slices_ContainsFunc_Predicate : List RVar := [.tmp 4]
def n_slices_ContainsFunc_Predicate : Nat := 9
theorem k_slices_ContainsFunc_Predicate : chkFn Go.Proofs.Tryz.prog 109 n_slices_ContainsFunc_Predicate r_slices_ContainsFunc_Predicate c_slices_ContainsFunc_Predicate = true := by kernel_rfl
theorem f_ContainsFunc_Predicate (l : List (Prd)) (p : Prd → Bool) (fid : Nat) (caps : List V) (hl : l.length ≤ 140737488355328) (he : ∀ σ n, caps.map (er σ (n + 1)) = caps) (hc : closedL [] caps = true) (hp : ∀ t ∈ l, Fc Go.Proofs.Tryz.prog fid (prdV t :: caps) (.bool (p t))) :
    Fc Go.Proofs.Tryz.prog 109 [.sl .p (l.map prdV), .fn fid caps] (.bool (l.any p)) := by
  refine Fn.step mixed k_slices_ContainsFunc_Predicate ?_
  repeat (first | refine i_s rfl ?_ | refine sw ?_)
  refine i_f rfl (congrArg (fun x => [V.sl .p (l.map prdV), .fn fid x]) (he _ 4)) (f_IndexFunc_Predicate l p fid caps hl he hc hp) rfl ?_
  repeat' (first | refine i_s rfl ?_ | refine sw ?_ | fail)
  refine e_ret ⟨rfl, _, rfl, congrArg V.bool (fidx_any p l).symm⟩
def c_slices_IndexFunc_Schema : Cmd :=
 (qS [qc 4 0]
 (qT (qS [qm 6 0, qn 7 6, qc 8 0]
 (.block 0 (.loop (qS [qu 9 .lss [] 8 7]
 (qT (.cond (.t 9) .skip (.exit 0))
 (qT (.block 1 (qS [qm 10 8, qm 5 10]
 (qS [qm 11 1, qm 12 0, qm 13 5, qi 14 7 12 13, qL 15 7 14, qq 16 (.call .f (.t 11) [.t 15])]
 (.cond (.t 16) (.seq (.ops [qm 17 5, qm 4 17]) .ret) .skip))))
 (.ops [qv 18 .add [] 8 1, qm 8 18])))))))
 (.seq (.ops [qc 4 (-1)]) .ret)))
def r_slices_IndexFunc_Schema : List RVar := [.tmp 4]
def n_slices_IndexFunc_Schema : Nat := 19
theorem k_slices_IndexFunc_Schema : chkFn Go.Proofs.Tryz.prog 139 n_slices_IndexFunc_Schema r_slices_IndexFunc_Schema c_slices_IndexFunc_Schema = true := by kernel_rfl
theorem f_IndexFunc_Schema (l : List (Sch)) (p : Sch → Bool) (fid : Nat) (caps : List V) (hl : l.length ≤ 140737488355328) (he : ∀ σ n, caps.map (er σ (n + 1)) = caps) (hc : closedL [] caps = true) (hp : ∀ t ∈ l, Fc Go.Proofs.Tryz.prog fid (schV t :: caps) (.bool (p t))) :
    Fc Go.Proofs.Tryz.prog 139 [.sl .p (l.map schV), .fn fid caps] (.int .i64 (fidx p l)) := by
  refine Fn.step mixed k_slices_IndexFunc_Schema ?_
  repeat (first | refine i_len rfl ?_ | refine i_s rfl ?_ | refine sw ?_)
  refine c_for l.length (fun k => [(0, .sl .p (l.map schV)), (1, .fn fid caps), (7, .int .i64 l.length), (8, .int .i64 k)]) (fun _ => []) (fun k => ∀ j, j < k → ∀ c, l[j]? = some c → p c = false) all_zero ?_ fun k hk hi => ?_
  · exact ⟨⟨rfl, rfl, rfl, rfl, trivial⟩, trivial, by simp [fitB, closedE, closedB, hc, closedSt, hasAll]⟩
  repeat (first | refine i_s rfl ?_ | refine sw ?_)
  refine c_cond rfl (fun h => ?_) (fun h => ?_)
  · have hlt : k < l.length := by simpa using h
    obtain ⟨c, hget⟩ := get_some hlt
    repeat (first | refine i_s rfl ?_ | refine sw ?_ | refine jd rfl rfl ?_)
    refine i_f rfl (congrArg (schV c :: ·) (he _ 5)) (hp c (mem_get hget)) rfl ?_
    repeat' (first | refine i_s rfl ?_ | refine sw ?_ | refine ja rfl rfl ?_ | refine c_cond rfl (fun h => ?_) (fun h => ?_))
    · refine e_ret ⟨rfl, _, rfl, congrArg (V.int .i64) (fidx_hit hi hget h)⟩
    · refine e_for hlt (all_succ hi fun c' hc' => ?_) ⟨⟨rfl, rfl, rfl, rfl, trivial⟩, trivial, by simp [fitB, closedE, closedB, hc, closedSt, hasAll]⟩
      rw [hget] at hc'; cases hc'; exact h
  · have hge : ¬ k < l.length := by simpa using h
    repeat' (first | refine i_s rfl ?_ | refine sw ?_ | fail)
    refine e_ret ⟨rfl, _, rfl, congrArg (V.int .i64) (fidx_none fun j hj => hi j (by omega))⟩
def c_slices_ContainsFunc_Schema : Cmd :=
 (qS [qb 4 false]
 (.seq (.ops [qm 5 0, qm 6 1, qk 7 139 [5, 6], qv 8 .geq [] 7 0, qm 4 8]) .ret))
def r_slices_ContainsFunc_Schema : List RVar := [.tmp 4]
def n_slices_ContainsFunc_Schema : Nat := 9
theorem k_slices_ContainsFunc_Schema : chkFn Go.Proofs.Tryz.prog 112 n_slices_ContainsFunc_Schema r_slices_ContainsFunc_Schema c_slices_ContainsFunc_Schema = true := by kernel_rfl
theorem f_ContainsFunc_Schema (l : List (Sch)) (p : Sch → Bool) (fid : Nat) (caps : List V) (hl : l.length ≤ 140737488355328) (he : ∀ σ n, caps.map (er σ (n + 1)) = caps) (hc : closedL [] caps = true) (hp : ∀ t ∈ l, Fc Go.Proofs.Tryz.prog fid (schV t :: caps) (.bool (p t))) :
    Fc Go.Proofs.Tryz.prog 112 [.sl .p (l.map schV), .fn fid caps] (.bool (l.any p)) := by
  refine Fn.step mixed k_slices_ContainsFunc_Schema ?_
  repeat (first | refine i_s rfl ?_ | refine sw ?_)
  refine i_f rfl (congrArg (fun x => [V.sl .p (l.map schV), .fn fid x]) (he _ 4)) (f_IndexFunc_Schema l p fid caps hl he hc hp) rfl ?_
  repeat' (first | refine i_s rfl ?_ | refine sw ?_ | fail)
  refine e_ret ⟨rfl, _, rfl, congrArg V.bool (fidx_any p l).symm⟩
def c_slices_IndexFunc_2_int : Cmd :=
 (qS [qc 4 0]
 (qT (qS [qm 6 0, qn 7 6, qc 8 0]
 (.block 0 (.loop (qS [qu 9 .lss [] 8 7]
 (qT (.cond (.t 9) .skip (.exit 0))
 (qT (.block 1 (qS [qm 10 8, qm 5 10]
 (qS [qm 11 1, qm 12 0, qm 13 5, qi 14 2 12 13, qL 15 2 14, qq 16 (.call .f (.t 11) [.t 15])]
 (.cond (.t 16) (.seq (.ops [qm 17 5, qm 4 17]) .ret) .skip))))
 (.ops [qv 18 .add [] 8 1, qm 8 18])))))))
 (.seq (.ops [qc 4 (-1)]) .ret)))
def r_slices_IndexFunc_2_int : List RVar := [.tmp 4]
def n_slices_IndexFunc_2_int : Nat := 19
theorem k_slices_IndexFunc_2_int : chkFn Go.Proofs.Tryz.prog 122 n_slices_IndexFunc_2_int r_slices_IndexFunc_2_int c_slices_IndexFunc_2_int = true := by kernel_rfl
theorem f_IndexFunc_2_int (l : List (Int × Int)) (p : (Int × Int) → Bool) (fid : Nat) (caps : List V) (hl : l.length ≤ 140737488355328) (he : ∀ σ n, caps.map (er σ (n + 1)) = caps) (hc : closedL [] caps = true) (hp : ∀ t ∈ l, Fc Go.Proofs.Tryz.prog fid (pairV t :: caps) (.bool (p t))) :
    Fc Go.Proofs.Tryz.prog 122 [.sl .p (l.map pairV), .fn fid caps] (.int .i64 (fidx p l)) := by
  refine Fn.step mixed k_slices_IndexFunc_2_int ?_
  repeat (first | refine i_len rfl ?_ | refine i_s rfl ?_ | refine sw ?_)
  refine c_for l.length (fun k => [(0, .sl .p (l.map pairV)), (1, .fn fid caps), (7, .int .i64 l.length), (8, .int .i64 k)]) (fun _ => []) (fun k => ∀ j, j < k → ∀ c, l[j]? = some c → p c = false) all_zero ?_ fun k hk hi => ?_
  · exact ⟨⟨rfl, rfl, rfl, rfl, trivial⟩, trivial, by simp [fitB, closedE, closedB, hc, closedSt, hasAll]⟩
  repeat (first | refine i_s rfl ?_ | refine sw ?_)
  refine c_cond rfl (fun h => ?_) (fun h => ?_)
  · have hlt : k < l.length := by simpa using h
    obtain ⟨c, hget⟩ := get_some hlt
    repeat (first | refine i_s rfl ?_ | refine sw ?_ | refine jd rfl rfl ?_)
    refine i_f rfl (congrArg (pairV c :: ·) (he _ 5)) (hp c (mem_get hget)) rfl ?_
    repeat' (first | refine i_s rfl ?_ | refine sw ?_ | refine ja rfl rfl ?_ | refine c_cond rfl (fun h => ?_) (fun h => ?_))
    · refine e_ret ⟨rfl, _, rfl, congrArg (V.int .i64) (fidx_hit hi hget h)⟩
    · refine e_for hlt (all_succ hi fun c' hc' => ?_) ⟨⟨rfl, rfl, rfl, rfl, trivial⟩, trivial, by simp [fitB, closedE, closedB, hc, closedSt, hasAll]⟩
      rw [hget] at hc'; cases hc'; exact h
  · have hge : ¬ k < l.length := by simpa using h
    repeat' (first | refine i_s rfl ?_ | refine sw ?_ | fail)
    refine e_ret ⟨rfl, _, rfl, congrArg (V.int .i64) (fidx_none fun j hj => hi j (by omega))⟩
def c_slices_ContainsFunc_2_int : Cmd :=
 (qS [qb 4 false]
 (.seq (.ops [qm 5 0, qm 6 1, qk 7 122 [5, 6], qv 8 .geq [] 7 0, qm 4 8]) .ret))
def r_slices_ContainsFunc_2_int : List RVar := [.tmp 4]
def n_slices_ContainsFunc_2_int : Nat := 9
theorem k_slices_ContainsFunc_2_int : chkFn Go.Proofs.Tryz.prog 86 n_slices_ContainsFunc_2_int r_slices_ContainsFunc_2_int c_slices_ContainsFunc_2_int = true := by kernel_rfl
theorem f_ContainsFunc_2_int (l : List (Int × Int)) (p : (Int × Int) → Bool) (fid : Nat) (caps : List V) (hl : l.length ≤ 140737488355328) (he : ∀ σ n, caps.map (er σ (n + 1)) = caps) (hc : closedL [] caps = true) (hp : ∀ t ∈ l, Fc Go.Proofs.Tryz.prog fid (pairV t :: caps) (.bool (p t))) :
    Fc Go.Proofs.Tryz.prog 86 [.sl .p (l.map pairV), .fn fid caps] (.bool (l.any p)) := by
  refine Fn.step mixed k_slices_ContainsFunc_2_int ?_
  repeat (first | refine i_s rfl ?_ | refine sw ?_)
  refine i_f rfl (congrArg (fun x => [V.sl .p (l.map pairV), .fn fid x]) (he _ 4)) (f_IndexFunc_2_int l p fid caps hl he hc hp) rfl ?_
  repeat' (first | refine i_s rfl ?_ | refine sw ?_ | fail)
  refine e_ret ⟨rfl, _, rfl, congrArg V.bool (fidx_any p l).symm⟩
def c_slices_IndexFunc_Atom : Cmd :=
 (qS [qc 4 0]
 (qT (qS [qm 6 0, qn 7 6, qc 8 0]
 (.block 0 (.loop (qS [qu 9 .lss [] 8 7]
 (qT (.cond (.t 9) .skip (.exit 0))
 (qT (.block 1 (qS [qm 10 8, qm 5 10]
 (qS [qm 11 1, qm 12 0, qm 13 5, qi 14 2 12 13, qL 15 2 14, qq 16 (.call .f (.t 11) [.t 15])]
 (.cond (.t 16) (.seq (.ops [qm 17 5, qm 4 17]) .ret) .skip))))
 (.ops [qv 18 .add [] 8 1, qm 8 18])))))))
 (.seq (.ops [qc 4 (-1)]) .ret)))
def r_slices_IndexFunc_Atom : List RVar := [.tmp 4]
def n_slices_IndexFunc_Atom : Nat := 19
theorem k_slices_IndexFunc_Atom : chkFn Go.Proofs.Tryz.prog 141 n_slices_IndexFunc_Atom r_slices_IndexFunc_Atom c_slices_IndexFunc_Atom = true := by kernel_rfl
theorem f_IndexFunc_Atom (l : List (At)) (p : At → Bool) (fid : Nat) (caps : List V) (hl : l.length ≤ 140737488355328) (he : ∀ σ n, caps.map (er σ (n + 1)) = caps) (hc : closedL [] caps = true) (hp : ∀ t ∈ l, Fc Go.Proofs.Tryz.prog fid (atV t :: caps) (.bool (p t))) :
    Fc Go.Proofs.Tryz.prog 141 [.sl .p (l.map atV), .fn fid caps] (.int .i64 (fidx p l)) := by
  refine Fn.step mixed k_slices_IndexFunc_Atom ?_
  repeat (first | refine i_len rfl ?_ | refine i_s rfl ?_ | refine sw ?_)
  refine c_for l.length (fun k => [(0, .sl .p (l.map atV)), (1, .fn fid caps), (7, .int .i64 l.length), (8, .int .i64 k)]) (fun _ => []) (fun k => ∀ j, j < k → ∀ c, l[j]? = some c → p c = false) all_zero ?_ fun k hk hi => ?_
  · exact ⟨⟨rfl, rfl, rfl, rfl, trivial⟩, trivial, by simp [fitB, closedE, closedB, hc, closedSt, hasAll]⟩
  repeat (first | refine i_s rfl ?_ | refine sw ?_)
  refine c_cond rfl (fun h => ?_) (fun h => ?_)
  · have hlt : k < l.length := by simpa using h
    obtain ⟨c, hget⟩ := get_some hlt
    repeat (first | refine i_s rfl ?_ | refine sw ?_ | refine jd rfl rfl ?_)
    refine i_f rfl (congrArg (atV c :: ·) (he _ 5)) (hp c (mem_get hget)) rfl ?_
    repeat' (first | refine i_s rfl ?_ | refine sw ?_ | refine ja rfl rfl ?_ | refine c_cond rfl (fun h => ?_) (fun h => ?_))
    · refine e_ret ⟨rfl, _, rfl, congrArg (V.int .i64) (fidx_hit hi hget h)⟩
    · refine e_for hlt (all_succ hi fun c' hc' => ?_) ⟨⟨rfl, rfl, rfl, rfl, trivial⟩, trivial, by simp [fitB, closedE, closedB, hc, closedSt, hasAll]⟩
      rw [hget] at hc'; cases hc'; exact h
  · have hge : ¬ k < l.length := by simpa using h
    repeat' (first | refine i_s rfl ?_ | refine sw ?_ | fail)
    refine e_ret ⟨rfl, _, rfl, congrArg (V.int .i64) (fidx_none fun j hj => hi j (by omega))⟩
def c_slices_ContainsFunc_Atom : Cmd :=
 (qS [qb 4 false]
 (.seq (.ops [qm 5 0, qm 6 1, qk 7 141 [5, 6], qv 8 .geq [] 7 0, qm 4 8]) .ret))
def r_slices_ContainsFunc_Atom : List RVar := [.tmp 4]
def n_slices_ContainsFunc_Atom : Nat := 9
theorem k_slices_ContainsFunc_Atom : chkFn Go.Proofs.Tryz.prog 116 n_slices_ContainsFunc_Atom r_slices_ContainsFunc_Atom c_slices_ContainsFunc_Atom = true := by kernel_rfl
theorem f_ContainsFunc_Atom (l : List (At)) (p : At → Bool) (fid : Nat) (caps : List V) (hl : l.length ≤ 140737488355328) (he : ∀ σ n, caps.map (er σ (n + 1)) = caps) (hc : closedL [] caps = true) (hp : ∀ t ∈ l, Fc Go.Proofs.Tryz.prog fid (atV t :: caps) (.bool (p t))) :
    Fc Go.Proofs.Tryz.prog 116 [.sl .p (l.map atV), .fn fid caps] (.bool (l.any p)) := by
  refine Fn.step mixed k_slices_ContainsFunc_Atom ?_
  repeat (first | refine i_s rfl ?_ | refine sw ?_)
  refine i_f rfl (congrArg (fun x => [V.sl .p (l.map atV), .fn fid x]) (he _ 4)) (f_IndexFunc_Atom l p fid caps hl he hc hp) rfl ?_
  repeat' (first | refine i_s rfl ?_ | refine sw ?_ | fail)
  refine e_ret ⟨rfl, _, rfl, congrArg V.bool (fidx_any p l).symm⟩
theorem msl_all {l : List Int} {n : Nat} (h : l.length = n) : V.sl .p (((l.map i64V).drop 0).take n) = V.sl .p (l.map i64V) := by
  rw [List.drop_zero, List.take_of_length_le (by simp; omega)]
theorem er_msl {σ : Store} {nm gen i len n : Nat} {rows : List V} (hs : σ nm = .arr gen rows) : er σ (n + 1) (.msl nm gen i len) = .sl .p ((rows.drop i).take len) := by
  simp [er, hs]
def c_slices_Clone_int : Cmd :=
 (qS [qq 2 (.mov (.c (.sl .nil [])))]
 (qT (qS [qm 3 0, qq 4 (.isnil false (.t 3))]
 (.cond (.t 4) (.seq (.ops [qq 2 (.newArr 4928321)]) .ret) .skip))
 (.seq (.ops [qq 5 (.bslA 4928321 1 []), qm 6 0, qq 7 (.append 1 8 3 (.t 5) (.t 6)), qm 2 7]) .ret)))
def r_slices_Clone_int : List RVar := [.tmp 2]
def n_slices_Clone_int : Nat := 8
theorem k_slices_Clone_int : chkFn Go.Proofs.Tryz.prog 77 n_slices_Clone_int r_slices_Clone_int c_slices_Clone_int = true := by kernel_rfl
theorem f_slices_Clone_int (s : List Int) (hl : s.length ≤ 17592186044416) : Fc Go.Proofs.Tryz.prog 77 [.sl .p (s.map i64V)] (.sl .p (s.map i64V)) := by
  refine Fn.step mixed k_slices_Clone_int ?_
  repeat (first | refine i_s rfl ?_ | refine sw ?_)
  refine i_isnil rfl fun b hb => ?_
  repeat refine sw ?_
  refine c_cond rfl (fun h => ?_) (fun h => ?_)
  · have e : s = [] := by simpa using hb (by simpa using h)
    subst e
    repeat refine sw ?_
    refine i_na rfl ?_
    repeat refine sw ?_
    exact e_ret ⟨rfl, _, rfl, rfl⟩
  · repeat refine sw ?_
    refine i_bsla rfl rfl rfl rfl ?_
    repeat refine i_s rfl ?_
    refine i_appmM (l := []) (f := i64V) s rfl rfl rfl rfl rfl (fun c hc => ⟨rfl, rfl⟩) (by simp; omega) (by simp; omega) ?_
    repeat (first | refine i_s rfl ?_ | refine sw ?_)
    exact e_ret ⟨rfl, _, rfl, ((er_msl (i := 0) (len := ([] ++ s).length) (n := 5) rfl).trans (msl_all rfl)).symm⟩
theorem ct_Clone1 {G : Type} {H : HT G} (s : List Int) (hl : s.length ≤ 17592186044416) (σ : Store) (g : G) (h1 : σ 4928321 = .unused) (hp : ∀ nm, σ nm ≠ .unused → nm ∈ [4928321]) :
    Cc Go.Proofs.Tryz.prog H 77 [.sl .p (s.map i64V)] [4928321] σ g fun r σ' g' => (∃ gen, r = .msl 4928321 gen 0 s.length ∧ σ' = stOf [(4928321, .arr gen (s.map i64V))]) ∧ g' = g := by
  refine CT.step _ mixed k_slices_Clone_int hp fun hM => ?_
  repeat (first | refine i_s rfl ?_ | refine sw ?_)
  refine i_isnil rfl fun b hb => ?_
  repeat refine sw ?_
  refine c_cond rfl (fun h => ?_) (fun h => ?_)
  · have e : s = [] := by simpa using hb (by simpa using h)
    subst e
    repeat refine sw ?_
    refine i_na h1 ?_
    repeat refine sw ?_
    exact e_ret ⟨rfl, _, rfl, rfl, rfl, ⟨0, rfl, restr_stOf _ _⟩, rfl⟩
  · repeat refine sw ?_
    refine i_bsla h1 rfl rfl rfl ?_
    repeat refine i_s rfl ?_
    refine i_appmM (l := []) (f := i64V) s rfl rfl rfl rfl rfl (fun c hc => ⟨rfl, rfl⟩) (by simp; omega) (by simp; omega) ?_
    repeat (first | refine i_s rfl ?_ | refine sw ?_)
    refine e_ret ⟨rfl, _, rfl, rfl, rfl, ⟨1, rfl, ?_⟩, rfl⟩
    rw [restr_stOf]; rfl
theorem ct_Clone1n {G : Type} {H : HT G} (σ : Store) (g : G) (h1 : σ 4928321 = .unused) (hp : ∀ nm, σ nm ≠ .unused → nm ∈ [4928321]) :
    Cc Go.Proofs.Tryz.prog H 77 [.sl .nil []] [4928321] σ g fun r σ' g' => (∃ gen, r = .msl 4928321 gen 0 0 ∧ σ' = stOf [(4928321, .arr gen (([] : List Int).map i64V))]) ∧ g' = g := by
  refine CT.step _ mixed k_slices_Clone_int hp fun hM => ?_
  repeat (first | refine i_s rfl ?_ | refine sw ?_)
  refine i_isnil rfl fun b hb => ?_
  repeat refine sw ?_
  refine c_cond rfl (fun h => ?_) (fun h => ?_)
  · repeat refine sw ?_
    refine i_na h1 ?_
    repeat refine sw ?_
    exact e_ret ⟨rfl, _, rfl, rfl, rfl, ⟨0, rfl, restr_stOf _ _⟩, rfl⟩
  · repeat refine sw ?_
    refine i_bsla h1 rfl rfl rfl ?_
    repeat refine i_s rfl ?_
    refine i_appmM (l := []) (f := i64V) [] rfl rfl rfl rfl rfl (fun c hc => ⟨rfl, rfl⟩) (by simp) (by simp) ?_
    repeat (first | refine i_s rfl ?_ | refine sw ?_)
    refine e_ret ⟨rfl, _, rfl, rfl, rfl, ⟨1, rfl, ?_⟩, rfl⟩
    rw [restr_stOf]; rfl
def c_Clone7 : Cmd :=
 (qS [qq 2 (.mov (.c (.sl .nil [])))]
 (qT (qS [qm 3 0, qq 4 (.isnil false (.t 3))]
 (.cond (.t 4) (.seq (.ops [qq 2 (.newArr 4928449)]) .ret) .skip))
 (.seq (.ops [qq 5 (.bslA 4928449 1 []), qm 6 0, qq 7 (.append 1 8 3 (.t 5) (.t 6)), qm 2 7]) .ret)))
def r_Clone7 : List RVar := [.tmp 2]
def n_Clone7 : Nat := 8
theorem k_Clone7 : chkFn Go.Proofs.Tryz.prog 77 n_Clone7 r_Clone7 c_Clone7 = true := by kernel_rfl
theorem ct_Clone7 {G : Type} {H : HT G} (s : List Int) (hl : s.length ≤ 17592186044416) (σ : Store) (g : G) (h1 : σ 4928449 = .unused) (hp : ∀ nm, σ nm ≠ .unused → nm ∈ [4928449]) :
    Cc Go.Proofs.Tryz.prog H 77 [.sl .p (s.map i64V)] [4928449] σ g fun r σ' g' => (∃ gen, r = .msl 4928449 gen 0 s.length ∧ σ' = stOf [(4928449, .arr gen (s.map i64V))]) ∧ g' = g := by
  refine CT.step _ mixed k_Clone7 hp fun hM => ?_
  repeat (first | refine i_s rfl ?_ | refine sw ?_)
  refine i_isnil rfl fun b hb => ?_
  repeat refine sw ?_
  refine c_cond rfl (fun h => ?_) (fun h => ?_)
  · have e : s = [] := by simpa using hb (by simpa using h)
    subst e
    repeat refine sw ?_
    refine i_na h1 ?_
    repeat refine sw ?_
    exact e_ret ⟨rfl, _, rfl, rfl, rfl, ⟨0, rfl, restr_stOf _ _⟩, rfl⟩
  · repeat refine sw ?_
    refine i_bsla h1 rfl rfl rfl ?_
    repeat refine i_s rfl ?_
    refine i_appmM (l := []) (f := i64V) s rfl rfl rfl rfl rfl (fun c hc => ⟨rfl, rfl⟩) (by simp; omega) (by simp; omega) ?_
    repeat (first | refine i_s rfl ?_ | refine sw ?_)
    refine e_ret ⟨rfl, _, rfl, rfl, rfl, ⟨1, rfl, ?_⟩, rfl⟩
    rw [restr_stOf]; rfl
theorem c_frzall {G : Type} {P : Program} {H : HT G} {pn : List Nat} {Q : Exit → Env → Store → G → Prop} {fs : List (Frm G)} {ρ : Env} {σ : Store} {g : G} {t nm gen gen' len : Nat} {rows : List V} (ht : ρ t = .msl nm gen 0 len) (hs : σ nm = .arr gen' rows) (hg : gen = gen') (hl : rows.length = len)
    (h : WE P H pn Q fs .normal (upd ρ t (.sl .p rows)) (ups σ nm .dead) g) : WC P H pn Q fs (.frz t) ρ σ g :=
  c_frza ht hs hg (by rw [List.drop_zero, List.take_of_length_le (by omega)]; exact h)
theorem objA_neg {args : List Int} {x o : Int} (h : x < 0) (ho : args[(-1 - x).toNat]? = some o) : objA args x = o := by unfold objA; rw [if_pos h, ho]; rfl
theorem objA_pos {args : List Int} {x : Int} (h : ¬ x < 0) : objA args x = x := by unfold objA; rw [if_neg h]
def c_condition_value : Cmd :=
 (qS [qc 4 0]
 (qT (qS [qm 5 0, qv 6 .lss [] 5 0]
 (.cond (.t 6) (.seq (.ops [qm 7 1, qm 8 0, qq 9 (.bin .sub false [] (.c (.int .i64 (-1))) (.t 8)), qi 10 1 7 9, ql 11 1 10, qm 4 11]) .ret) .skip))
 (.seq (.ops [qm 12 0, qm 4 12]) .ret)))
def r_condition_value : List RVar := [.tmp 4]
def n_condition_value : Nat := 13
theorem k_condition_value : chkFn Go.Proofs.Tryz.prog 145 n_condition_value r_condition_value c_condition_value = true := by kernel_rfl
theorem f_condition_value (args : List Int) (hl : args.length ≤ 140737488355328) (x : Int) (hx : -(args.length : Int) ≤ x) : Fc Go.Proofs.Tryz.prog 145 [.int .i64 x, .sl .p (args.map i64V)] (.int .i64 (objA args x)) := by
  by_cases h : x < 0
  · obtain ⟨o, ho⟩ := get_some (l := args) (k := (-1 - x).toNat) (by omega)
    rw [objA_neg h ho]
    have h0 : 0 ≤ -1 - x := by omega
    refine Fn.step mixed k_condition_value ?_
    repeat' (first | refine i_s rfl ?_ | refine sw ?_ | refine jb rfl rfl ?_ | refine jd rfl rfl ?_ | refine c_cond rfl (fun h => ?_) (fun h => ?_))
    all_goals first
      | exact e_ret ⟨rfl, _, rfl, rfl⟩
      | (exfalso; simp at *; omega)
  · rw [objA_pos h]
    refine Fn.step mixed k_condition_value ?_
    repeat' (first | refine i_s rfl ?_ | refine sw ?_ | refine c_cond rfl (fun h => ?_) (fun h => ?_))
    all_goals first
      | exact e_ret ⟨rfl, _, rfl, rfl⟩
      | (exfalso; simp at *; omega)
def c_condition_Bind : Cmd :=
 (qS [qx 2 7872130 2 0, qq 4 (.alloc 7872258 (.agg [.int .i64 0, .sl .nil []]))]
 (qS [qf 8 0 2, ql 9 1 8, qq 10 (.build [.int .i64 0, .sl .nil []] [(0 , 1 , .t 9)]), qq 5 (.alloc 7872322 (.agg [.int .i64 0, .sl .nil []])), qs 2 5 10]
 (qT (.seq (.ops [qf 11 1 2, ql 12 1 11, qn 13 12, qc 14 0]) (.nvb 5 1 7875265 (.cut (.block 0 (.loop (qS [qu 15 .lss [] 14 13]
 (qT (.cond (.t 15) .skip (.exit 0))
 (qT (.block 1 (qS [qi 16 1 12 14, ql 17 1 16, qm 7 17]
 (.ops [qf 18 1 5, ql 19 1 18, qm 20 7, qm 21 1, qk 22 145 [20, 21], qq 23 (.bsl 1 [.t 22]), qq 24 (.append 1 8 3 (.t 19) (.t 23)), qf 25 1 5, qs 1 25 24])))
 (.ops [qv 26 .add [] 14 1, qm 14 26])))))))))
 (.seq (.ops [qL 27 2 5, qs 2 4 27]) .ret))))
def r_condition_Bind : List RVar := [.cell true 2 4]
def n_condition_Bind : Nat := 28
theorem k_condition_Bind : chkFn Go.Proofs.Tryz.prog 123 n_condition_Bind r_condition_Bind c_condition_Bind = true := by kernel_rfl
theorem f_condition_Bind (args : List Int) (hl : args.length ≤ 140737488355328) (a : At) (ha : a.args.length ≤ 17592186044416) (hx : ∀ x ∈ a.args, -(args.length : Int) ≤ x) : Fc Go.Proofs.Tryz.prog 123 [atV a, .sl .p (args.map i64V)] (atV (bindA args a)) := by
  refine Fn.step mixed k_condition_Bind ?_
  repeat (first | refine i_len rfl ?_ | refine i_s rfl ?_ | refine sw ?_ | refine i_stb rfl ?_ | refine i_alloc rfl ?_ | refine i_box rfl rfl ?_)
  refine c_nvb rfl rfl rfl rfl ?_
  repeat refine sw ?_
  refine c_for a.args.length (fun k => [(1, .sl .p (args.map i64V)), (4, .bptr 7872258 0), (5, .bptr 7872322 0), (12, .sl .p (a.args.map i64V)), (13, .int .i64 a.args.length), (14, .int .i64 k)])
    (fun k => [(7872258, .box (.agg [.int .i64 0, .sl .nil []])), (7872322, .box (.agg [.int .i64 a.pred, .sl (.own 7875265) (((a.args.take k).map (objA args)).map i64V)])), (7875265, .vec ((a.args.take k).map (objA args)).length)]) (fun _ => True) trivial ft fun k hk _ => ?_
  repeat (first | refine i_s rfl ?_ | refine sw ?_)
  refine c_cond rfl (fun h => ?_) (fun h => ?_)
  · have hlt : k < a.args.length := by simpa using h
    obtain ⟨x, hget⟩ := get_some hlt
    have hV := f_condition_value args hl x (hx x (mem_get hget))
    have htl : ((a.args.take k).map (objA args)).length = k := by simp; omega
    have e : (a.args.take (k + 1)).map (objA args) = (a.args.take k).map (objA args) ++ [objA args x] := by rw [take_succ_get hget, List.map_append]; rfl
    clear h hx
    repeat (first | refine i_s rfl ?_ | refine sw ?_ | refine jd rfl rfl ?_ | refine sf rfl rfl hV ?_)
    refine i_appM rfl rfl rfl rfl rfl (by omega) (by omega) ?_
    repeat (first | refine i_s rfl ?_ | refine sw ?_ | refine ja rfl rfl ?_ | refine i_stb rfl ?_)
    refine e_for hlt trivial ⟨⟨rfl, rfl, rfl, rfl, rfl, rfl, trivial⟩, ⟨rfl, ?_, ?_, trivial⟩, rfl⟩
    · rw [e]; rfl
    · rw [e]; simp; rfl
  · have hge : k = a.args.length := by have : ¬ k < a.args.length := by simpa using h
                                       omega
    subst hge
    clear h
    rw [List.take_length]
    repeat (first | refine i_s rfl ?_ | refine sw ?_ | refine i_stb rfl ?_)
    exact e_ret ⟨rfl, _, rfl, rfl⟩
def flagI (x : Lit) : Int := if x.neg = true then 1 else 0
def c_condition_CompareLiterals_1 : Cmd :=
 (qS [qx 1 8256067 3 0, qc 2 0]
 (qT (qS [qf 3 0 1, ql 4 1 3]
 (.cond (.t 4) (.seq (.ops [qc 2 1]) .ret) .skip))
 (.seq (.ops [qc 2 0]) .ret)))
def r_condition_CompareLiterals_1 : List RVar := [.tmp 2]
def n_condition_CompareLiterals_1 : Nat := 5
theorem k_condition_CompareLiterals_1 : chkFn Go.Proofs.Tryz.prog 129 n_condition_CompareLiterals_1 r_condition_CompareLiterals_1 c_condition_CompareLiterals_1 = true := by kernel_rfl
theorem f_CompareLiterals_1 (x : Lit) : Fc Go.Proofs.Tryz.prog 129 [litV x] (.int .i64 (flagI x)) := by
  refine Fn.step mixed k_condition_CompareLiterals_1 ?_
  repeat' (first | refine i_s rfl ?_ | refine sw ?_ | refine i_box rfl rfl ?_ | refine c_cond rfl (fun h => ?_) (fun h => ?_))
  all_goals (refine e_ret ⟨rfl, _, rfl, congrArg (V.int .i64) ?_⟩; unfold flagI; simp [h])
def c_condition_CompareLiterals : Cmd :=
 (qS [qx 2 6208131 3 0, qx 3 6208195 3 1, qc 4 0]
 (qS [qq 5 (.mov (.c (.fn 129 [])))]
 (.seq (.ops [qf 6 1 2, qL 7 2 6, qf 8 1 3, qL 9 2 8, qk 10 118 [7, 9], qm 11 5, qL 12 3 2, qq 13 (.call .f (.t 11) [.t 12]), qm 14 5, qL 15 3 3, qq 16 (.call .f (.t 14) [.t 15]), qk 17 131 [13, 16], qq 18 (.bsl 1 [.t 10, .t 17]), qk 19 130 [18], qm 4 19]) .ret)))
def r_condition_CompareLiterals : List RVar := [.tmp 4]
def n_condition_CompareLiterals : Nat := 20
theorem k_condition_CompareLiterals : chkFn Go.Proofs.Tryz.prog 97 n_condition_CompareLiterals r_condition_CompareLiterals c_condition_CompareLiterals = true := by kernel_rfl
theorem f_CompareLiterals (x y : Lit) (hx : AtOk x.at_) (hy : AtOk y.at_) : Fc Go.Proofs.Tryz.prog 97 [litV x, litV y] (.int .i64 (litOrd x y)) := by
  have hD := f_domain_Compare x.at_ y.at_ hx hy
  have hX := f_CompareLiterals_1 x
  have hY := f_CompareLiterals_1 y
  have hC := f_Compare_int (flagI x) (flagI y)
  have hO := f_Or2 (atomOrd x.at_ y.at_) (signI (flagI x) (flagI y))
  have e : litOrd x y = if atomOrd x.at_ y.at_ ≠ 0 then atomOrd x.at_ y.at_ else signI (flagI x) (flagI y) := by
    unfold litOrd flagI signI
    cases x.neg <;> cases y.neg <;> simp
  rw [e]
  refine Fn.step mixed k_condition_CompareLiterals ?_
  repeat' (first | refine i_s rfl ?_ | refine sw ?_ | refine i_box rfl rfl ?_ | refine sf rfl rfl hD ?_ | refine sf rfl rfl hX ?_ | refine sf rfl rfl hY ?_ | refine sf rfl rfl hC ?_ | refine sf rfl rfl hO ?_ | fail)
  all_goals exact e_ret ⟨rfl, _, rfl, rfl⟩
def lampD : Dom := ⟨[⟨[108, 97, 109, 112], -1⟩], [⟨[120], 0⟩], [⟨[111, 110], [0]⟩], [⟨[115, 119, 105, 116, 99, 104], [0], [], [⟨true, ⟨0, [-1]⟩⟩], [⟨0, [-1]⟩], [], 2⟩], [], [⟨false, ⟨0, [0]⟩⟩]⟩
def on0 : At := ⟨0, [0]⟩
def c_slices_IndexFunc_Literal : Cmd :=
 (qS [qc 4 0]
 (qT (qS [qm 6 0, qn 7 6, qc 8 0]
 (.block 0 (.loop (qS [qu 9 .lss [] 8 7]
 (qT (.cond (.t 9) .skip (.exit 0))
 (qT (.block 1 (qS [qm 10 8, qm 5 10]
 (qS [qm 11 1, qm 12 0, qm 13 5, qi 14 3 12 13, qL 15 3 14, qq 16 (.call .f (.t 11) [.t 15])]
 (.cond (.t 16) (.seq (.ops [qm 17 5, qm 4 17]) .ret) .skip))))
 (.ops [qv 18 .add [] 8 1, qm 8 18])))))))
 (.seq (.ops [qc 4 (-1)]) .ret)))
def r_slices_IndexFunc_Literal : List RVar := [.tmp 4]
def n_slices_IndexFunc_Literal : Nat := 19
theorem k_slices_IndexFunc_Literal : chkFn Go.Proofs.Tryz.prog 128 n_slices_IndexFunc_Literal r_slices_IndexFunc_Literal c_slices_IndexFunc_Literal = true := by kernel_rfl
theorem f_IndexFunc_Literal (l : List (Lit)) (p : Lit → Bool) (fid : Nat) (caps : List V) (hl : l.length ≤ 140737488355328) (he : ∀ σ n, caps.map (er σ (n + 1)) = caps) (hc : closedL [] caps = true) (hp : ∀ t ∈ l, Fc Go.Proofs.Tryz.prog fid (litV t :: caps) (.bool (p t))) :
    Fc Go.Proofs.Tryz.prog 128 [.sl .p (l.map litV), .fn fid caps] (.int .i64 (fidx p l)) := by
  refine Fn.step mixed k_slices_IndexFunc_Literal ?_
  repeat (first | refine i_len rfl ?_ | refine i_s rfl ?_ | refine sw ?_)
  refine c_for l.length (fun k => [(0, .sl .p (l.map litV)), (1, .fn fid caps), (7, .int .i64 l.length), (8, .int .i64 k)]) (fun _ => []) (fun k => ∀ j, j < k → ∀ c, l[j]? = some c → p c = false) all_zero ?_ fun k hk hi => ?_
  · exact ⟨⟨rfl, rfl, rfl, rfl, trivial⟩, trivial, by simp [fitB, closedE, closedB, hc, closedSt, hasAll]⟩
  repeat (first | refine i_s rfl ?_ | refine sw ?_)
  refine c_cond rfl (fun h => ?_) (fun h => ?_)
  · have hlt : k < l.length := by simpa using h
    obtain ⟨c, hget⟩ := get_some hlt
    repeat (first | refine i_s rfl ?_ | refine sw ?_ | refine jd rfl rfl ?_)
    refine i_f rfl (congrArg (litV c :: ·) (he _ 5)) (hp c (mem_get hget)) rfl ?_
    repeat' (first | refine i_s rfl ?_ | refine sw ?_ | refine ja rfl rfl ?_ | refine c_cond rfl (fun h => ?_) (fun h => ?_))
    · refine e_ret ⟨rfl, _, rfl, congrArg (V.int .i64) (fidx_hit hi hget h)⟩
    · refine e_for hlt (all_succ hi fun c' hc' => ?_) ⟨⟨rfl, rfl, rfl, rfl, trivial⟩, trivial, by simp [fitB, closedE, closedB, hc, closedSt, hasAll]⟩
      rw [hget] at hc'; cases hc'; exact h
  · have hge : ¬ k < l.length := by simpa using h
    repeat' (first | refine i_s rfl ?_ | refine sw ?_ | fail)
    refine e_ret ⟨rfl, _, rfl, congrArg (V.int .i64) (fidx_none fun j hj => hi j (by omega))⟩
def c_slices_ContainsFunc_Literal : Cmd :=
 (qS [qb 4 false]
 (.seq (.ops [qm 5 0, qm 6 1, qk 7 128 [5, 6], qv 8 .geq [] 7 0, qm 4 8]) .ret))
def r_slices_ContainsFunc_Literal : List RVar := [.tmp 4]
def n_slices_ContainsFunc_Literal : Nat := 9
theorem k_slices_ContainsFunc_Literal : chkFn Go.Proofs.Tryz.prog 95 n_slices_ContainsFunc_Literal r_slices_ContainsFunc_Literal c_slices_ContainsFunc_Literal = true := by kernel_rfl
theorem f_ContainsFunc_Literal (l : List (Lit)) (p : Lit → Bool) (fid : Nat) (caps : List V) (hl : l.length ≤ 140737488355328) (he : ∀ σ n, caps.map (er σ (n + 1)) = caps) (hc : closedL [] caps = true) (hp : ∀ t ∈ l, Fc Go.Proofs.Tryz.prog fid (litV t :: caps) (.bool (p t))) :
    Fc Go.Proofs.Tryz.prog 95 [.sl .p (l.map litV), .fn fid caps] (.bool (l.any p)) := by
  refine Fn.step mixed k_slices_ContainsFunc_Literal ?_
  repeat (first | refine i_s rfl ?_ | refine sw ?_)
  refine i_f rfl (congrArg (fun x => [V.sl .p (l.map litV), .fn fid x]) (he _ 4)) (f_IndexFunc_Literal l p fid caps hl he hc hp) rfl ?_
  repeat' (first | refine i_s rfl ?_ | refine sw ?_ | fail)
  refine e_ret ⟨rfl, _, rfl, congrArg V.bool (fidx_any p l).symm⟩
end Hm
end
section
namespace Hm
open Go
def selK (p : Nat → Bool) (k : Nat) : List Int := ((List.range k).filter p).map Int.ofNat
theorem selK_succ (p : Nat → Bool) (k : Nat) : selK p (k + 1) = selK p k ++ (if p k = true then [(k : Int)] else []) := by
  unfold selK
  rw [List.range_succ, List.filter_append, List.map_append]
  congr 1
  simp only [List.filter]
  cases p k <;> rfl
theorem selK_len (p : Nat → Bool) (k : Nat) : (selK p k).length ≤ k := by
  unfold selK
  rw [List.length_map]
  exact Nat.le_trans (List.length_filter_le _ _) (by simp)
theorem selK_mem {p : Nat → Bool} {k : Nat} {x : Int} : x ∈ selK p k ↔ 0 ≤ x ∧ x < k ∧ p x.toNat = true := by
  unfold selK
  simp only [List.mem_map, List.mem_filter, List.mem_range]
  constructor
  · rintro ⟨i, ⟨h1, h2⟩, rfl⟩
    exact ⟨by simp, by simpa using h1, by simpa using h2⟩
  · rintro ⟨h0, h1, h2⟩
    exact ⟨x.toNat, ⟨by omega, h2⟩, by simp; omega⟩
structure Ac where
  sch : Nat
  args : List Int
  pre : List Lit
  add : List Lit
  del : List Lit
  cost : Int
def bindL (args : List Int) (x : Lit) : Lit := ⟨x.neg, bindA args x.at_⟩
def trueL (d : Dom) (x : Lit) : Bool := decide (x.at_ ∈ d.init) != x.neg
def needP (d : Dom) (args : List Int) : List Lit → List Lit → Option (List Lit)
  | [], out => some out
  | x :: r, out => if fluB d x.at_.pred = false then (if decide (bindA args x.at_ ∈ d.init) = x.neg then none else needP d args r out)
    else if opp (bindL args x) ∈ out then none else if bindL args x ∈ out then needP d args r out else needP d args r (out ++ [bindL args x])
def SameM (a b : List Lit) : Prop := ∀ x, x ∈ a ↔ x ∈ b
theorem SameM.refl (a : List Lit) : SameM a a := fun _ => Iff.rfl
def sdL (l : List Lit) : List Lit := l.foldl withL []
def sdA (l : List At) : List At := (sdL (l.map posL)).map Lit.at_
theorem foldW_sorted : ∀ (l acc : List Lit), SLt acc → SLt (l.foldl withL acc)
  | [], _, h => h
  | x :: r, acc, h => foldW_sorted r _ (withL_sorted h)
theorem foldW_mem {x : Lit} : ∀ (l acc : List Lit), x ∈ l.foldl withL acc ↔ x ∈ acc ∨ x ∈ l
  | [], acc => by simp
  | y :: r, acc => by
    simp only [List.foldl_cons, foldW_mem r, withL_mem, List.mem_cons]
    exact ⟨fun h => by rcases h with (h | h) | h <;> simp [h], fun h => by rcases h with h | h | h <;> simp [h]⟩
theorem sdL_sorted (l : List Lit) : SLt (sdL l) := foldW_sorted l [] List.Pairwise.nil
theorem sdL_mem {l : List Lit} {x : Lit} : x ∈ sdL l ↔ x ∈ l := by unfold sdL; rw [foldW_mem]; simp
theorem sdA_mem {l : List At} {a : At} : a ∈ sdA l ↔ a ∈ l := by
  unfold sdA
  rw [List.mem_map]
  constructor
  · rintro ⟨x, hx, rfl⟩
    rw [sdL_mem] at hx
    obtain ⟨b, hb, rfl⟩ := List.mem_map.1 hx
    exact hb
  · exact fun h => ⟨posL a, sdL_mem.2 (List.mem_map_of_mem h), rfl⟩
theorem sdA_pos (l : List At) : (sdA l).map posL = sdL (l.map posL) := by
  unfold sdA
  rw [List.map_map]
  have : ∀ x ∈ sdL (l.map posL), (posL ∘ Lit.at_) x = x := fun x hx => by
    rw [sdL_mem] at hx
    obtain ⟨b, _, rfl⟩ := List.mem_map.1 hx
    rfl
  exact (List.map_congr_left this).trans (List.map_id _)
theorem sdA_of {l m : List At} (hs : SLt (m.map posL)) (hm : ∀ a, a ∈ m ↔ a ∈ l) : m = sdA l := by
  have : m.map posL = (sdA l).map posL := by
    rw [sdA_pos]
    refine SLt_ext hs (sdL_sorted _) fun x => ?_
    rw [sdL_mem, List.mem_map, List.mem_map]
    exact ⟨fun ⟨a, h1, h2⟩ => ⟨a, (hm a).1 h1, h2⟩, fun ⟨a, h1, h2⟩ => ⟨a, (hm a).2 h1, h2⟩⟩
  have h2 := congrArg (List.map Lit.at_) this
  simpa [List.map_map, Function.comp_def, posL] using h2
def addOf (plus minus : List At) : List Lit := plus.map posL ++ (minus.filter fun a => !decide (a ∈ plus)).map negL
def delOf (plus minus : List At) : List Lit := plus.map negL ++ (minus.filter fun a => !decide (a ∈ plus)).map posL
theorem addOf_mem {p m : List At} {x : Lit} : x ∈ addOf p m ↔ (x.neg = false ∧ x.at_ ∈ p) ∨ (x.neg = true ∧ x.at_ ∈ m ∧ x.at_ ∉ p) := by
  unfold addOf
  simp only [List.mem_append, List.mem_map, List.mem_filter]
  constructor
  · rintro (⟨a, h, rfl⟩ | ⟨a, h, rfl⟩)
    · exact .inl ⟨rfl, h⟩
    · exact .inr ⟨rfl, h.1, fun hp => by
        have hp : a ∈ p := hp
        simp [hp] at h⟩
  · rintro (⟨h1, h2⟩ | ⟨h1, h2, h3⟩)
    · exact .inl ⟨x.at_, h2, by cases x; simp only at h1; subst h1; rfl⟩
    · exact .inr ⟨x.at_, ⟨h2, by simpa using h3⟩, by cases x; simp only at h1; subst h1; rfl⟩
theorem delOf_mem {p m : List At} {x : Lit} : x ∈ delOf p m ↔ (x.neg = true ∧ x.at_ ∈ p) ∨ (x.neg = false ∧ x.at_ ∈ m ∧ x.at_ ∉ p) := by
  unfold delOf
  simp only [List.mem_append, List.mem_map, List.mem_filter]
  constructor
  · rintro (⟨a, h, rfl⟩ | ⟨a, h, rfl⟩)
    · exact .inl ⟨rfl, h⟩
    · exact .inr ⟨rfl, h.1, fun hp => by
        have hp : a ∈ p := hp
        simp [hp] at h⟩
  · rintro (⟨h1, h2⟩ | ⟨h1, h2, h3⟩)
    · exact .inl ⟨x.at_, h2, by cases x; simp only at h1; subst h1; rfl⟩
    · exact .inr ⟨x.at_, ⟨h2, by simpa using h3⟩, by cases x; simp only at h1; subst h1; rfl⟩
def sameArg (args : List Int) (p : Int × Int) : Bool := decide (args[p.1.toNat]? = args[p.2.toNat]?)
def acP (d : Dom) (i : Nat) (s : Sch) (args : List Int) : Option Ac := if s.diff.any (sameArg args) = true then none else match needP d args s.pre [] with
  | none => none
  | some n => some ⟨i, args, n, addOf (sdA (s.add.map (bindA args))) (sdA (s.del.map (bindA args))), delOf (sdA (s.add.map (bindA args))) (sdA (s.del.map (bindA args))), s.cost⟩
def actsP (d : Dom) : List Ac := (List.range d.schemas.length).flatMap fun i => match d.schemas[i]? with
  | none => []
  | some s => (argL d s.types).filterMap (acP d i s)
inductive All2 {α β : Type} (R : α → β → Prop) : List α → List β → Prop where
  | nil : All2 R [] []
  | cons {a b l m} : R a b → All2 R l m → All2 R (a :: l) (b :: m)
theorem All2.append {α β : Type} {R : α → β → Prop} {l1 l2 : List α} {m1 m2 : List β} (h : All2 R l1 m1) (k : All2 R l2 m2) : All2 R (l1 ++ l2) (m1 ++ m2) := by
  induction h with
  | nil => exact k
  | cons h _ ih => exact .cons h ih
theorem All2.length {α β : Type} {R : α → β → Prop} {l : List α} {m : List β} (h : All2 R l m) : l.length = m.length := by
  induction h with
  | nil => rfl
  | cons _ _ ih => simp [ih]
theorem All2.map {α β γ : Type} {R : α → β → Prop} {f : α → γ} {g : β → γ} (hf : ∀ a b, R a b → f a = g b) {l : List α} {m : List β} (h : All2 R l m) : l.map f = m.map g := by
  induction h with
  | nil => rfl
  | cons h _ ih => simp [hf _ _ h, ih]
theorem All2.flatMap {α β γ : Type} {R : α → β → Prop} {f : γ → List α} {g : γ → List β} : ∀ {l : List γ}, (∀ x ∈ l, All2 R (f x) (g x)) → All2 R (l.flatMap f) (l.flatMap g)
  | [], _ => .nil
  | x :: r, h => by
    rw [List.flatMap_cons, List.flatMap_cons]
    exact (h x (by simp)).append (All2.flatMap fun y hy => h y (by simp [hy]))
def inAt (facts l : List Lit) (i : Nat) : Bool := match facts[i]? with
  | some x => decide (x ∈ l)
  | none => false
def nums (facts l : List Lit) : List Int := selK (inAt facts l) facts.length
structure RS where
  used : List Bool
  hv : List Lit
  again : Bool
def readyB (a : Ac) (hv : List Lit) : Bool := a.pre.all fun x => decide (x ∈ hv)
def stepR (acts : List Ac) (s : RS) (i : Nat) : RS := match acts[i]? with
  | none => s
  | some a => if s.used[i]? = some false ∧ readyB a s.hv = true then ⟨s.used.set i true, s.hv ++ a.add, true⟩ else s
def passK (acts : List Ac) (s : RS) (k : Nat) : RS := (List.range k).foldl (stepR acts) s
theorem passK_succ (acts : List Ac) (s : RS) (k : Nat) : passK acts s (k + 1) = stepR acts (passK acts s k) k := by
  unfold passK
  rw [List.range_succ, List.foldl_append]
  rfl
def pass (acts : List Ac) (s : RS) : RS := passK acts ⟨s.used, s.hv, false⟩ acts.length
def runR (acts : List Ac) : Nat → RS → RS
  | 0, s => s
  | n + 1, s => if s.again = true then runR acts n (pass acts s) else s
def unused (s : RS) : Nat := s.used.count false
theorem count_set {l : List Bool} {i : Nat} (h : l[i]? = some false) : (l.set i true).count false + 1 = l.count false := by
  induction l generalizing i with
  | nil => simp at h
  | cons b r ih =>
    cases i with
    | zero =>
      simp only [List.getElem?_cons_zero, Option.some.injEq] at h
      subst h
      simp
    | succ i =>
      have := ih (i := i) (by simpa using h)
      simp only [List.set_cons_succ, List.count_cons]
      omega
theorem stepR_len (acts : List Ac) (s : RS) (i : Nat) : (stepR acts s i).used.length = s.used.length := by
  unfold stepR
  split
  · rfl
  · split
    · simp
    · rfl
theorem passK_len (acts : List Ac) (s : RS) : ∀ k, (passK acts s k).used.length = s.used.length
  | 0 => rfl
  | k + 1 => by rw [passK_succ, stepR_len, passK_len]
theorem stepR_unused (acts : List Ac) (s : RS) (i : Nat) : stepR acts s i = s ∨ (unused (stepR acts s i) + 1 = unused s ∧ (stepR acts s i).again = true) := by
  unfold stepR
  split
  · exact .inl rfl
  · split
    · rename_i h
      exact .inr ⟨count_set h.1, rfl⟩
    · exact .inl rfl
theorem passK_unused (acts : List Ac) (s : RS) : ∀ k, unused (passK acts s k) ≤ unused s ∧ ((passK acts s k).again = true → s.again = true ∨ unused (passK acts s k) + 1 ≤ unused s)
  | 0 => ⟨Nat.le_refl _, fun h => .inl h⟩
  | k + 1 => by
    obtain ⟨h1, h2⟩ := passK_unused acts s k
    rw [passK_succ]
    rcases stepR_unused acts (passK acts s k) k with e | ⟨e1, e2⟩
    · rw [e]; exact ⟨h1, h2⟩
    · exact ⟨by omega, fun _ => .inr (by omega)⟩
theorem pass_unused (acts : List Ac) (s : RS) : unused (pass acts s) ≤ unused s ∧ ((pass acts s).again = true → unused (pass acts s) + 1 ≤ unused s) := by
  obtain ⟨h1, h2⟩ := passK_unused acts ⟨s.used, s.hv, false⟩ acts.length
  refine ⟨h1, fun h => ?_⟩
  rcases h2 h with h | h
  · cases h
  · exact h
theorem runR_more (acts : List Ac) : ∀ (n m : Nat) (s : RS), unused s + 1 ≤ n → n ≤ m → runR acts m s = runR acts n s
  | 0, m, s, h, _ => by omega
  | n + 1, 0, s, _, h => by omega
  | n + 1, m + 1, s, h1, h2 => by
    simp only [runR]
    split
    · rename_i ha
      obtain ⟨p1, p2⟩ := pass_unused acts s
      cases hp : (pass acts s).again with
      | true => exact runR_more acts n m _ (by have := p2 hp; omega) (by omega)
      | false =>
        have e : ∀ k, runR acts k (pass acts s) = pass acts s := fun k => by cases k <;> simp [runR, hp]
        rw [e, e]
    · rfl
def reachF (acts : List Ac) (s : RS) : RS := runR acts (unused s + 1) s
theorem reachF_step {acts : List Ac} {s : RS} (h : s.again = true) : reachF acts s = reachF acts (pass acts s) := by
  obtain ⟨p1, p2⟩ := pass_unused acts s
  unfold reachF
  rw [show runR acts (unused s + 1) s = runR acts (unused s) (pass acts s) by simp [runR, h]]
  cases hp : (pass acts s).again with
  | true => exact runR_more acts _ _ _ (by have := p2 hp; omega) (by have := p2 hp; omega)
  | false =>
    have e : ∀ k, runR acts k (pass acts s) = pass acts s := fun k => by cases k <;> simp [runR, hp]
    rw [e, e]
theorem reachF_end {acts : List Ac} {s : RS} (h : s.again = false) : reachF acts s = s := by simp [reachF, runR, h]
structure Grd where
  task : STask
  facts : List Lit
  insts : List (Nat × List Int)
def grZ : Grd := ⟨skZ, [], []⟩
def insV (i : Nat × List Int) : V := .agg [.int .i64 i.1, .sl .p (i.2.map i64V)]
def grdV (g : Grd) : V := .agg [.int .i64 g.task.facts, .sl .p (g.task.init.map i64V), .sl .p (g.task.goal.map i64V), .sl .p (g.task.ops.map soV), .sl .p (g.facts.map litV), .sl .p (g.insts.map insV)]
def opOf (facts : List Lit) (a : Ac) : SOp := ⟨nums facts a.pre, nums facts a.add, nums facts a.del, a.cost⟩
def trueAt (d : Dom) (facts : List Lit) (i : Nat) : Bool := match facts[i]? with
  | some x => trueL d x
  | none => false
def initOf (d : Dom) (facts : List Lit) : List Int := selK (trueAt d facts) facts.length
def grdOf (d : Dom) (facts : List Lit) (acts : List Ac) : Grd := ⟨⟨facts.length, initOf d facts, nums facts d.goal, acts.map (opOf facts)⟩, facts, acts.map fun a => (a.sch, a.args)⟩
def bigG (facts : List Lit) (acts : List Ac) : Bool := decide (facts.length > 24) || decide (acts.length > 40)
theorem bigG_no {facts : List Lit} {acts : List Ac} (h : bigG facts acts = false) : facts.length ≤ 24 ∧ acts.length ≤ 40 := by
  unfold bigG at h
  simp only [Bool.or_eq_false_iff, decide_eq_false_iff_not] at h
  omega
theorem bigG_yes {facts : List Lit} {acts : List Ac} (h : bigG facts acts = true) : facts.length > 24 ∨ acts.length > 40 := by
  unfold bigG at h
  simpa using h
def buildG (d : Dom) (facts : List Lit) (acts : List Ac) : Grd := if bigG facts acts = true then grZ else grdOf d facts acts
def buildF (facts : List Lit) (acts : List Ac) : Flt := if bigG facts acts = true then ⟨10, -8⟩ else okF
def rs0 (d : Dom) (n : Nat) : RS := ⟨List.replicate n false, (factL d).filter (trueL d), true⟩
def rsOf (d : Dom) (acts : List Ac) : RS := reachF acts (rs0 d acts.length)
def rFacts (d : Dom) (s : RS) : List Lit := (factL d).filter fun x => decide (x ∈ s.hv) || decide (x ∈ d.goal)
def pickU (acts : List Ac) (u : List Bool) (k : Nat) : List Ac := (List.range k).filterMap fun i => if u[i]? = some true then acts[i]? else none
def rActs (acts : List Ac) (s : RS) : List Ac := pickU acts s.used acts.length
theorem pickU_succ (acts : List Ac) (u : List Bool) (k : Nat) : pickU acts u (k + 1) = pickU acts u k ++ (if u[k]? = some true then acts[k]? else none).toList := by
  unfold pickU
  rw [List.range_succ, List.filterMap_append]
  congr 1
end Hm
end
section
namespace Hm
open Go
set_option maxRecDepth 100000
set_option maxHeartbeats 4000000
def c_ground_hasAtom_1 : Cmd :=
 (qS [qx 2 8128130 2 0, qb 3 false]
 (.seq (.ops [qL 4 2 1, qL 5 2 2, qk 6 118 [4, 5], qv 7 .eql [.i] 6 0, qm 3 7]) .ret))
def r_ground_hasAtom_1 : List RVar := [.tmp 3]
def n_ground_hasAtom_1 : Nat := 8
theorem k_ground_hasAtom_1 : chkFn Go.Proofs.Tryz.prog 127 n_ground_hasAtom_1 r_ground_hasAtom_1 c_ground_hasAtom_1 = true := by kernel_rfl
theorem f_hasAtom_1 (u t : At) (hu : AtOk u) (ht : AtOk t) : Fc Go.Proofs.Tryz.prog 127 [atV u, .cptr .p (atV t) 0] (.bool (decide (t = u))) := by
  have h := f_domain_Compare t u ht hu
  refine Fn.step mixed k_ground_hasAtom_1 ?_
  repeat' (first | refine i_s rfl ?_ | refine sw ?_ | refine i_box rfl rfl ?_ | refine sf rfl rfl h ?_ | fail)
  refine e_ret ⟨rfl, _, rfl, congrArg V.bool ?_⟩
  by_cases e : t = u
  · rw [atomOrd_zero.2 e, decide_eq_true e]; rfl
  · have : atomOrd t u ≠ 0 := fun h => e (atomOrd_zero.1 h)
    rw [decide_eq_false e]
    simpa using this
def c_ground_hasAtom : Cmd :=
 (qS [qx 3 5952194 2 1, qb 4 false]
 (.seq (.ops [qm 5 0, qq 6 (.mkfn 127 [.t 3]), qk 7 116 [5, 6], qm 4 7]) .ret))
def r_ground_hasAtom : List RVar := [.tmp 4]
def n_ground_hasAtom : Nat := 8
theorem k_ground_hasAtom : chkFn Go.Proofs.Tryz.prog 93 n_ground_hasAtom r_ground_hasAtom c_ground_hasAtom = true := by kernel_rfl
theorem f_hasAtom (l : List At) (a : At) (hl : l.length ≤ 140737488355328) (ho : ∀ x ∈ l, AtOk x) (ha : AtOk a) : Fc Go.Proofs.Tryz.prog 93 [.sl .p (l.map atV), atV a] (.bool (decide (a ∈ l))) := by
  have hC := f_ContainsFunc_Atom l (fun u => decide (a = u)) 127 [.cptr .p (atV a) 0] hl (fun _ _ => rfl) rfl (fun u hu => f_hasAtom_1 u a (ho u hu) ha)
  have hany : l.any (fun u => decide (a = u)) = decide (a ∈ l) := by
    rw [Bool.eq_iff_iff]
    simp
  rw [hany] at hC
  refine Fn.step mixed k_ground_hasAtom ?_
  repeat' (first | refine i_s rfl ?_ | refine sw ?_ | refine i_box rfl rfl ?_ | refine sf rfl rfl hC ?_ | fail)
  exact e_ret ⟨rfl, _, rfl, rfl⟩
def c_ground_hasLiteral_1 : Cmd :=
 (qS [qx 2 6144131 3 0, qb 3 false]
 (.seq (.ops [qL 4 3 1, qL 5 3 2, qk 6 97 [4, 5], qv 7 .eql [.i] 6 0, qm 3 7]) .ret))
def r_ground_hasLiteral_1 : List RVar := [.tmp 3]
def n_ground_hasLiteral_1 : Nat := 8
theorem k_ground_hasLiteral_1 : chkFn Go.Proofs.Tryz.prog 96 n_ground_hasLiteral_1 r_ground_hasLiteral_1 c_ground_hasLiteral_1 = true := by kernel_rfl
theorem f_hasLiteral_1 (u t : Lit) (hu : AtOk u.at_) (ht : AtOk t.at_) : Fc Go.Proofs.Tryz.prog 96 [litV u, .cptr .p (litV t) 0] (.bool (decide (t = u))) := by
  have h := f_CompareLiterals t u ht hu
  refine Fn.step mixed k_ground_hasLiteral_1 ?_
  repeat' (first | refine i_s rfl ?_ | refine sw ?_ | refine i_box rfl rfl ?_ | refine sf rfl rfl h ?_ | fail)
  refine e_ret ⟨rfl, _, rfl, congrArg V.bool ?_⟩
  by_cases e : t = u
  · rw [litOrd_zero.2 e, decide_eq_true e]; rfl
  · have : litOrd t u ≠ 0 := fun h => e (litOrd_zero.1 h)
    rw [decide_eq_false e]
    simpa using this
def c_ground_hasLiteral : Cmd :=
 (qS [qx 3 2944195 3 1, qb 4 false]
 (.seq (.ops [qm 5 0, qq 6 (.mkfn 96 [.t 3]), qk 7 95 [5, 6], qm 4 7]) .ret))
def r_ground_hasLiteral : List RVar := [.tmp 4]
def n_ground_hasLiteral : Nat := 8
theorem k_ground_hasLiteral : chkFn Go.Proofs.Tryz.prog 46 n_ground_hasLiteral r_ground_hasLiteral c_ground_hasLiteral = true := by kernel_rfl
theorem f_hasLiteral (l : List Lit) (a : Lit) (hl : l.length ≤ 140737488355328) (ho : ∀ x ∈ l, AtOk x.at_) (ha : AtOk a.at_) : Fc Go.Proofs.Tryz.prog 46 [.sl .p (l.map litV), litV a] (.bool (decide (a ∈ l))) := by
  have hC := f_ContainsFunc_Literal l (fun u => decide (a = u)) 96 [.cptr .p (litV a) 0] hl (fun _ _ => rfl) rfl (fun u hu => f_hasLiteral_1 u a (ho u hu) ha)
  have hany : l.any (fun u => decide (a = u)) = decide (a ∈ l) := by
    rw [Bool.eq_iff_iff]
    simp
  rw [hany] at hC
  refine Fn.step mixed k_ground_hasLiteral ?_
  repeat' (first | refine i_s rfl ?_ | refine sw ?_ | refine i_box rfl rfl ?_ | refine sf rfl rfl hC ?_ | fail)
  exact e_ret ⟨rfl, _, rfl, rfl⟩
def c_ground_not : Cmd :=
 (qS [qx 1 7936067 3 0, qq 2 (.alloc 7936131 (.agg [.bool false, .int .i64 0, .sl .nil []]))]
 (.seq (.ops [qf 3 0 1, ql 4 1 3, qq 5 (.not (.t 4)), qf 6 1 1, qL 7 2 6, qq 8 (.build [.bool false, .int .i64 0, .sl .nil []] [(0 , 1 , .t 5), (1 , 2 , .t 7)]), qs 3 2 8]) .ret))
def r_ground_not : List RVar := [.cell true 3 2]
def n_ground_not : Nat := 9
theorem k_ground_not : chkFn Go.Proofs.Tryz.prog 124 n_ground_not r_ground_not c_ground_not = true := by kernel_rfl
theorem f_ground_not (x : Lit) : Fc Go.Proofs.Tryz.prog 124 [litV x] (litV (opp x)) := by
  refine Fn.step mixed k_ground_not ?_
  repeat' (first | refine i_s rfl ?_ | refine sw ?_ | refine i_stb rfl ?_ | refine i_alloc rfl ?_ | refine i_box rfl rfl ?_)
  exact e_ret ⟨rfl, _, rfl, rfl⟩
def grV (d : Dom) (fl ng : List Bool) : V := .agg [.sl .p (d.types.map tyV), .sl .p (d.objects.map obV), .sl .p (d.preds.map prdV), .sl .p (d.schemas.map schV), .sl .p (d.init.map atV), .sl .p (d.goal.map litV), .sl .p (fl.map V.bool), .sl .p (ng.map V.bool)]
abbrev grP (d : Dom) (fl ng : List Bool) : V := .cptr .p (grV d fl ng) 0
def c_ground_grounder_initially : Cmd :=
 (qS [qx 3 2688195 3 1, qb 4 false]
 (.seq (.ops [qm 5 0, qq 6 (.nilck (.t 5)), qf 7 0 6, qf 8 4 7, ql 9 1 8, qf 10 1 3, qL 11 2 10, qk 12 93 [9, 11], qf 13 0 3, ql 14 1 13, qu 15 .neq [.b] 12 14, qm 4 15]) .ret))
def r_ground_grounder_initially : List RVar := [.tmp 4]
def n_ground_grounder_initially : Nat := 16
theorem k_ground_grounder_initially : chkFn Go.Proofs.Tryz.prog 42 n_ground_grounder_initially r_ground_grounder_initially c_ground_grounder_initially = true := by kernel_rfl
theorem f_initially (d : Dom) (fl ng : List Bool) (hl : d.init.length ≤ 140737488355328) (ho : ∀ x ∈ d.init, AtOk x) (x : Lit) (hx : AtOk x.at_) : Fc Go.Proofs.Tryz.prog 42 [grP d fl ng, litV x] (.bool (trueL d x)) := by
  have hA := f_hasAtom d.init x.at_ hl ho hx
  refine Fn.step mixed k_ground_grounder_initially ?_
  repeat' (first | refine i_s rfl ?_ | refine sw ?_ | refine i_box rfl rfl ?_ | refine sf rfl rfl hA ?_ | fail)
  refine e_ret ⟨rfl, _, rfl, congrArg V.bool ?_⟩
  unfold trueL
  generalize decide (x.at_ ∈ d.init) = b
  cases b <;> cases x.neg <;> rfl
def c_ground_index : Cmd :=
 (qS [qq 4 (.mov (.c (.sl .nil [])))]
 (qS [qq 5 (.newVec 2752321)]
 (qT (qS [qm 8 0, qn 9 8, qc 10 0]
 (.block 0 (.loop (qS [qu 11 .lss [] 10 9]
 (qT (.cond (.t 11) .skip (.exit 0))
 (qT (.block 1 (qS [qm 12 10, qi 13 3 8 10, qL 14 3 13, qq 7 (.alloc 2752451 (.agg [.bool false, .int .i64 0, .sl .nil []])), qm 6 12, qs 3 7 14]
 (qS [qm 15 1, qL 16 3 7, qk 17 46 [15, 16]]
 (.cond (.t 17) (.ops [qm 18 5, qm 19 6, qq 20 (.bsl 1 [.t 19]), qq 21 (.append 1 8 3 (.t 18) (.t 20)), qm 5 21]) .skip))))
 (.ops [qv 22 .add [] 10 1, qm 10 22])))))))
 (.seq (.ops [qm 23 5, qm 4 23]) .ret))))
def r_ground_index : List RVar := [.tmp 4]
def n_ground_index : Nat := 24
theorem k_ground_index : chkFn Go.Proofs.Tryz.prog 43 n_ground_index r_ground_index c_ground_index = true := by kernel_rfl
theorem f_index (facts l : List Lit) (hf : facts.length ≤ 1000000) (hl : l.length ≤ 140737488355328) (hof : ∀ x ∈ facts, AtOk x.at_) (hol : ∀ x ∈ l, AtOk x.at_) : Fc Go.Proofs.Tryz.prog 43 [.sl .p (facts.map litV), .sl .p (l.map litV)] (.sl .p ((nums facts l).map i64V)) := by
  refine Fn.step mixed k_ground_index ?_
  repeat (first | refine i_len rfl ?_ | refine i_s rfl ?_ | refine sw ?_ | refine i_nv rfl ?_)
  refine c_for facts.length (fun k => [(0, .sl .p (facts.map litV)), (1, .sl .p (l.map litV)), (5, .sl (.own 2752321) ((selK (inAt facts l) k).map i64V)), (8, .sl .p (facts.map litV)), (9, .int .i64 facts.length), (10, .int .i64 k)]) (fun k => [(2752321, .vec (selK (inAt facts l) k).length)]) (fun _ => True) trivial ft fun k hk _ => ?_
  have hkl := selK_len (inAt facts l) k
  by_cases hlt : k < facts.length
  · obtain ⟨x, hx⟩ := get_some hlt
    have hH := f_hasLiteral l x hl hol (hof x (mem_get hx))
    have hin : inAt facts l k = decide (x ∈ l) := by unfold inAt; rw [hx]
    have hs := selK_succ (inAt facts l) k
    rw [hin] at hs
    by_cases hm : x ∈ l
    · rw [decide_eq_true hm] at hH hs
      rw [if_pos rfl] at hs
      repeat' (first | refine i_s rfl ?_ | refine sw ?_ | refine c_t rfl ?_ | refine jd rfl rfl ?_ | refine i_stb rfl ?_ | refine i_alloc rfl ?_ | refine c_cond rfl (fun h => ?_) (fun h => ?_) | refine sf rfl rfl hH ?_ | fail)
      all_goals first
        | (exfalso; clear hH; simp at *; done)
        | (exfalso; clear hH; simp at *; omega)
        | skip
      refine i_appM (c := (k : Int)) rfl rfl rfl rfl rfl (by omega) (by omega) ?_
      repeat' (first | refine i_s rfl ?_ | refine sw ?_ | refine ja rfl rfl ?_ | fail)
      refine e_for hlt trivial ⟨⟨rfl, rfl, ?_, rfl, rfl, rfl, trivial⟩, ⟨?_, trivial⟩, rfl⟩
      · rw [hs]; rfl
      · rw [hs]; simp; rfl
    · rw [decide_eq_false hm] at hH hs
      rw [if_neg (by simp), List.append_nil] at hs
      repeat' (first | refine i_s rfl ?_ | refine sw ?_ | refine c_f rfl ?_ | refine ja rfl rfl ?_ | refine jd rfl rfl ?_ | refine i_stb rfl ?_ | refine i_alloc rfl ?_ | refine c_cond rfl (fun h => ?_) (fun h => ?_) | refine sf rfl rfl hH ?_ | fail)
      all_goals first
        | (exfalso; clear hH; simp at *; done)
        | (exfalso; clear hH; simp at *; omega)
        | skip
      refine e_for hlt trivial ⟨⟨rfl, rfl, ?_, rfl, rfl, rfl, trivial⟩, ⟨?_, trivial⟩, rfl⟩
      · rw [hs]; rfl
      · rw [hs]; rfl
  · have hge : k = facts.length := by omega
    subst hge
    repeat' (first | refine i_s rfl ?_ | refine sw ?_ | refine c_cond rfl (fun h => ?_) (fun h => ?_))
    all_goals first
      | exact e_ret ⟨rfl, _, rfl, rfl⟩
      | (exfalso; simp at *; done)
      | (exfalso; simp at *; omega)
def flagsL (n : Nat) (q : Nat → Bool) : List Bool := (List.range n).map q
theorem flags_len (n : Nat) (q : Nat → Bool) : (flagsL n q).length = n := by simp [flagsL]
theorem flags_get {n : Nat} {q : Nat → Bool} {i : Nat} (h : i < n) : (flagsL n q)[i]? = some (q i) := by simp [flagsL, h]
theorem flags_zero (n : Nat) : List.replicate n (V.bool false) = (flagsL n fun _ => false).map V.bool := by
  apply List.ext_getElem?
  intro k
  simp only [flagsL, List.map_map, List.getElem?_map, List.getElem?_replicate]
  by_cases h : k < n
  · simp [h]
  · simp [h]
theorem flags_or {n : Nat} {q q' : Nat → Bool} {c : Int} {b : Bool} (h0 : 0 ≤ c) (h1 : c < n) (hq : ∀ p, p < n → q' p = (q p || (b && decide (c = (p : Int))))) : ((flagsL n q).map V.bool).set c.toNat (.bool (q c.toNat || b)) = (flagsL n q').map V.bool := by
  apply List.ext_getElem?
  intro k
  rw [List.getElem?_set]
  simp only [List.length_map, flags_len]
  by_cases hk : k < n
  · simp only [List.getElem?_map, flags_get hk, Option.map_some]
    rw [hq k hk]
    by_cases e : c.toNat = k
    · subst e
      rw [if_pos rfl, if_pos (by omega), decide_eq_true (by omega), Bool.and_true]
    · rw [if_neg e, decide_eq_false (by omega), Bool.and_false, Bool.or_false]
  · have h2 : (flagsL n q')[k]? = none := List.getElem?_eq_none_iff.2 (by rw [flags_len]; omega)
    have h3 : (flagsL n q)[k]? = none := List.getElem?_eq_none_iff.2 (by rw [flags_len]; omega)
    rw [if_neg (by omega)]
    simp [h2, h3]
def hasP (l : List Lit) (p : Nat) : Bool := l.any fun x => decide (x.at_.pred = (p : Int))
def hasN (l : List Lit) (p : Nat) : Bool := l.any fun x => x.neg && decide (x.at_.pred = (p : Int))
def hasA (l : List At) (p : Nat) : Bool := l.any fun a => decide (a.pred = (p : Int))
def schF (l : List Sch) (p : Nat) : Bool := l.any fun s => hasA s.add p || hasA s.del p
def schN (l : List Sch) (p : Nat) : Bool := l.any fun s => hasN s.pre p
theorem any_take_succ {α : Type} {l : List α} {k : Nat} {x : α} (h : l[k]? = some x) (p : α → Bool) : (l.take (k + 1)).any p = ((l.take k).any p || p x) := by
  rw [take_succ_get h, List.any_append]; simp
def fluF (d : Dom) (p : Nat) : Bool := fluB d (p : Int)
def denF (d : Dom) (p : Nat) : Bool := denB d (p : Int)
abbrev fluL (d : Dom) : List Bool := flagsL d.preds.length (fluF d)
abbrev denL (d : Dom) : List Bool := flagsL d.preds.length (denF d)
abbrev flV (n : Nat) (q : Nat → Bool) : List V := (flagsL n q).map V.bool
theorem goal_pred {d : Dom} (hd : DomV d) {x : Lit} (h : x ∈ d.goal) : 0 ≤ x.at_.pred ∧ x.at_.pred < d.preds.length := (atom_args ((atomsCode_all hd.goal).2 _ (List.mem_map_of_mem h))).1
def c_ground_fluents : Cmd :=
 (qS [qx 1 5184070 6 0, qq 2 (.mov (.c (.sl .nil []))), qq 3 (.mov (.c (.sl .nil [])))]
 (qT (.opsT (.node 3 7 (.leaf [0, 1, 2, 4, 5, 6, 3, 8, 7, 9]) (.leaf [0, 1, 2, 4, 5, 6, 7, 3, 8, 9])) [qf 14 2 1, ql 15 1 14, qn 16 15, qq 17 (.mkSl 5185089 1 1 (.bool false) (.t 16) (.t 16)), qf 18 2 1, ql 19 1 18, qn 20 19, qq 21 (.mkSl 5185345 1 1 (.bool false) (.t 20) (.t 20)), qm 2 17, qm 3 21])
 (qT (qS [qf 22 5 1, ql 23 1 22, qn 24 23, qc 25 0]
 (.block 0 (.loop (qS [qu 26 .lss [] 25 24]
 (qT (.cond (.t 26) .skip (.exit 0))
 (qT (.block 1 (qS [qi 27 3 23 25, qL 28 3 27, qq 5 (.alloc 5184323 (.agg [.bool false, .int .i64 0, .sl .nil []])), qs 3 5 28]
 (qS [qm 29 2, qf 30 1 5, qf 31 0 30, ql 32 1 31, qi 33 1 29 32, .op none none (.store 1 (.t 33) (.c (.bool true)))]
 (.ops [qm 34 3, qf 35 1 5, qf 36 0 35, ql 37 1 36, qm 38 3, qf 39 1 5, qf 40 0 39, ql 41 1 40, qi 42 1 38 41, ql 43 1 42, qm 44 43, qg 45 44 false (.faddr 0 (.t 5)), qg 46 44 false (.load false 1 (.t 45)), qq 47 (.pick (.t 44) (.c (.bool true)) (.t 46)), qi 48 1 34 37, qs 1 48 47]))))
 (.ops [qv 49 .add [] 25 1, qm 25 49])))))))
 (qT (qS [qf 50 3 1, ql 51 1 50, qn 52 51, qc 53 0]
 (.block 2 (.loop (qS [qu 54 .lss [] 53 52]
 (qT (.cond (.t 54) .skip (.exit 2))
 (qT (.block 3 (qS [qi 55 7 51 53, qL 56 7 55, qq 7 (.alloc 5184455 (.agg [.str [], .sl .nil [], .sl .nil [], .sl .nil [], .sl .nil [], .sl .nil [], .int .i64 0])), qs 7 7 56]
 (qT (qS [qf 57 4 7, ql 58 1 57, qf 59 5 7, ql 60 1 59, qq 61 (.bsl 1 [.t 58, .t 60]), qn 62 61, qc 63 0]
 (.block 4 (.loop (qS [qu 64 .lss [] 63 62]
 (qT (.cond (.t 64) .skip (.exit 4))
 (qT (.block 5 (qS [qi 65 1 61 63, ql 66 1 65, qm 9 66]
 (qS [qm 67 9, qn 68 67, qc 69 0]
 (.block 6 (.loop (qS [qu 70 .lss [] 69 68]
 (qT (.cond (.t 70) .skip (.exit 6))
 (qT (.block 7 (qS [qi 71 2 67 69, qL 72 2 71, qq 11 (.alloc 5184706 (.agg [.int .i64 0, .sl .nil []])), qs 2 11 72]
 (.ops [qm 73 2, qf 74 0 11, ql 75 1 74, qi 76 1 73 75, .op none none (.store 1 (.t 76) (.c (.bool true)))])))
 (.ops [qv 77 .add [] 69 1, qm 69 77])))))))))
 (.ops [qv 78 .add [] 63 1, qm 63 78])))))))
 (qS [qf 79 3 7, ql 80 1 79, qn 81 80, qc 82 0]
 (.block 8 (.loop (qS [qu 83 .lss [] 82 81]
 (qT (.cond (.t 83) .skip (.exit 8))
 (qT (.block 9 (qS [qi 84 3 80 82, qL 85 3 84, qq 13 (.alloc 5184835 (.agg [.bool false, .int .i64 0, .sl .nil []])), qs 3 13 85]
 (.ops [qm 86 3, qf 87 1 13, qf 88 0 87, ql 89 1 88, qm 90 3, qf 91 1 13, qf 92 0 91, ql 93 1 92, qi 94 1 90 93, ql 95 1 94, qm 96 95, qg 97 96 false (.faddr 0 (.t 13)), qg 98 96 false (.load false 1 (.t 97)), qq 99 (.pick (.t 96) (.c (.bool true)) (.t 98)), qi 100 1 86 89, qs 1 100 99])))
 (.ops [qv 101 .add [] 82 1, qm 82 101]))))))))))
 (.ops [qv 102 .add [] 53 1, qm 53 102])))))))
 (.seq (.ops [qm 103 2, qm 104 3, qm 2 103, qm 3 104]) .ret)))))
def r_ground_fluents : List RVar := [.tmp 2, .tmp 3]
def n_ground_fluents : Nat := 105
theorem k_ground_fluents : chkFn Go.Proofs.Tryz.prog 81 n_ground_fluents r_ground_fluents c_ground_fluents = true := by kernel_rfl
abbrev fluS (d : Dom) (F N : List V) (r : List (Nat × Blk)) : List (Nat × Blk) := (5184070, .box (domV d)) :: (5185089, .arr 0 F) :: (5185345, .arr 0 N) :: r
abbrev fluE (n : Nat) (r : List (Nat × V)) : List (Nat × V) := (1, .bptr 5184070 0) :: (2, .msl 5185089 0 0 n) :: (3, .msl 5185345 0 0 n) :: r
theorem f_fluents (d : Dom) (hd : DomV d) : Fc Go.Proofs.Tryz.prog 81 [domV d] (.tup [.sl .p ((fluL d).map V.bool), .sl .p ((denL d).map V.bool)]) := by
  obtain ⟨n, hn⟩ : ∃ n, n = d.preds.length := ⟨_, rfl⟩
  have hn8 : n ≤ 8 := by rw [hn]; exact hd.pl
  have hgl : d.goal.length ≤ 8 := by simpa using (atomsCode_all hd.goal).1
  have hsl := hd.sl
  refine Fn.step mixed k_ground_fluents ?_
  repeat (first | refine i_s rfl ?_ | refine sw ?_ | refine i_box rfl rfl ?_)
  refine c_join noH_mono (fun e ρ' σ' g' => e = .normal ∧ g' = () ∧ Fits [] (fluE n []) (fluS d (flV n fun _ => false) (flV n fun _ => false) []) ρ' σ') ?_ ?_
  · repeat' (first | refine i_len rfl ?_ | refine i_s rfl ?_ | refine sw ?_ | refine c_node ?_ ?_)
    all_goals
      refine i_mks rfl rfl rfl (by omega) (by omega) (by omega) (by omega) rfl ?_
      repeat' refine i_s rfl ?_
    all_goals
      refine i_mks rfl rfl rfl (by omega) (by omega) (by omega) (by omega) rfl ?_
      repeat' (first | refine i_s rfl ?_ | refine sw ?_ | fail)
    all_goals
      refine e_end ⟨rfl, rfl, ⟨rfl, ?_, ?_, trivial⟩, ⟨rfl, ?_, ?_, trivial⟩, rfl⟩
      · show V.msl _ 0 0 _ = _; rw [hn]; simp
      · show V.msl _ 0 0 _ = _; rw [hn]; simp
      · rw [hn]; exact congrArg (Blk.arr 0) (flags_zero d.preds.length)
      · rw [hn]; exact congrArg (Blk.arr 0) (flags_zero d.preds.length)
  rintro _ ρ' σ' g' ⟨rfl, rfl, hf⟩
  refine e_seq ?_
  refine c_cut _ _ hf ?_
  clear hf
  repeat (first | refine i_len rfl ?_ | refine i_s rfl ?_ | refine sw ?_)
  refine c_for d.goal.length (fun k => fluE n [(23, .sl .p (d.goal.map litV)), (24, .int .i64 d.goal.length), (25, .int .i64 k)]) (fun k => fluS d (flV n (hasP (d.goal.take k))) (flV n (hasN (d.goal.take k))) []) (fun _ => True) trivial ft fun k hk _ => ?_
  by_cases hlt : k < d.goal.length
  · obtain ⟨x, hx⟩ := get_some hlt
    obtain ⟨p0, p1⟩ := goal_pred hd (mem_get hx)
    rw [← hn] at p1
    have p2 : x.at_.pred.toNat < n := by omega
    have hF := flags_or (n := n) (q := hasP (d.goal.take k)) (q' := hasP (d.goal.take (k + 1))) (b := true) p0 p1 fun p _ => by
      unfold hasP; rw [any_take_succ hx, Bool.true_and]
    have hN := flags_or (n := n) (q := hasN (d.goal.take k)) (q' := hasN (d.goal.take (k + 1))) (b := x.neg) p0 p1 fun p _ => by
      unfold hasN; rw [any_take_succ hx]
    rw [Bool.or_true] at hF
    repeat' (first | refine i_len rfl ?_ | refine i_s rfl ?_ | refine sw ?_ | refine jd rfl rfl ?_ | refine i_stb rfl ?_ | refine i_alloc rfl ?_ | refine c_cond rfl (fun h => ?_) (fun h => ?_))
    all_goals first
      | (exfalso; simp at *; done)
      | (exfalso; simp at *; omega)
      | skip
    refine i_ima rfl rfl rfl rfl p0 p1 rfl ?_
    skip
    refine i_stp (row := .bool (hasP (d.goal.take k) x.at_.pred.toNat)) rfl rfl rfl (by rw [Nat.zero_add, List.getElem?_map, flags_get p2]; rfl) rfl rfl ?_
    repeat (first | refine i_s rfl ?_ | refine sw ?_)
    refine i_ima rfl rfl rfl rfl p0 p1 rfl ?_
    skip
    refine i_ldp (row := .bool (hasN (d.goal.take k) x.at_.pred.toNat)) rfl rfl rfl (by rw [Nat.zero_add, List.getElem?_map, flags_get p2]; rfl) rfl ?_
    repeat refine i_s rfl ?_
    cases hb : hasN (d.goal.take k) x.at_.pred.toNat
    all_goals
      repeat' (first | refine i_s rfl ?_ | refine i_gt rfl ?_ | refine i_gf rfl ?_)
      refine i_ima rfl rfl rfl rfl p0 p1 rfl ?_
      skip
      refine i_stp (row := .bool (hasN (d.goal.take k) x.at_.pred.toNat)) rfl rfl rfl (by rw [Nat.zero_add, List.getElem?_map, flags_get p2]; rfl) rfl rfl ?_
      repeat (first | refine i_s rfl ?_ | refine sw ?_ | refine ja rfl rfl ?_)
      refine e_for hlt trivial ⟨⟨rfl, rfl, rfl, rfl, rfl, rfl, trivial⟩, ⟨rfl, ?_, ?_, trivial⟩, rfl⟩
      · show Blk.arr 0 _ = _
        rw [Nat.zero_add]
        exact congrArg (Blk.arr 0) hF
      · show Blk.arr 0 _ = _
        rw [Nat.zero_add]
        refine congrArg (Blk.arr 0) (Eq.trans ?_ hN)
        rw [hb]; first | rfl | (cases x.neg <;> rfl)
  have hge : k = d.goal.length := by omega
  subst hge
  rw [List.take_length]
  repeat' (first | refine i_len rfl ?_ | refine i_s rfl ?_ | refine sw ?_ | refine c_cond rfl (fun h => ?_) (fun h => ?_))
  all_goals first
    | (exfalso; simp at *; done)
    | (exfalso; simp at *; omega)
    | skip
  refine c_for d.schemas.length (fun k => fluE n [(51, .sl .p (d.schemas.map schV)), (52, .int .i64 d.schemas.length), (53, .int .i64 k)]) (fun k => fluS d (flV n fun p => hasP d.goal p || schF (d.schemas.take k) p) (flV n fun p => hasN d.goal p || schN (d.schemas.take k) p) []) (fun _ => True) trivial ⟨⟨rfl, rfl, rfl, rfl, rfl, rfl, trivial⟩, ⟨rfl, ?_, ?_, trivial⟩, rfl⟩ fun k hk _ => ?_
  · show Blk.arr 0 (flV n _) = Blk.arr 0 (flV n _)
    congr 3; funext p; simp [schF]
  · show Blk.arr 0 (flV n _) = Blk.arr 0 (flV n _)
    congr 3; funext p; simp [schN]
  by_cases hlt : k < d.schemas.length
  · obtain ⟨s, hs⟩ := get_some hlt
    have hv := (schV2_of hd hs).val
    have ha8 := hv.addl
    have hd8 := hv.dell
    have hp8 := hv.prel
    obtain ⟨LL, hLL⟩ : ∃ LL : List (List At), LL = [s.add, s.del] := ⟨_, rfl⟩
    have hLl : LL.length = 2 := by rw [hLL]; rfl
    have hLp : ∀ l ∈ LL, l.length ≤ 8 ∧ ∀ a ∈ l, 0 ≤ a.pred ∧ a.pred < n := fun l hl => by
      rw [hLL] at hl
      simp only [List.mem_cons, List.not_mem_nil, or_false] at hl
      rw [hn]
      rcases hl with rfl | rfl
      · exact ⟨ha8, fun a h => (atom_args (hv.add a h)).1⟩
      · exact ⟨hd8, fun a h => (atom_args (hv.del a h)).1⟩
    have hpp : ∀ x ∈ s.pre, 0 ≤ x.at_.pred ∧ x.at_.pred < n := fun x h => by rw [hn]; exact (atom_args (hv.pre x h)).1
    have hend1 : ∀ p, (hasP d.goal p || schF (d.schemas.take (k + 1)) p) = ((fun p => hasP d.goal p || schF (d.schemas.take k) p) p || hasA LL.flatten p) := fun p => by
      show (hasP d.goal p || schF (d.schemas.take (k + 1)) p) = ((hasP d.goal p || schF (d.schemas.take k) p) || hasA LL.flatten p)
      unfold schF; rw [any_take_succ hs, ← Bool.or_assoc, hLL]; congr 1; simp [hasA]
    have hend2 : ∀ p, (hasN d.goal p || schN (d.schemas.take (k + 1)) p) = ((fun p => hasN d.goal p || schN (d.schemas.take k) p) p || hasN s.pre p) := fun p => by
      show (hasN d.goal p || schN (d.schemas.take (k + 1)) p) = ((hasN d.goal p || schN (d.schemas.take k) p) || hasN s.pre p)
      unfold schN; rw [any_take_succ hs, ← Bool.or_assoc]
    generalize (fun p => hasP d.goal p || schF (d.schemas.take k) p) = F0 at *
    generalize (fun p => hasN d.goal p || schN (d.schemas.take k) p) = N0 at *
    repeat' (first | refine i_s rfl ?_ | refine sw ?_ | refine jd rfl rfl ?_ | refine i_stb rfl ?_ | refine i_alloc rfl ?_ | refine c_cond rfl (fun h => ?_) (fun h => ?_))
    all_goals first
      | (exfalso; simp at *; done)
      | (exfalso; simp at *; omega)
      | skip
    refine c_for 2 (fun j => fluE n [(7, .bptr 5184455 0), (51, .sl .p (d.schemas.map schV)), (52, .int .i64 d.schemas.length), (53, .int .i64 k), (61, .sl .p (LL.map fun l => .sl .p (l.map atV))), (62, .int .i64 2), (63, .int .i64 j)]) (fun j => fluS d (flV n fun p => F0 p || hasA (LL.take j).flatten p) (flV n N0) [(5184455, .box (schV s))]) (fun _ => True) trivial ⟨⟨rfl, rfl, rfl, rfl, rfl, rfl, rfl, ?_, rfl, rfl, trivial⟩, ⟨rfl, ?_, rfl, rfl, trivial⟩, rfl⟩ fun j hj _ => ?_
    · show V.sl .p [_, _] = _; rw [hLL]; rfl
    · show Blk.arr 0 (flV n _) = Blk.arr 0 (flV n _)
      congr 3; funext p; simp [hasA]
    by_cases hlj : j < 2
    · obtain ⟨l, hjl⟩ := get_some (l := LL) (k := j) (by omega)
      obtain ⟨hl8, hlp⟩ := hLp l (mem_get hjl)
      have hf2 : (LL.take (j + 1)).flatten = (LL.take j).flatten ++ l := by rw [take_succ_get hjl, List.flatten_append]; simp
      repeat' (first | refine i_len rfl ?_ | refine i_s rfl ?_ | refine sw ?_ | refine jd rfl rfl ?_ | refine c_cond rfl (fun h => ?_) (fun h => ?_))
      all_goals first
        | (exfalso; simp at *; done)
        | (exfalso; simp at *; omega)
        | skip
      refine c_for l.length (fun i => fluE n [(7, .bptr 5184455 0), (51, .sl .p (d.schemas.map schV)), (52, .int .i64 d.schemas.length), (53, .int .i64 k), (61, .sl .p (LL.map fun l => .sl .p (l.map atV))), (62, .int .i64 2), (63, .int .i64 j), (67, .sl .p (l.map atV)), (68, .int .i64 l.length), (69, .int .i64 i)]) (fun i => fluS d (flV n fun p => F0 p || hasA ((LL.take j).flatten ++ l.take i) p) (flV n N0) [(5184455, .box (schV s))]) (fun _ => True) trivial ⟨⟨rfl, rfl, rfl, rfl, rfl, rfl, rfl, rfl, rfl, rfl, rfl, rfl, rfl, trivial⟩, ⟨rfl, ?_, rfl, rfl, trivial⟩, rfl⟩ fun i hi _ => ?_
      · show Blk.arr 0 (flV n _) = Blk.arr 0 (flV n _)
        congr 3; funext p; simp
      by_cases hli : i < l.length
      · obtain ⟨x, hx⟩ := get_some hli
        obtain ⟨p0, p1⟩ := hlp x (mem_get hx)
        have p2 : x.pred.toNat < n := by omega
        have hF := flags_or (n := n) (q := fun p => F0 p || hasA ((LL.take j).flatten ++ l.take i) p) (q' := fun p => F0 p || hasA ((LL.take j).flatten ++ l.take (i + 1)) p) (b := true) p0 p1 fun p _ => by
          simp only [hasA, Bool.true_and]; rw [take_succ_get hx, ← List.append_assoc, List.any_append, ← Bool.or_assoc]; simp
        rw [Bool.or_true] at hF
        repeat' (first | refine i_s rfl ?_ | refine sw ?_ | refine ja rfl rfl ?_ | refine jd rfl rfl ?_ | refine i_stb rfl ?_ | refine i_alloc rfl ?_ | refine c_cond rfl (fun h => ?_) (fun h => ?_))
        all_goals first
          | (exfalso; simp at *; done)
          | (exfalso; simp at *; omega)
          | skip
        refine i_ima rfl rfl rfl rfl p0 p1 rfl ?_
        skip
        refine i_stp (row := .bool (F0 x.pred.toNat || hasA ((LL.take j).flatten ++ l.take i) x.pred.toNat)) rfl rfl rfl (by rw [Nat.zero_add, List.getElem?_map, flags_get p2]; rfl) rfl rfl ?_
        repeat (first | refine i_s rfl ?_ | refine sw ?_ | refine ja rfl rfl ?_)
        refine e_for hli trivial ⟨⟨rfl, rfl, rfl, rfl, rfl, rfl, rfl, rfl, rfl, rfl, rfl, rfl, rfl, trivial⟩, ⟨rfl, ?_, rfl, rfl, trivial⟩, rfl⟩
        show Blk.arr 0 _ = _
        rw [Nat.zero_add]
        exact congrArg (Blk.arr 0) hF
      have hge : i = l.length := by omega
      subst hge
      rw [List.take_length]
      repeat' (first | refine i_s rfl ?_ | refine sw ?_ | refine ja rfl rfl ?_ | refine c_cond rfl (fun h => ?_) (fun h => ?_))
      all_goals first
        | (exfalso; simp at *; done)
        | (exfalso; simp at *; omega)
        | skip
      refine e_for hlj trivial ⟨⟨rfl, rfl, rfl, rfl, rfl, rfl, rfl, rfl, rfl, rfl, trivial⟩, ⟨rfl, ?_, rfl, rfl, trivial⟩, rfl⟩
      rw [hf2]; rfl
    have hge : j = 2 := by omega
    subst hge
    rw [List.take_of_length_le (by omega)]
    repeat' (first | refine i_len rfl ?_ | refine i_s rfl ?_ | refine sw ?_ | refine c_f rfl ?_)
    all_goals first
      | (exfalso; simp at *; done)
      | (exfalso; simp at *; omega)
      | skip
    refine c_for s.pre.length (fun i => fluE n [(51, .sl .p (d.schemas.map schV)), (52, .int .i64 d.schemas.length), (53, .int .i64 k), (80, .sl .p (s.pre.map litV)), (81, .int .i64 s.pre.length), (82, .int .i64 i)]) (fun i => fluS d (flV n fun p => F0 p || hasA LL.flatten p) (flV n fun p => N0 p || hasN (s.pre.take i) p) []) (fun _ => True) trivial ⟨⟨rfl, rfl, rfl, rfl, rfl, rfl, rfl, rfl, rfl, trivial⟩, ⟨rfl, rfl, ?_, trivial⟩, rfl⟩ fun i hi _ => ?_
    · show Blk.arr 0 (flV n _) = Blk.arr 0 (flV n _)
      congr 3; funext p; simp [hasN]
    by_cases hli : i < s.pre.length
    · obtain ⟨x, hx⟩ := get_some hli
      obtain ⟨p0, p1⟩ := hpp x (mem_get hx)
      have p2 : x.at_.pred.toNat < n := by omega
      have hN := flags_or (n := n) (q := fun p => N0 p || hasN (s.pre.take i) p) (q' := fun p => N0 p || hasN (s.pre.take (i + 1)) p) (b := x.neg) p0 p1 fun p _ => by
        unfold hasN; rw [any_take_succ hx, ← Bool.or_assoc]
      repeat' (first | refine i_s rfl ?_ | refine sw ?_ | refine ja rfl rfl ?_ | refine jd rfl rfl ?_ | refine i_stb rfl ?_ | refine i_alloc rfl ?_ | refine c_cond rfl (fun h => ?_) (fun h => ?_))
      all_goals first
        | (exfalso; simp at *; done)
        | (exfalso; simp at *; omega)
        | skip
      refine i_ima rfl rfl rfl rfl p0 p1 rfl ?_
      skip
      refine i_ldp (row := .bool (N0 x.at_.pred.toNat || hasN (s.pre.take i) x.at_.pred.toNat)) rfl rfl rfl (by rw [Nat.zero_add, List.getElem?_map, flags_get p2]; rfl) rfl ?_
      repeat refine i_s rfl ?_
      cases hb : (N0 x.at_.pred.toNat || hasN (s.pre.take i) x.at_.pred.toNat)
      all_goals
        repeat' (first | refine i_s rfl ?_ | refine i_gt rfl ?_ | refine i_gf rfl ?_)
        refine i_ima rfl rfl rfl rfl p0 p1 rfl ?_
        skip
        refine i_stp (row := .bool (N0 x.at_.pred.toNat || hasN (s.pre.take i) x.at_.pred.toNat)) rfl rfl rfl (by rw [Nat.zero_add, List.getElem?_map, flags_get p2]; rfl) rfl rfl ?_
        repeat (first | refine i_s rfl ?_ | refine sw ?_ | refine ja rfl rfl ?_)
        refine e_for hli trivial ⟨⟨rfl, rfl, rfl, rfl, rfl, rfl, rfl, rfl, rfl, trivial⟩, ⟨rfl, rfl, ?_, trivial⟩, rfl⟩
        show Blk.arr 0 _ = _
        rw [Nat.zero_add]
        refine congrArg (Blk.arr 0) (Eq.trans ?_ hN)
        simp only [hb]; first | rfl | (cases x.neg <;> rfl)
    have hge : i = s.pre.length := by omega
    subst hge
    rw [List.take_length]
    repeat' (first | refine i_s rfl ?_ | refine sw ?_ | refine ja rfl rfl ?_ | refine c_cond rfl (fun h => ?_) (fun h => ?_))
    all_goals first
      | (exfalso; simp at *; done)
      | (exfalso; simp at *; omega)
      | skip
    refine e_for hlt trivial ⟨⟨rfl, rfl, rfl, rfl, rfl, rfl, trivial⟩, ⟨rfl, ?_, ?_, trivial⟩, rfl⟩
    · exact congrArg (fun q => Blk.arr 0 (flV n q)) (funext fun p => (hend1 p).symm)
    · exact congrArg (fun q => Blk.arr 0 (flV n q)) (funext fun p => (hend2 p).symm)
  have hge : k = d.schemas.length := by omega
  subst hge
  rw [List.take_length]
  repeat' (first | refine i_s rfl ?_ | refine sw ?_ | refine c_cond rfl (fun h => ?_) (fun h => ?_))
  all_goals first
    | (exfalso; simp at *; done)
    | (exfalso; simp at *; omega)
    | skip
  have r1 : er (stOf (fluS d (flV n fun p => hasP d.goal p || schF d.schemas p) (flV n fun p => hasN d.goal p || schN d.schemas p) [])) 5 (.msl 5185089 0 0 n) = .sl .p ((fluL d).map V.bool) := by
    rw [er_msl (gen := 0) (rows := flV n fun p => hasP d.goal p || schF d.schemas p) (n := 4) rfl, List.drop_zero, List.take_of_length_le (by simp [flags_len]), hn]
    rfl
  have r2 : er (stOf (fluS d (flV n fun p => hasP d.goal p || schF d.schemas p) (flV n fun p => hasN d.goal p || schN d.schemas p) [])) 5 (.msl 5185345 0 0 n) = .sl .p ((denL d).map V.bool) := by
    rw [er_msl (gen := 0) (rows := flV n fun p => hasN d.goal p || schN d.schemas p) (n := 4) rfl, List.drop_zero, List.take_of_length_le (by simp [flags_len]), hn]
    rfl
  exact e_ret ⟨rfl, _, rfl, (congr (congrArg (fun a b => V.tup [a, b]) r1) r2).symm⟩
end Hm
end
section
namespace Hm
open Go
theorem actsP_mem {d : Dom} {a : Ac} (h : a ∈ actsP d) : ∃ (i : Nat) (s : Sch) (args : List Int) (n : List Lit), d.schemas[i]? = some s ∧ args ∈ argL d s.types ∧ needP d args s.pre [] = some n ∧ s.diff.any (sameArg args) = false ∧
    a = ⟨i, args, n, addOf (sdA (s.add.map (bindA args))) (sdA (s.del.map (bindA args))), delOf (sdA (s.add.map (bindA args))) (sdA (s.del.map (bindA args))), s.cost⟩ := by
  unfold actsP at h
  obtain ⟨i, _, h⟩ := List.mem_flatMap.1 h
  cases hs : d.schemas[i]? with
  | none => rw [hs] at h; cases h
  | some s =>
    rw [hs] at h
    obtain ⟨args, h1, h2⟩ := List.mem_filterMap.1 h
    unfold acP at h2
    split at h2
    · cases h2
    · rename_i hd
      cases hn : needP d args s.pre [] with
      | none => rw [hn] at h2; cases h2
      | some n =>
        rw [hn] at h2
        cases h2
        exact ⟨i, s, args, n, hs, h1, hn, by simpa using hd, rfl⟩
theorem nums_mem {facts l : List Lit} {i : Int} : i ∈ nums facts l ↔ 0 ≤ i ∧ ∃ x, facts[i.toNat]? = some x ∧ x ∈ l := by
  unfold nums
  rw [selK_mem]
  unfold inAt
  constructor
  · rintro ⟨h0, h1, h2⟩
    refine ⟨h0, ?_⟩
    split at h2
    · rename_i x hx; exact ⟨x, hx, by simpa using h2⟩
    · cases h2
  · rintro ⟨h0, x, hx, h2⟩
    refine ⟨h0, by have := get_lt hx; omega, ?_⟩
    rw [hx]; simpa using h2
theorem pickU_mem {acts : List Ac} {u : List Bool} {k : Nat} {a : Ac} : a ∈ pickU acts u k ↔ ∃ i, i < k ∧ u[i]? = some true ∧ acts[i]? = some a := by
  unfold pickU
  rw [List.mem_filterMap]
  constructor
  · rintro ⟨i, hi, h⟩
    split at h
    · rename_i hu; exact ⟨i, List.mem_range.1 hi, hu, h⟩
    · cases h
  · rintro ⟨i, hi, hu, ha⟩
    exact ⟨i, List.mem_range.2 hi, by rw [if_pos hu]; exact ha⟩
theorem rActs_sub {acts : List Ac} {s : RS} {a : Ac} (h : a ∈ rActs acts s) : a ∈ acts := by
  obtain ⟨i, _, _, hi⟩ := pickU_mem.1 h
  exact mem_get hi
theorem filterMap_len {α β : Type} (f : α → Option β) (l : List α) : (l.filterMap f).length ≤ l.length := List.length_filterMap_le f l
theorem rActs_len (acts : List Ac) (s : RS) : (rActs acts s).length ≤ acts.length := by
  unfold rActs pickU
  exact Nat.le_trans (filterMap_len _ _) (by simp)
theorem nums_at {F l : List Lit} {i : Nat} {x : Lit} (h : F[i]? = some x) : (i : Int) ∈ nums F l ↔ x ∈ l := by
  rw [nums_mem]
  simp only [Int.toNat_natCast, h, Option.some.injEq]
  exact ⟨fun ⟨_, y, e, h2⟩ => e ▸ h2, fun h2 => ⟨by omega, x, rfl, h2⟩⟩
theorem memO_iff {d : Dom} {t o : Int} : o ∈ memO d t ↔ 0 ≤ o ∧ ∃ ob, d.objects[o.toNat]? = some ob ∧ subB d.types ob.type t = true := by
  unfold memO membersOf
  simp only [List.mem_map, List.mem_filter, List.mem_range]
  constructor
  · rintro ⟨i, ⟨h1, h2⟩, rfl⟩
    refine ⟨by simp, ?_⟩
    simp only [Int.ofNat_eq_natCast, Int.toNat_natCast]
    cases ho : d.objects[i]? with
    | none => rw [ho] at h2; cases h2
    | some ob => rw [ho] at h2; exact ⟨ob, rfl, h2⟩
  · rintro ⟨h0, ob, h1, h2⟩
    exact ⟨o.toNat, ⟨get_lt h1, by rw [h1]; exact h2⟩, by simp; omega⟩
theorem memO_of {d : Dom} {t o : Int} {ob : Obj} (h0 : 0 ≤ o) (ho : d.objects[o.toNat]? = some ob) (h : subB d.types ob.type t = true) : o ∈ memO d t := memO_iff.2 ⟨h0, ob, ho, h⟩
theorem memO_sub {d : Dom} (hd : DoTy d) {t u o : Int} (h : o ∈ memO d u) (hs : subB d.types u t = true) : o ∈ memO d t := by
  obtain ⟨h0, ob, ho, h1⟩ := memO_iff.1 h
  exact memO_of h0 ho (sub_trans hd.ty (hd.o ob (mem_get ho)).2 h1 hs)
theorem bindA_all {d : Dom} {ps args : List Int} (hp : DoTy d) (ht : ps.length ≤ 3 ∧ ∀ t ∈ ps, -1 ≤ t ∧ t < d.types.length) (ha : args ∈ argL d ps) {a : At} (h : atomCode d ps a = 0) : bindA args a ∈ allAt d := by
  obtain ⟨⟨h0, h1⟩, p, hpr, hlen, harg⟩ := atom_args h
  refine allAt_mem.2 ⟨a.pred.toNat, p, hpr, by simp only [bindA]; omega, ?_⟩
  obtain ⟨hal, hmem⟩ := argL_mem.1 ha
  refine argL_mem.2 ⟨by simp [bindA, hlen], fun i o t hi ht' => ?_⟩
  simp only [bindA, List.getElem?_map] at hi
  cases hx : a.args[i]? with
  | none => rw [hx] at hi; cases hi
  | some x =>
    rw [hx] at hi
    simp only [Option.map_some, Option.some.injEq] at hi
    subst hi
    obtain ⟨t2, u, ht2, hu, hsub⟩ := harg i x hx
    rw [ht'] at ht2
    cases ht2
    unfold objA
    unfold typeOfA at hu
    by_cases hneg : x < 0
    · rw [if_pos hneg]
      rw [if_neg (by omega)] at hu
      by_cases hr : x < 0 ∧ -(ps.length : Int) ≤ x
      · rw [if_pos hr] at hu
        obtain ⟨o, ho⟩ := get_some (l := args) (k := (-1 - x).toNat) (by rw [hal]; omega)
        have := hmem _ o u ho hu
        rw [ho]
        simp only [Option.getD_some]
        exact memO_sub hp this hsub
      · rw [if_neg hr] at hu
        cases hu
    · rw [if_neg hneg]
      by_cases hr : 0 ≤ x ∧ x < (d.objects.length : Int)
      · rw [if_pos hr] at hu
        cases ho : d.objects[x.toNat]? with
        | none => rw [ho] at hu; cases hu
        | some ob =>
          rw [ho] at hu
          simp only [Option.map_some, Option.some.injEq] at hu
          subst hu
          exact memO_of hr.1 ho hsub
      · rw [if_neg hr, if_neg (by omega)] at hu
        cases hu
theorem needP_mem {d : Dom} {args : List Int} : ∀ {l out n : List Lit}, needP d args l out = some n → ∀ y ∈ n, y ∈ out ∨ ∃ x ∈ l, fluB d x.at_.pred = true ∧ y = bindL args x
  | [], out, n, h, y, hy => by
    simp only [needP, Option.some.injEq] at h
    subst h
    exact .inl hy
  | x :: r, out, n, h, y, hy => by
    unfold needP at h
    have up : (y ∈ out ∨ ∃ x ∈ r, fluB d x.at_.pred = true ∧ y = bindL args x) → y ∈ out ∨ ∃ z ∈ x :: r, fluB d z.at_.pred = true ∧ y = bindL args z := fun h => h.imp id fun ⟨z, h1, h2⟩ => ⟨z, by simp [h1], h2⟩
    split at h
    · split at h
      · cases h
      · exact up (needP_mem h y hy)
    · rename_i hf
      split at h
      · cases h
      · split at h
        · exact up (needP_mem h y hy)
        · rcases needP_mem h y hy with h1 | h1
          · rcases List.mem_append.1 h1 with h2 | h2
            · exact .inl h2
            · exact .inr ⟨x, by simp, by simpa using hf, by simpa using h2⟩
          · exact up (.inr h1)
theorem doVal_of {d : Dom} (h : DomV d) : DoVal d :=
  ⟨h.ty, h.pl, fun x hx => by
    obtain ⟨i, hi⟩ := List.getElem?_of_mem hx
    exact (prdVal_of h hi).types.1, h.sl, fun s hs => by
    obtain ⟨i, hi⟩ := List.getElem?_of_mem hs
    have := h.sch i (get_lt hi)
    unfold schCode at this
    rw [hi] at this
    simp only at this
    split at this
    · cases this
    · split at this
      · cases this
      · exact this, h.ini, h.goal⟩
theorem den_pre {d : Dom} {i : Nat} {s : Sch} {x : Lit} (hs : d.schemas[i]? = some s) (hx : x ∈ s.pre) (hn : x.neg = true) : denB d x.at_.pred = true := by
  unfold denB
  rw [Bool.or_eq_true]
  refine .inr (List.any_eq_true.2 ⟨s, mem_get hs, List.any_eq_true.2 ⟨x, hx, by simp [hn]⟩⟩)
theorem pre_facts {d : Dom} (hd : DoVal d) {a : Ac} (h : a ∈ actsP d) : ∀ x ∈ a.pre, x ∈ factL d := by
  obtain ⟨i, s, args, n, hs, hl, hn, _, rfl⟩ := actsP_mem h
  intro y hy
  have sv := schVal_of (hd.sc s (mem_get hs))
  rcases needP_mem hn y hy with h1 | ⟨x, hx, hf, rfl⟩
  · cases h1
  · exact factL_mem.2 ⟨bindA_all hd.ty sv.types hl (sv.pre x hx), hf, fun hneg => den_pre (x := x) hs hx hneg⟩
def fromK {α β : Type} (F : Nat → α → List β) : Nat → List α → List β
  | _, [] => []
  | i, s :: r => F i s ++ fromK F (i + 1) r
theorem fromK_eq {α β : Type} (F : Nat → α → List β) : ∀ (l : List α) (n : Nat), ((List.range l.length).flatMap fun i => match l[i]? with
    | none => []
    | some s => F (n + i) s) = fromK F n l
  | [], n => rfl
  | a :: l, n => by
    rw [List.length_cons, List.range_succ_eq_map, List.flatMap_cons, List.flatMap_map]
    simp only [List.getElem?_cons_zero, List.getElem?_cons_succ, Nat.add_zero, fromK]
    congr 1
    rw [← fromK_eq F l (n + 1)]
    congr 1
    funext i
    rw [show n + i.succ = n + 1 + i from by omega]
abbrev actF (d : Dom) (i : Nat) (s : Sch) : List Ac := (argL d s.types).filterMap (acP d i s)
theorem actsP_from (d : Dom) : actsP d = fromK (actF d) 0 d.schemas := by
  rw [← fromK_eq]
  unfold actsP
  congr 1
  funext i
  rw [Nat.zero_add]
  cases d.schemas[i]? <;> rfl
theorem drop_cons {α : Type} {l : List α} {k : Nat} {x : α} (h : l[k]? = some x) : l.drop k = x :: l.drop (k + 1) := by
  rw [List.drop_eq_getElem_cons (get_lt h)]
  congr 1
  exact (List.getElem?_eq_some_iff.1 h).2
theorem posK_succ (d : Dom) (k : Nat) : posK d (k + 1) = posK d k ++ if fluB d k = true then (predAt d k).map posL else [] := range_flat_succ _ _
theorem negK_succ (d : Dom) (k : Nat) : negK d (k + 1) = negK d k ++ if fluB d k = true ∧ denB d k = true then (predAt d k).map negL else [] := range_flat_succ _ _
theorem posK_len (d : Dom) (k : Nat) : (posK d k).length ≤ (atomsK d k).length := by
  rw [posK_eq, List.length_map]; exact List.length_filter_le _ _
theorem negK_len (d : Dom) (k : Nat) : (negK d k).length ≤ (atomsK d k).length := by
  rw [negK_eq, List.length_map]; exact List.length_filter_le _ _
theorem argL_argsOk {d : Dom} {ts a : List Int} (h : a ∈ argL d ts) : ArgsOk d ts a := argL_rng h
theorem withL_len6 (l : List Lit) (x : Lit) : (withL l x).length ≤ l.length + 1 := by
  unfold withL
  split
  · omega
  · have e : l.takeWhile (fun y => decide (litOrd y x < 0)) ++ l.dropWhile (fun y => decide (litOrd y x < 0)) = l := List.takeWhile_append_dropWhile
    have := congrArg List.length e
    simp only [List.length_append, List.length_cons] at this ⊢
    omega
theorem sdA_len (l : List At) : (sdA l).length ≤ l.length := by
  have h1 : ∀ (l acc : List Lit), (l.foldl withL acc).length ≤ acc.length + l.length := by
    intro l
    induction l with
    | nil => intro acc; simp
    | cons x r ih =>
      intro acc
      have h2 := ih (withL acc x)
      have h3 := withL_len6 acc x
      simp only [List.foldl_cons, List.length_cons]
      omega
  have := h1 (l.map posL) []
  unfold sdA sdL
  rw [List.length_map]
  simpa using this
theorem needP_len {d : Dom} {args : List Int} : ∀ {l out n : List Lit}, needP d args l out = some n → n.length ≤ out.length + l.length
  | [], out, n, h => by
    unfold needP at h
    cases h
    simp
  | x :: r, out, n, h => by
    unfold needP at h
    simp only [List.length_cons]
    split at h
    · split at h
      · cases h
      · have := needP_len h; omega
    · split at h
      · cases h
      · split at h
        · have := needP_len h; omega
        · have := needP_len h
          rw [List.length_append] at this
          simp at this
          omega
end Hm
end
section
namespace Hm
open Go
set_option maxRecDepth 100000
set_option maxHeartbeats 4000000
abbrev gP (d : Dom) : V := .cptr .p (grP d (fluL d) (denL d)) 0
def acV (a : Ac) : V := .agg [.int .i64 a.sch, .sl .p (a.args.map i64V), .sl .p (a.pre.map litV), .sl .p (a.add.map litV), .sl .p (a.del.map litV), .int .i64 a.cost]
abbrev acY (a : Ac) : List V := [acV a]
theorem actsP_len {d : Dom} (h : DomV d) : (actsP d).length ≤ 4096 := by
  have hv := doVal_of h
  unfold actsP
  refine Nat.le_trans (flatMap_len_le (n := 512) fun i hi => ?_) ?_
  · obtain ⟨s, hs⟩ := get_some (List.mem_range.1 hi)
    simp only [hs]
    refine Nat.le_trans (List.length_filterMap_le _ _) (argL_512 hv.ty.ol ?_)
    exact (schV2_of h hs).val.types.1
  · have := h.sl; simp only [List.length_range]; omega
theorem atomsK_4096 {d : Dom} (h : DomV d) {k : Nat} (hk : k ≤ d.preds.length) : (atomsK d k).length ≤ 4096 :=
  Nat.le_trans (atomsK_le d hk) (allAt_len (doVal_of h))
structure GFOk (l : List Lit) : Prop where
  len : l.length ≤ 1000000
  ok : ∀ x ∈ l, AtOk x.at_
structure ActOk (a : Ac) : Prop where
  pre : GFOk a.pre
  add : GFOk a.add
  del : GFOk a.del
end Hm
end
section
namespace Hm
open Go
set_option maxRecDepth 100000
set_option maxHeartbeats 1000000
def c_types_IsName : Cmd :=
 (qS [qb 2 false]
 (qT (qS [qm 5 0, qq 6 (.len true (.t 5)), qc 7 0]
 (.block 0 (.loop (qS [qu 8 .lss [] 7 6]
 (qT (.cond (.t 8) .skip (.exit 0))
 (qT (.block 1 (qS [qm 9 7, qm 3 9]
 (qS [qm 10 0, qm 11 3, qq 12 (.index (.t 10) (.t 11)), qm 4 12]
 (qS [qm 13 4, qq 14 (.bin .geq false [] (.t 13) (.c (.int .u8 97))), qm 15 14, qg 16 15 true (.mov (.t 4)), qg 17 15 true (.bin .leq false [] (.t 16) (.c (.int .u8 122))), qq 18 (.pick (.t 15) (.t 17) (.c (.bool false))), qm 19 18, qg 20 19 false (.mov (.t 3)), qg 21 19 false (.bin .gtr false [] (.t 20) (.c (.int .i64 0))), qg 22 19 false (.mov (.t 21)), qg 23 22 true (.mov (.t 4)), qg 24 22 true (.bin .geq false [] (.t 23) (.c (.int .u8 48))), qg 25 22 true (.mov (.t 24)), qg 26 25 true (.mov (.t 4)), qg 27 25 true (.bin .leq false [] (.t 26) (.c (.int .u8 57))), qg 28 22 true (.pick (.t 25) (.t 27) (.c (.bool false))), qg 29 22 true (.mov (.t 28)), qg 30 29 false (.mov (.t 4)), qg 31 29 false (.bin .eql false [.i] (.t 30) (.c (.int .u8 45))), qg 32 22 true (.pick (.t 29) (.c (.bool true)) (.t 31)), qg 33 19 false (.pick (.t 22) (.t 32) (.c (.bool false))), qq 34 (.pick (.t 19) (.c (.bool true)) (.t 33)), qq 35 (.not (.t 34))]
 (.cond (.t 35) (.seq (.ops [qb 2 false]) .ret) .skip)))))
 (.ops [qv 36 .add [] 7 1, qm 7 36])))))))
 (.seq (.ops [qm 37 0, qq 38 (.len true (.t 37)), qv 39 .geq [] 38 1, qm 40 39, qg 41 40 true (.mov (.t 0)), qg 42 40 true (.len true (.t 41)), qg 43 40 true (.bin .leq false [] (.t 42) (.c (.int .i64 12))), qq 44 (.pick (.t 40) (.t 43) (.c (.bool false))), qm 2 44]) .ret)))
def r_types_IsName : List RVar := [.tmp 2]
def n_types_IsName : Nat := 45
theorem k_types_IsName : chkFn Go.Proofs.Tryz.prog 104 n_types_IsName r_types_IsName c_types_IsName = true := by kernel_rfl
theorem f_types_IsName (s : List UInt8) (hl : s.length ≤ 140737488355328) : Fc Go.Proofs.Tryz.prog 104 [.str s] (.bool (nameB s)) := by
  refine Fn.step mixed k_types_IsName ?_
  repeat (first | refine i_s rfl ?_ | refine sw ?_)
  refine c_for s.length (fun k => [(0, .str s), (6, .int .i64 s.length), (7, .int .i64 k)]) (fun _ => []) (fun k => ∀ j, j < k → ∀ c, s[j]? = some c → nameAt j c = true) all_zero ft fun k hk hi => ?_
  repeat (first | refine i_s rfl ?_ | refine sw ?_)
  refine c_cond rfl (fun h => ?_) (fun h => ?_)
  · have hlt : k < s.length := by simpa using h
    obtain ⟨c, hc⟩ := get_some hlt
    have next : nameAt k c = true → ∀ j, j < k + 1 → ∀ c, s[j]? = some c → nameAt j c = true := fun hn => all_succ hi fun c' hc' => by
      rw [hc] at hc'; injection hc' with hc'; rw [← hc']; exact hn
    have bad : nameAt k c = false → V.bool (nameB s) = V.bool false := fun hn => by simp [nameB, namesFrom_false hc hn]
    clear hi h
    repeat' (first | refine i_s rfl ?_ | refine sw ?_ | refine i_gt rfl ?_ | refine i_gf rfl ?_ | refine i_gd rfl ?_ | refine c_t rfl ?_ | refine c_f rfl ?_ | refine ja rfl rfl ?_ | refine jf rfl rfl ?_ | (refine sp ?_ ?_ <;> try intro h) | fail)
    all_goals first
      | refine e_for hlt (next (by simp [nameAt] at *; omega)) ft
      | refine e_ret ⟨rfl, _, rfl, bad (by simp [nameAt] at *; omega)⟩
  · have hge : ¬ k < s.length := by simpa using h
    have hall := namesFrom_take s k hi (by omega)
    clear hi
    repeat' (first | refine i_s rfl ?_ | refine sw ?_ | refine i_gt rfl ?_ | refine i_gf rfl ?_ | refine i_g rfl (fun h => ?_) (fun h => ?_))
    all_goals refine e_ret ⟨rfl, _, rfl, congrArg V.bool ?_⟩
    · have h' := of_decide_eq_true h
      have e : decide (1 ≤ s.length) = true := decide_eq_true (by omega)
      simp only [nameB, hall, e, Bool.true_and]
      exact decide_eq_decide.2 (by omega)
    · have h' := of_decide_eq_false h
      have : decide (1 ≤ s.length) = false := decide_eq_false (by omega)
      simp [nameB, this]
def c_slices_IndexFunc_Type : Cmd :=
 (qS [qc 4 0]
 (qT (qS [qm 6 0, qn 7 6, qc 8 0]
 (.block 0 (.loop (qS [qu 9 .lss [] 8 7]
 (qT (.cond (.t 9) .skip (.exit 0))
 (qT (.block 1 (qS [qm 10 8, qm 5 10]
 (qS [qm 11 1, qm 12 0, qm 13 5, qi 14 2 12 13, qL 15 2 14, qq 16 (.call .f (.t 11) [.t 15])]
 (.cond (.t 16) (.seq (.ops [qm 17 5, qm 4 17]) .ret) .skip))))
 (.ops [qv 18 .add [] 8 1, qm 8 18])))))))
 (.seq (.ops [qc 4 (-1)]) .ret)))
def r_slices_IndexFunc_Type : List RVar := [.tmp 4]
def n_slices_IndexFunc_Type : Nat := 19
theorem k_slices_IndexFunc_Type : chkFn Go.Proofs.Tryz.prog 135 n_slices_IndexFunc_Type r_slices_IndexFunc_Type c_slices_IndexFunc_Type = true := by kernel_rfl
theorem f_IndexFunc_Type (l : List Typ) (p : Typ → Bool) (fid : Nat) (caps : List V) (hl : l.length ≤ 140737488355328) (he : ∀ σ n, caps.map (er σ (n + 1)) = caps) (hc : closedL [] caps = true) (hp : ∀ t ∈ l, Fc Go.Proofs.Tryz.prog fid (tyV t :: caps) (.bool (p t))) :
    Fc Go.Proofs.Tryz.prog 135 [.sl .p (l.map tyV), .fn fid caps] (.int .i64 (fidx p l)) := by
  refine Fn.step mixed k_slices_IndexFunc_Type ?_
  repeat (first | refine i_len rfl ?_ | refine i_s rfl ?_ | refine sw ?_)
  refine c_for l.length (fun k => [(0, .sl .p (l.map tyV)), (1, .fn fid caps), (7, .int .i64 l.length), (8, .int .i64 k)]) (fun _ => []) (fun k => ∀ j, j < k → ∀ c, l[j]? = some c → p c = false) all_zero ?_ fun k hk hi => ?_
  · exact ⟨⟨rfl, rfl, rfl, rfl, trivial⟩, trivial, by simp [fitB, closedE, closedB, hc, closedSt, hasAll]⟩
  repeat (first | refine i_s rfl ?_ | refine sw ?_)
  refine c_cond rfl (fun h => ?_) (fun h => ?_)
  · have hlt : k < l.length := by simpa using h
    obtain ⟨c, hget⟩ := get_some hlt
    repeat (first | refine i_s rfl ?_ | refine sw ?_ | refine jd rfl rfl ?_)
    refine i_f rfl (congrArg (tyV c :: ·) (he _ 5)) (hp c (mem_get hget)) rfl ?_
    repeat' (first | refine i_s rfl ?_ | refine sw ?_ | refine ja rfl rfl ?_ | refine c_cond rfl (fun h => ?_) (fun h => ?_))
    · refine e_ret ⟨rfl, _, rfl, congrArg (V.int .i64) (fidx_hit hi hget h)⟩
    · refine e_for hlt (all_succ hi fun c' hc' => ?_) ⟨⟨rfl, rfl, rfl, rfl, trivial⟩, trivial, by simp [fitB, closedE, closedB, hc, closedSt, hasAll]⟩
      rw [hget] at hc'; cases hc'; exact h
  · have hge : ¬ k < l.length := by simpa using h
    repeat' (first | refine i_s rfl ?_ | refine sw ?_ | fail)
    refine e_ret ⟨rfl, _, rfl, congrArg (V.int .i64) (fidx_none fun j hj => hi j (by omega))⟩
def c_slices_ContainsFunc_Type : Cmd :=
 (qS [qb 4 false]
 (.seq (.ops [qm 5 0, qm 6 1, qk 7 135 [5, 6], qv 8 .geq [] 7 0, qm 4 8]) .ret))
def r_slices_ContainsFunc_Type : List RVar := [.tmp 4]
def n_slices_ContainsFunc_Type : Nat := 9
theorem k_slices_ContainsFunc_Type : chkFn Go.Proofs.Tryz.prog 105 n_slices_ContainsFunc_Type r_slices_ContainsFunc_Type c_slices_ContainsFunc_Type = true := by kernel_rfl
theorem f_ContainsFunc_Type (l : List Typ) (p : Typ → Bool) (fid : Nat) (caps : List V) (hl : l.length ≤ 140737488355328) (he : ∀ σ n, caps.map (er σ (n + 1)) = caps) (hc : closedL [] caps = true) (hp : ∀ t ∈ l, Fc Go.Proofs.Tryz.prog fid (tyV t :: caps) (.bool (p t))) :
    Fc Go.Proofs.Tryz.prog 105 [.sl .p (l.map tyV), .fn fid caps] (.bool (l.any p)) := by
  refine Fn.step mixed k_slices_ContainsFunc_Type ?_
  repeat (first | refine i_s rfl ?_ | refine sw ?_)
  refine i_f rfl (congrArg (fun x => [V.sl .p (l.map tyV), .fn fid x]) (he _ 4)) (f_IndexFunc_Type l p fid caps hl he hc hp) rfl ?_
  repeat' (first | refine i_s rfl ?_ | refine sw ?_ | fail)
  refine e_ret ⟨rfl, _, rfl, congrArg V.bool (fidx_any p l).symm⟩
def TyOk (l : List Typ) : Prop := l.length ≤ 140737488355328 ∧ ∀ t ∈ l, t.name.length ≤ 140737488355328
def c_types_Validate_1 : Cmd :=
 (qS [qx 2 6784130 2 0, qb 3 false]
 (.seq (.ops [qf 4 0 2, ql 5 1 4, qf 6 0 1, ql 7 1 6, qu 8 .eql [.s] 5 7, qm 3 8]) .ret))
def r_types_Validate_1 : List RVar := [.tmp 3]
def n_types_Validate_1 : Nat := 9
theorem k_types_Validate_1 : chkFn Go.Proofs.Tryz.prog 106 n_types_Validate_1 r_types_Validate_1 c_types_Validate_1 = true := by kernel_rfl
theorem f_types_Validate_1 (u t : Typ) : Fc Go.Proofs.Tryz.prog 106 [tyV u, .cptr .p (tyV t) 0] (.bool (u.name == t.name)) := by
  refine Fn.step mixed k_types_Validate_1 ?_
  repeat' (first | refine i_s rfl ?_ | refine sw ?_ | refine i_box rfl rfl ?_)
  exact e_ret ⟨rfl, _, rfl, rfl⟩
theorem typesFault_big {l : List Typ} (h : 8 < l.length) : typesFault l = ⟨2, -1⟩ := by unfold typesFault; rw [if_pos h]
theorem typesFault_hit {l : List Typ} (h : ¬ 8 < l.length) {k : Nat} {f : Flt} (hi : ∀ j, j < k → tyBad l j = none) (hk : k < l.length) (hf : tyBad l k = some f) : typesFault l = f := by
  unfold typesFault; rw [if_neg h, scan0_hit hi hk hf]; rfl
theorem typesFault_ok {l : List Typ} (h : ¬ 8 < l.length) (hi : ∀ j, j < l.length → tyBad l j = none) : typesFault l = okF := by
  unfold typesFault; rw [if_neg h, scan0_none hi]; rfl
def c_types_Validate : Cmd :=
 (qS [qq 2 (.alloc 4416130 (.agg [.int .i64 0, .int .i64 0]))]
 (qT (qS [qm 5 0, qn 6 5, qv 7 .gtr [] 6 8]
 (.cond (.t 7) (.seq (.ops [qq 8 (.build [.int .i64 0, .int .i64 0] [(0 , 1 , .c (.int .i64 2)), (1 , 1 , .c (.int .i64 (-1)))]), qs 2 2 8]) .ret) .skip))
 (qT (qS [qm 9 0, qn 10 9, qc 11 0]
 (.block 0 (.loop (qS [qu 12 .lss [] 11 10]
 (qT (.cond (.t 12) .skip (.exit 0))
 (qT (.block 1 (qS [qm 13 11, qi 14 2 9 11, qL 15 2 14, qq 4 (.alloc 4416258 (.agg [.str [], .int .i64 0])), qm 3 13, qs 2 4 15]
 (.block 2 (qS [qf 17 0 4, ql 18 1 17, qk 19 104 [18], qq 20 (.not (.t 19)), qm 21 20, qg 22 21 false (.faddr 0 (.t 4)), qg 23 21 false (.load false 1 (.t 22)), qg 24 21 false (.bin .eql false [.s] (.t 23) (.c (.str [111, 98, 106, 101, 99, 116]))), qq 25 (.pick (.t 21) (.c (.bool true)) (.t 24)), qm 16 25]
 (.cond (.t 16) (.seq (.ops [qm 26 3, qq 27 (.build [.int .i64 0, .int .i64 0] [(0 , 1 , .c (.int .i64 12)), (1 , 1 , .t 26)]), qs 2 2 27]) .ret) (qS [qm 29 0, qm 30 3, qq 31 (.slice false 2 (.t 29) none (some (.t 30))), qq 32 (.mkfn 106 [.t 4]), qk 33 105 [31, 32], qm 28 33]
 (.cond (.t 28) (.seq (.ops [qm 34 3, qq 35 (.build [.int .i64 0, .int .i64 0] [(0 , 1 , .c (.int .i64 7)), (1 , 1 , .t 34)]), qs 2 2 35]) .ret) (qS [qf 37 1 4, ql 38 1 37, qv 39 .lss [] 38 (-1), qm 40 39, qg 41 40 false (.faddr 1 (.t 4)), qg 42 40 false (.load false 1 (.t 41)), qg 43 40 false (.mov (.t 3)), qg 44 40 false (.bin .geq false [] (.t 42) (.t 43)), qq 45 (.pick (.t 40) (.c (.bool true)) (.t 44)), qm 36 45]
 (.cond (.t 36) (.seq (.ops [qm 46 3, qq 47 (.build [.int .i64 0, .int .i64 0] [(0 , 1 , .c (.int .i64 3)), (1 , 1 , .t 46)]), qs 2 2 47]) .ret) .skip)))))))))
 (.ops [qv 48 .add [] 11 1, qm 11 48])))))))
 (.seq (.ops [qq 49 (.build [.int .i64 0, .int .i64 0] []), qs 2 2 49]) .ret))))
def r_types_Validate : List RVar := [.cell true 2 2]
def n_types_Validate : Nat := 50
theorem k_types_Validate : chkFn Go.Proofs.Tryz.prog 69 n_types_Validate r_types_Validate c_types_Validate = true := by kernel_rfl
theorem f_types_Validate (l : List Typ) (ho : TyOk l) : Fc Go.Proofs.Tryz.prog 69 [.sl .p (l.map tyV)] (ftV (typesFault l)) := by
  obtain ⟨hl, hn⟩ := ho
  refine Fn.step mixed k_types_Validate ?_
  repeat' (first | refine i_len rfl ?_ | refine i_s rfl ?_ | refine sw ?_ | refine i_stb rfl ?_ | refine i_alloc rfl ?_ | refine c_cond rfl (fun h => ?_) (fun h => ?_))
  · exact e_ret ⟨rfl, _, rfl, congr_ft (typesFault_big (by have := of_decide_eq_true h; simp at this; omega))⟩
  have h8 : ¬ 8 < l.length := by have := of_decide_eq_false h; simp at this; omega
  clear h
  refine c_for l.length (fun k => [(0, .sl .p (l.map tyV)), (2, .bptr 4416130 0), (9, .sl .p (l.map tyV)), (10, .int .i64 l.length), (11, .int .i64 k)]) (fun _ => [(4416130, .box (ftV okF))]) (fun k => ∀ j, j < k → tyBad l j = none) all_zero ft fun k hk hi => ?_
  repeat (first | refine i_s rfl ?_ | refine sw ?_)
  refine c_cond rfl (fun h => ?_) (fun h => ?_)
  · have hlt : k < l.length := by simpa using h
    obtain ⟨t, ht⟩ := get_some hlt
    have hnt := hn t (mem_get ht)
    have hbad : tyBad l k = if nameB t.name = false ∨ t.name = objectS then some ⟨12, k⟩ else if (l.take k).any (fun u => u.name == t.name) = true then some ⟨7, k⟩
      else if t.parent < -1 ∨ t.parent ≥ k then some ⟨3, k⟩ else none := by simp [tyBad, ht]
    clear h
    have hC := f_ContainsFunc_Type (l.take k) (fun u => u.name == t.name) 106 [.cptr .p (tyV t) 0] (by simp; omega) (fun _ _ => rfl) rfl (fun u _ => f_types_Validate_1 u t)
    repeat' (first | refine i_s rfl ?_ | refine sw ?_ | refine i_gt rfl ?_ | refine i_gf rfl ?_ | refine c_t rfl ?_ | refine ja rfl rfl ?_ | refine jd rfl rfl ?_ | refine jh rfl rfl ?_ | refine i_stb rfl ?_ | refine i_alloc rfl ?_ | (refine sp ?_ ?_ <;> try intro h) | refine sf rfl rfl (f_types_IsName _ hnt) ?_ | refine sf rfl rfl hC ?_ | fail)
    all_goals clear hC hn ht hk
    all_goals first
      | refine e_ret ⟨rfl, _, rfl, congr_ft (typesFault_hit h8 hi hlt ?_)⟩; clear hi
      | refine e_for hlt (all_succ hi ?_) ft; clear hi
    all_goals rw [hbad]; clear hbad
    all_goals generalize (l.take k).any _ = bb at *
    all_goals grind [objectS]
  · have hge : ¬ k < l.length := by simpa using h
    repeat' (first | refine i_s rfl ?_ | refine sw ?_ | refine i_stb rfl ?_)
    exact e_ret ⟨rfl, _, rfl, congr_ft (typesFault_ok h8 fun j hj => hi j (by omega))⟩
def c_slices_IndexFunc_Object : Cmd :=
 (qS [qc 4 0]
 (qT (qS [qm 6 0, qn 7 6, qc 8 0]
 (.block 0 (.loop (qS [qu 9 .lss [] 8 7]
 (qT (.cond (.t 9) .skip (.exit 0))
 (qT (.block 1 (qS [qm 10 8, qm 5 10]
 (qS [qm 11 1, qm 12 0, qm 13 5, qi 14 2 12 13, qL 15 2 14, qq 16 (.call .f (.t 11) [.t 15])]
 (.cond (.t 16) (.seq (.ops [qm 17 5, qm 4 17]) .ret) .skip))))
 (.ops [qv 18 .add [] 8 1, qm 8 18])))))))
 (.seq (.ops [qc 4 (-1)]) .ret)))
def r_slices_IndexFunc_Object : List RVar := [.tmp 4]
def n_slices_IndexFunc_Object : Nat := 19
theorem k_slices_IndexFunc_Object : chkFn Go.Proofs.Tryz.prog 136 n_slices_IndexFunc_Object r_slices_IndexFunc_Object c_slices_IndexFunc_Object = true := by kernel_rfl
theorem f_IndexFunc_Object (l : List Obj) (p : Obj → Bool) (fid : Nat) (caps : List V) (hl : l.length ≤ 140737488355328) (he : ∀ σ n, caps.map (er σ (n + 1)) = caps) (hc : closedL [] caps = true) (hp : ∀ t ∈ l, Fc Go.Proofs.Tryz.prog fid (obV t :: caps) (.bool (p t))) :
    Fc Go.Proofs.Tryz.prog 136 [.sl .p (l.map obV), .fn fid caps] (.int .i64 (fidx p l)) := by
  refine Fn.step mixed k_slices_IndexFunc_Object ?_
  repeat (first | refine i_len rfl ?_ | refine i_s rfl ?_ | refine sw ?_)
  refine c_for l.length (fun k => [(0, .sl .p (l.map obV)), (1, .fn fid caps), (7, .int .i64 l.length), (8, .int .i64 k)]) (fun _ => []) (fun k => ∀ j, j < k → ∀ c, l[j]? = some c → p c = false) all_zero ?_ fun k hk hi => ?_
  · exact ⟨⟨rfl, rfl, rfl, rfl, trivial⟩, trivial, by simp [fitB, closedE, closedB, hc, closedSt, hasAll]⟩
  repeat (first | refine i_s rfl ?_ | refine sw ?_)
  refine c_cond rfl (fun h => ?_) (fun h => ?_)
  · have hlt : k < l.length := by simpa using h
    obtain ⟨c, hget⟩ := get_some hlt
    repeat (first | refine i_s rfl ?_ | refine sw ?_ | refine jd rfl rfl ?_)
    refine i_f rfl (congrArg (obV c :: ·) (he _ 5)) (hp c (mem_get hget)) rfl ?_
    repeat' (first | refine i_s rfl ?_ | refine sw ?_ | refine ja rfl rfl ?_ | refine c_cond rfl (fun h => ?_) (fun h => ?_))
    · refine e_ret ⟨rfl, _, rfl, congrArg (V.int .i64) (fidx_hit hi hget h)⟩
    · refine e_for hlt (all_succ hi fun c' hc' => ?_) ⟨⟨rfl, rfl, rfl, rfl, trivial⟩, trivial, by simp [fitB, closedE, closedB, hc, closedSt, hasAll]⟩
      rw [hget] at hc'; cases hc'; exact h
  · have hge : ¬ k < l.length := by simpa using h
    repeat' (first | refine i_s rfl ?_ | refine sw ?_ | fail)
    refine e_ret ⟨rfl, _, rfl, congrArg (V.int .i64) (fidx_none fun j hj => hi j (by omega))⟩
def c_slices_ContainsFunc_Object : Cmd :=
 (qS [qb 4 false]
 (.seq (.ops [qm 5 0, qm 6 1, qk 7 136 [5, 6], qv 8 .geq [] 7 0, qm 4 8]) .ret))
def r_slices_ContainsFunc_Object : List RVar := [.tmp 4]
def n_slices_ContainsFunc_Object : Nat := 9
theorem k_slices_ContainsFunc_Object : chkFn Go.Proofs.Tryz.prog 107 n_slices_ContainsFunc_Object r_slices_ContainsFunc_Object c_slices_ContainsFunc_Object = true := by kernel_rfl
theorem f_ContainsFunc_Object (l : List Obj) (p : Obj → Bool) (fid : Nat) (caps : List V) (hl : l.length ≤ 140737488355328) (he : ∀ σ n, caps.map (er σ (n + 1)) = caps) (hc : closedL [] caps = true) (hp : ∀ t ∈ l, Fc Go.Proofs.Tryz.prog fid (obV t :: caps) (.bool (p t))) :
    Fc Go.Proofs.Tryz.prog 107 [.sl .p (l.map obV), .fn fid caps] (.bool (l.any p)) := by
  refine Fn.step mixed k_slices_ContainsFunc_Object ?_
  repeat (first | refine i_s rfl ?_ | refine sw ?_)
  refine i_f rfl (congrArg (fun x => [V.sl .p (l.map obV), .fn fid x]) (he _ 4)) (f_IndexFunc_Object l p fid caps hl he hc hp) rfl ?_
  repeat' (first | refine i_s rfl ?_ | refine sw ?_ | fail)
  refine e_ret ⟨rfl, _, rfl, congrArg V.bool (fidx_any p l).symm⟩
theorem typesFault_code (l : List Typ) : (typesFault l).code = 0 ↔ typesFault l = okF := by
  refine ⟨fun h => ?_, fun h => by rw [h]; rfl⟩
  unfold typesFault at h ⊢
  split at h
  · cases h
  · rename_i h8
    rw [if_neg h8]
    have := scan_prop (bad := tyBad l) (fun o => ∀ f, o = some f → f.code ≠ 0) (by simp) (fun i => tyBad_code l i) l.length 0
    cases hs : scan (tyBad l) 0 l.length with
    | none => rfl
    | some f => rw [hs] at h; exact absurd h (this f hs)
def ObOk (l : List Obj) : Prop := l.length ≤ 140737488355328 ∧ ∀ t ∈ l, t.name.length ≤ 140737488355328
def c_types_Objects_1 : Cmd :=
 (qS [qx 2 6912130 2 0, qb 3 false]
 (.seq (.ops [qf 4 0 2, ql 5 1 4, qf 6 0 1, ql 7 1 6, qu 8 .eql [.s] 5 7, qm 3 8]) .ret))
def r_types_Objects_1 : List RVar := [.tmp 3]
def n_types_Objects_1 : Nat := 9
theorem k_types_Objects_1 : chkFn Go.Proofs.Tryz.prog 108 n_types_Objects_1 r_types_Objects_1 c_types_Objects_1 = true := by kernel_rfl
theorem f_types_Objects_1 (u t : Obj) : Fc Go.Proofs.Tryz.prog 108 [obV u, .cptr .p (obV t) 0] (.bool (u.name == t.name)) := by
  refine Fn.step mixed k_types_Objects_1 ?_
  repeat' (first | refine i_s rfl ?_ | refine sw ?_ | refine i_box rfl rfl ?_)
  exact e_ret ⟨rfl, _, rfl, rfl⟩
theorem objectsFault_big {n : Nat} {l : List Obj} (h : 8 < l.length) : objectsFault n l = ⟨2, -3⟩ := by unfold objectsFault; rw [if_pos h]
theorem objectsFault_hit {n : Nat} {l : List Obj} (h : ¬ 8 < l.length) {k : Nat} {f : Flt} (hi : ∀ j, j < k → obBad n l j = none) (hk : k < l.length) (hf : obBad n l k = some f) : objectsFault n l = f := by
  unfold objectsFault; rw [if_neg h, scan0_hit hi hk hf]; rfl
theorem objectsFault_ok {n : Nat} {l : List Obj} (h : ¬ 8 < l.length) (hi : ∀ j, j < l.length → obBad n l j = none) : objectsFault n l = okF := by
  unfold objectsFault; rw [if_neg h, scan0_none hi]; rfl
def c_types_Objects : Cmd :=
 (qS [qq 4 (.alloc 4480258 (.agg [.int .i64 0, .int .i64 0]))]
 (qT (qS [qm 8 1, qn 9 8, qv 10 .gtr [] 9 8]
 (.cond (.t 10) (.seq (.ops [qq 11 (.build [.int .i64 0, .int .i64 0] [(0 , 1 , .c (.int .i64 2)), (1 , 1 , .c (.int .i64 (-3)))]), qs 2 4 11]) .ret) .skip))
 (qT (qS [qm 12 1, qn 13 12, qc 14 0]
 (.block 0 (.loop (qS [qu 15 .lss [] 14 13]
 (qT (.cond (.t 15) .skip (.exit 0))
 (qT (.block 1 (qS [qm 16 14, qi 17 2 12 14, qL 18 2 17, qq 6 (.alloc 4480386 (.agg [.str [], .int .i64 0])), qm 5 16, qs 2 6 18]
 (qS [qc 7 0]
 (qT (.block 2 (qS [qf 20 0 6, ql 21 1 20, qk 22 104 [21], qq 23 (.not (.t 22)), qm 19 23]
 (.cond (.t 19) (.ops [qc 7 12]) (qS [qm 25 1, qm 26 5, qq 27 (.slice false 2 (.t 25) none (some (.t 26))), qq 28 (.mkfn 108 [.t 6]), qk 29 107 [27, 28], qm 24 29]
 (.cond (.t 24) (.ops [qc 7 7]) (qS [qf 31 1 6, ql 32 1 31, qv 33 .lss [] 32 (-1), qm 34 33, qg 35 34 false (.faddr 1 (.t 6)), qg 36 34 false (.load false 1 (.t 35)), qg 37 34 false (.mov (.t 0)), qg 38 34 false (.len false (.t 37)), qg 39 34 false (.bin .geq false [] (.t 36) (.t 38)), qq 40 (.pick (.t 34) (.c (.bool true)) (.t 39)), qm 30 40]
 (.cond (.t 30) (.ops [qc 7 3]) .skip)))))))
 (qS [qm 41 7, qv 42 .neq [.i] 41 0]
 (.cond (.t 42) (.seq (.ops [qm 43 7, qm 44 5, qq 45 (.bin .sub false [] (.c (.int .i64 (-10))) (.t 44)), qq 46 (.build [.int .i64 0, .int .i64 0] [(0 , 1 , .t 43), (1 , 1 , .t 45)]), qs 2 4 46]) .ret) .skip))))))
 (.ops [qv 47 .add [] 14 1, qm 14 47])))))))
 (.seq (.ops [qq 48 (.build [.int .i64 0, .int .i64 0] []), qs 2 4 48]) .ret))))
def r_types_Objects : List RVar := [.cell true 2 4]
def n_types_Objects : Nat := 49
theorem k_types_Objects : chkFn Go.Proofs.Tryz.prog 70 n_types_Objects r_types_Objects c_types_Objects = true := by kernel_rfl
theorem f_types_Objects (ts : List Typ) (hts : ts.length ≤ 140737488355328) (l : List Obj) (ho : ObOk l) : Fc Go.Proofs.Tryz.prog 70 [.sl .p (ts.map tyV), .sl .p (l.map obV)] (ftV (objectsFault ts.length l)) := by
  obtain ⟨hl, hn⟩ := ho
  refine Fn.step mixed k_types_Objects ?_
  repeat' (first | refine i_len rfl ?_ | refine i_s rfl ?_ | refine sw ?_ | refine i_stb rfl ?_ | refine i_alloc rfl ?_ | refine c_cond rfl (fun h => ?_) (fun h => ?_))
  · exact e_ret ⟨rfl, _, rfl, congr_ft (objectsFault_big (by have := of_decide_eq_true h; simp at this; omega))⟩
  have h8 : ¬ 8 < l.length := by have := of_decide_eq_false h; simp at this; omega
  clear h
  refine c_for l.length (fun k => [(0, .sl .p (ts.map tyV)), (1, .sl .p (l.map obV)), (4, .bptr 4480258 0), (12, .sl .p (l.map obV)), (13, .int .i64 l.length), (14, .int .i64 k)]) (fun _ => [(4480258, .box (ftV okF))]) (fun k => ∀ j, j < k → obBad ts.length l j = none) all_zero ft fun k hk hi => ?_
  repeat (first | refine i_s rfl ?_ | refine sw ?_)
  refine c_cond rfl (fun h => ?_) (fun h => ?_)
  · have hlt : k < l.length := by simpa using h
    obtain ⟨t, ht⟩ := get_some hlt
    have hnt := hn t (mem_get ht)
    have hbad : obBad ts.length l k = if nameB t.name = false then some ⟨12, -10 - k⟩ else if (l.take k).any (fun u => u.name == t.name) = true then some ⟨7, -10 - k⟩
      else if t.type < -1 ∨ t.type ≥ ts.length then some ⟨3, -10 - k⟩ else none := by simp [obBad, ht]
    clear h
    have hC := f_ContainsFunc_Object (l.take k) (fun u => u.name == t.name) 108 [.cptr .p (obV t) 0] (by simp; omega) (fun _ _ => rfl) rfl (fun u _ => f_types_Objects_1 u t)
    repeat' (first | refine i_len rfl ?_ | refine i_s rfl ?_ | refine sw ?_ | refine i_gt rfl ?_ | refine i_gf rfl ?_ | refine c_t rfl ?_ | refine c_f rfl ?_ | refine ja rfl rfl ?_ | refine jb rfl rfl ?_ | refine jd rfl rfl ?_ | refine jh rfl rfl ?_ | refine i_stb rfl ?_ | refine i_alloc rfl ?_ | (refine sp ?_ ?_ <;> try intro h) | refine sf rfl rfl (f_types_IsName _ hnt) ?_ | refine sf rfl rfl hC ?_ | fail)
    all_goals clear hC hn ht hk
    all_goals first
      | refine e_ret ⟨rfl, _, rfl, congr_ft (objectsFault_hit h8 hi hlt ?_)⟩; clear hi
      | refine e_for hlt (all_succ hi ?_) ft; clear hi
    all_goals rw [hbad]; clear hbad
    all_goals generalize (l.take k).any _ = bb at *
    all_goals try simp only [List.length_map] at *
    all_goals grind
  · have hge : ¬ k < l.length := by simpa using h
    repeat' (first | refine i_s rfl ?_ | refine sw ?_ | refine i_stb rfl ?_)
    exact e_ret ⟨rfl, _, rfl, congr_ft (objectsFault_ok h8 fun j hj => hi j (by omega))⟩
def memK (l : List Typ) (os : List Obj) (t : Int) (k : Nat) : List Int := ((List.range k).filter fun i => match os[i]? with
  | some o => subB l o.type t
  | none => false).map Int.ofNat
theorem memK_succ {l : List Typ} {os : List Obj} {t : Int} {k : Nat} {o : Obj} (ho : os[k]? = some o) : memK l os t (k + 1) = memK l os t k ++ (if subB l o.type t = true then [(k : Int)] else []) := by
  unfold memK
  rw [List.range_succ, List.filter_append, List.map_append]
  congr 1
  simp only [List.filter, ho]
  split <;> simp_all
theorem memK_len {l : List Typ} {os : List Obj} {t : Int} {k : Nat} : (memK l os t k).length ≤ k := by
  unfold memK
  rw [List.length_map]
  exact Nat.le_trans (List.length_filter_le _ _) (by simp)
def c_types_Above : Cmd :=
 (qS [qx 2 9152129 1 0, qx 3 9152193 1 1, qq 4 (.mov (.c (.nilfn)))]
 (.seq (.ops [qq 5 (.mkfn 156 [.t 3, .t 2]), qm 4 5]) .ret))
def r_types_Above : List RVar := [.tmp 4]
def n_types_Above : Nat := 6
theorem k_types_Above : chkFn Go.Proofs.Tryz.prog 143 n_types_Above r_types_Above c_types_Above = true := by kernel_rfl
theorem c_types_Above_ct {G : Type} {H : HT G} (l : List Typ) (t : Int) (σ : Store) (g : G) (h1 : σ 9152129 = .unused) (h2 : σ 9152193 = .unused) (hp : ∀ nm, σ nm ≠ .unused → nm ∈ [9152129, 9152193]) :
    Cc Go.Proofs.Tryz.prog H 143 [.sl .p (l.map tyV), .int .i64 t] [9152129, 9152193] σ g fun r σ' g' => r = .fn 156 [.bptr 9152193 0, .bptr 9152129 0] ∧ σ' = stOf [(9152129, .box (.sl .p (l.map tyV))), (9152193, .box (.int .i64 t))] ∧ g' = g := by
  refine CT.step _ mixed k_types_Above hp fun hM => ?_
  repeat refine sw ?_
  refine i_box h1 rfl ?_
  refine i_box h2 rfl ?_
  repeat' (first | refine i_s rfl ?_ | refine sw ?_ | fail)
  exact e_ret ⟨rfl, _, rfl, rfl, rfl, rfl, restr_stOf _ _, rfl⟩
def c_types_Above_1 : Cmd :=
 (qT (.block 0 (.loop (qT (qS [ql 4 1 1, qv 5 .geq [] 4 0]
 (.cond (.t 5) .skip (.exit 0)))
 (qT (.block 1 (qS [qm 11 0, ql 12 1 1, qq 13 (.call .y (.t 11) [.t 12]), qq 14 (.not (.t 13))]
 (.cond (.t 14) .ret .skip)))
 (.ops [ql 6 1 2, ql 7 1 1, qi 8 2 6 7, qf 9 1 8, ql 10 1 9, qs 1 1 10])))))
 (.ops [qm 15 0, qq 16 (.call .y (.t 15) [.c (.int .i64 (-1))])]))
def r_types_Above_1 : List RVar := []
def n_types_Above_1 : Nat := 17
theorem k_types_Above_1 : chkFn Go.Proofs.Tryz.prog 156 n_types_Above_1 r_types_Above_1 c_types_Above_1 = true := by kernel_rfl
theorem c_types_Above_1_ct {G : Type} {H : HT G} (l : List Typ) (hv : TyValid l) (t0 : Int) (h00 : -1 ≤ t0) (h01 : t0 < l.length) (g0 : G) (K : G → Prop) (hy0 : YL H ((supers l t0).map fun n => [V.int .i64 n]) g0 K) :
    Cc Go.Proofs.Tryz.prog H 156 [.rnd, .bptr 9152193 0, .bptr 9152129 0] [9152129, 9152193] (stOf [(9152129, .box (.sl .p (l.map tyV))), (9152193, .box (.int .i64 t0))]) g0
      fun _ σ' g' => (∃ t' : Int, σ' = stOf [(9152129, .box (.sl .p (l.map tyV))), (9152193, .box (.int .i64 t'))]) ∧ K g' := by
  refine CT.step _ mixed k_types_Above_1 (fun nm hnm => stOf_mem _ nm hnm) fun hM => ?_
  repeat refine sw ?_
  refine c_loop (ι := Int × G) (fun _ => [(0, .rnd), (1, .bptr 9152193 0), (2, .bptr 9152129 0)]) (fun i => [(9152129, .box (.sl .p (l.map tyV))), (9152193, .box (.int .i64 i.1))]) (fun i => i.2)
    (fun i => -1 ≤ i.1 ∧ i.1 < l.length ∧ YL H ((supers l i.1).map fun n => [V.int .i64 n]) i.2 K) (fun i => (i.1 + 1).toNat) (t0, g0) ⟨h00, h01, hy0⟩ ft rfl fun i hi => ?_
  obtain ⟨t, g⟩ := i
  obtain ⟨h0, h1, hy⟩ := hi
  simp only at h0 h1 hy
  clear h00 h01 hy0
  repeat (first | refine i_s rfl ?_ | refine sw ?_)
  refine c_cond rfl (fun h => ?_) (fun h => ?_)
  · have hge := of_decide_eq_true h
    obtain ⟨x, hx, hp, h2, h3⟩ := parent_ok hv hge h1
    rw [supers_cons hv hge h1 hx] at hy
    repeat (first | refine i_s rfl ?_ | refine sw ?_)
    refine i_y hM rfl rfl rfl (hM _ _ _ _ (fun u g' hu => ?_) hy)
    rcases hu with ⟨rfl, hu⟩ | ⟨rfl, hu⟩
    · repeat (first | refine i_s rfl ?_ | refine sw ?_ | refine c_f rfl ?_ | refine jd rfl rfl ?_ | refine i_stb rfl ?_)
      try refine i_iai rfl rfl hge hx rfl ?_
      skip
      exact e_loop ⟨(x.parent, g'), ⟨h2, by simp only; omega, hu⟩, ft, rfl, by simp only; omega⟩
    · repeat (first | refine i_s rfl ?_ | refine sw ?_ | refine c_t rfl ?_)
      exact e_ret ⟨rfl, _, rfl, rfl, rfl, ⟨t, restr_stOf _ _⟩, hu⟩
  · have hlt : t < 0 := by have := of_decide_eq_false h; omega
    rw [supers_neg hlt] at hy
    repeat (first | refine i_s rfl ?_ | refine sw ?_)
    refine i_y hM rfl rfl rfl (hM _ _ _ _ (fun u g' hu => ?_) hy)
    repeat refine sw ?_
    refine e_end ⟨rfl, _, rfl, rfl, rfl, ⟨t, restr_stOf _ _⟩, ?_⟩
    rcases hu with ⟨_, hu⟩ | ⟨_, hu⟩ <;> exact hu
def c_types_Is : Cmd :=
 (qS [qx 5 7616321 1 2, qq 6 (.alloc 7616385 (.bool false))]
 (qT (qS [qm 8 0, qm 9 1, qq 10 (.call (.s [9152129, 9152193]) (.c (.fn 143 [])) [.t 8, .t 9])]
 (.block 0 (.rangeF [9152129, 9152193] (.t 10) [11] (.ops [qm 7 11]) (.block 1 (qS [qm 12 7, ql 13 1 5, qu 14 .eql [.i] 12 13]
 (.cond (.t 14) (.seq (.ops [.op none none (.store 1 (.t 6) (.c (.bool true)))]) .ret) .skip))))))
 (.seq (.ops [.op none none (.store 1 (.t 6) (.c (.bool false)))]) .ret)))
def r_types_Is : List RVar := [.cell false 1 6]
def n_types_Is : Nat := 15
theorem k_types_Is : chkFn Go.Proofs.Tryz.prog 119 n_types_Is r_types_Is c_types_Is = true := by kernel_rfl
theorem f_types_Is (l : List Typ) (hv : TyValid l) (a b : Int) (h0 : -1 ≤ a) (h1 : a < l.length) : Fc Go.Proofs.Tryz.prog 119 [.sl .p (l.map tyV), .int .i64 a, .int .i64 b] (.bool (subB l a b)) := by
  refine Fn.step mixed k_types_Is ?_
  repeat (first | refine i_s rfl ?_ | refine sw ?_ | refine i_alloc rfl ?_ | refine i_box rfl rfl ?_)
  refine i_c rfl rfl rfl (c_types_Above_ct l a _ _ rfl rfl fun nm h => restr_mem nm h) ?_
  rintro _ _ _ ⟨rfl, rfl, rfl⟩
  repeat refine sw ?_
  refine c_rangeS [(5, .bptr 7616321 0), (6, .bptr 7616385 0)] [(9152129, .box (.sl .p (l.map tyV))), (9152193, .box (.int .i64 a)), (7616321, .box (.int .i64 b)), (7616385, .box (.bool false))] [7616321, 7616385]
    [(9152129, .box (.sl .p (l.map tyV))), (9152193, .box (.int .i64 a))] [(7616321, .box (.int .i64 b)), (7616385, .box (.bool false))] rfl ft rfl rfl rfl rfl ?_
  refine Cc_mono ?_ (c_types_Above_1_ct l hv a h0 h1 _
    (fun st => if subB l a b = true then st = (stOf [(7616321, .box (.int .i64 b)), (7616385, .box (.bool true))], (), some .ret) else st = (stOf [(7616321, .box (.int .i64 b)), (7616385, .box (.bool false))], (), none))
    (YL_find (fun c => decide (c = b)) (fun _ => (stOf [(7616321, .box (.int .i64 b)), (7616385, .box (.bool true))], (), some .ret)) (RHm noH_mono) (supers l a) ?_ ?_))
  · rintro _ σ' st ⟨⟨t', rfl⟩, hst⟩
    split at hst
    · subst hst
      rename_i hs
      refine ⟨rfl, ?_⟩
      exact e_ret ⟨rfl, _, rfl, by rw [hs]; rfl⟩
    · subst hst
      rename_i hs
      refine ⟨rfl, ?_⟩
      show WE _ _ _ _ _ .normal _ _ _
      repeat (first | refine sw ?_ | refine i_stb rfl ?_)
      exact e_ret ⟨rfl, _, rfl, by rw [Bool.not_eq_true] at hs; rw [hs]; rfl⟩
  · intro c hc K hk1 hk2
    refine rh_intro noH_mono rfl ?_
    repeat (first | refine i_s rfl ?_ | refine sw ?_)
    refine e_end ?_
    show WC _ _ _ _ [] _ _ _ _
    repeat' (first | refine i_s rfl ?_ | refine sw ?_ | refine i_stb rfl ?_ | refine c_cond rfl (fun h => ?_) (fun h => ?_))
    · refine e_ret ?_
      exact rhq_r rfl rfl (hk1 (by simpa using h))
    · refine e_end ?_
      exact rhq_n rfl rfl (hk2 (by simpa using h))
  · unfold subB
    cases hf : (supers l a).find? (fun c => decide (c = b)) with
    | none =>
      have : ¬ b ∈ supers l a := fun hm => by
        have := List.find?_eq_none.1 hf b hm
        simp at this
      simp [this]
    | some c =>
      have h1 := List.find?_some hf
      have h2 := List.mem_of_find?_eq_some hf
      have : b ∈ supers l a := by simp at h1; rw [← h1]; exact h2
      simp [this]
def c_types_Of : Cmd :=
 (qS [qq 6 (.mov (.c (.sl .nil [])))]
 (qS [qq 7 (.newVec 4992449)]
 (qT (qS [qm 10 1, qn 11 10, qc 12 0]
 (.block 0 (.loop (qS [qu 13 .lss [] 12 11]
 (qT (.cond (.t 13) .skip (.exit 0))
 (qT (.block 1 (qS [qm 14 12, qi 15 2 10 12, qL 16 2 15, qq 9 (.alloc 4992578 (.agg [.str [], .int .i64 0])), qm 8 14, qs 2 9 16]
 (qS [qm 17 0, qf 18 1 9, ql 19 1 18, qm 20 2, qk 21 119 [17, 19, 20]]
 (.cond (.t 21) (.ops [qm 22 7, qm 23 8, qq 24 (.bsl 1 [.t 23]), qq 25 (.append 1 8 3 (.t 22) (.t 24)), qm 7 25]) .skip))))
 (.ops [qv 26 .add [] 12 1, qm 12 26])))))))
 (.seq (.ops [qm 27 7, qm 6 27]) .ret))))
def r_types_Of : List RVar := [.tmp 6]
def n_types_Of : Nat := 28
theorem k_types_Of : chkFn Go.Proofs.Tryz.prog 78 n_types_Of r_types_Of c_types_Of = true := by kernel_rfl
theorem f_types_Of (l : List Typ) (hv : TyValid l) (os : List Obj) (ho : os.length ≤ 8) (hr : ∀ o ∈ os, -1 ≤ o.type ∧ o.type < l.length) (t : Int) : Fc Go.Proofs.Tryz.prog 78 [.sl .p (l.map tyV), .sl .p (os.map obV), .int .i64 t] (.sl .p ((membersOf l os t).map i64V)) := by
  refine Fn.step mixed k_types_Of ?_
  repeat (first | refine i_len rfl ?_ | refine i_s rfl ?_ | refine sw ?_ | refine i_nv rfl ?_)
  refine c_for os.length (fun k => [(0, .sl .p (l.map tyV)), (2, .int .i64 t), (7, .sl (.own 4992449) ((memK l os t k).map i64V)), (10, .sl .p (os.map obV)), (11, .int .i64 os.length), (12, .int .i64 k)]) (fun k => [(4992449, .vec (memK l os t k).length)]) (fun _ => True) trivial ft fun k hk _ => ?_
  have hml := memK_len (l := l) (os := os) (t := t) (k := k)
  repeat (first | refine i_s rfl ?_ | refine sw ?_)
  refine c_cond rfl (fun h => ?_) (fun h => ?_)
  · have hlt : k < os.length := by simpa using h
    obtain ⟨o, hc⟩ := get_some hlt
    have := hr o (mem_get hc)
    clear h
    repeat' (first | refine i_s rfl ?_ | refine sw ?_ | refine ja rfl rfl ?_ | refine jd rfl rfl ?_ | refine i_stb rfl ?_ | refine i_alloc rfl ?_ | refine c_cond rfl (fun h => ?_) (fun h => ?_) | refine sf rfl rfl (f_types_Is l hv o.type t this.1 this.2) ?_ | fail)
    · refine i_appM rfl rfl rfl rfl rfl (by omega) (by omega) ?_
      repeat' (first | refine i_s rfl ?_ | refine sw ?_ | refine ja rfl rfl ?_ | fail)
      refine e_for hlt trivial ⟨⟨rfl, rfl, ?_, rfl, rfl, rfl, trivial⟩, ⟨?_, trivial⟩, rfl⟩
      · rw [memK_succ hc, if_pos h]; rfl
      · rw [memK_succ hc, if_pos h]; simp; rfl
    · refine e_for hlt trivial ⟨⟨rfl, rfl, ?_, rfl, rfl, rfl, trivial⟩, ⟨?_, trivial⟩, rfl⟩
      · rw [memK_succ hc, if_neg (by simp [h])]; simp; rfl
      · rw [memK_succ hc, if_neg (by simp [h])]; simp; rfl
  · have hge : ¬ k < os.length := by simpa using h
    have e : k = os.length := by omega
    subst e
    repeat' (first | refine i_s rfl ?_ | refine sw ?_ | fail)
    exact e_ret ⟨rfl, _, rfl, rfl⟩
end Hm
end
section
namespace Hm
open Go
set_option maxRecDepth 100000
set_option maxHeartbeats 4000000
def c_ground_choices : Cmd :=
 (qS [qx 2 1856134 6 0, qx 3 1856193 1 1, qq 4 (.mov (.c (.nilfn)))]
 (.seq (.ops [qq 5 (.mkfn 75 [.t 3, .t 2]), qm 4 5]) .ret))
def r_ground_choices : List RVar := [.tmp 4]
def n_ground_choices : Nat := 6
theorem k_ground_choices : chkFn Go.Proofs.Tryz.prog 29 n_ground_choices r_ground_choices c_ground_choices = true := by kernel_rfl
theorem f_ground_choices (d : Dom) (want : List Int) : Fc Go.Proofs.Tryz.prog 29 [domV d, .sl .p (want.map i64V)] (.fn 75 [.cptr .p (.sl .p (want.map i64V)) 0, .cptr .p (domV d) 0]) := by
  refine Fn.step mixed k_ground_choices ?_
  repeat' (first | refine i_s rfl ?_ | refine sw ?_ | refine i_box rfl rfl ?_)
  exact e_ret ⟨rfl, _, rfl, rfl⟩
abbrev wP (want : List Int) : V := .cptr .p (.sl .p (want.map i64V)) 0
abbrev dP (d : Dom) : V := .cptr .p (domV d) 0
abbrev exC (d : Dom) (want : List Int) : V := .fn 76 [wP want, .bptr 4800193 0, dP d, .bptr 4800257 0]
abbrev exL (d : Dom) (want : List Int) : List (Nat × Blk) := [(4800193, .box .rnd), (4800257, .box (exC d want))]
abbrev exL2 (d : Dom) (want : List Int) (nm : Nat) (b : Blk) : List (Nat × Blk) := [(4800193, .box .rnd), (4800257, .box (exC d want)), (nm, b)]
def rowsL (d : Dom) (pre ts : List Int) : List (List V) := (argL d ts).map fun a => [.sl .p ((pre ++ a).map i64V)]
theorem rowsL_nil (d : Dom) (pre : List Int) : rowsL d pre [] = [[.sl .p (pre.map i64V)]] := by simp [rowsL, argL]
def rowsM (d : Dom) (pre : List Int) (M r : List Int) : List (List V) := M.flatMap fun o => rowsL d (pre ++ [o]) r
theorem rowsL_cons (d : Dom) (pre : List Int) (t : Int) (r : List Int) : rowsL d pre (t :: r) = rowsM d pre (memO d t) r := by
  simp only [rowsL, rowsM, argL, List.map_flatMap, List.map_map]
  congr 1
  funext o
  congr 1
  funext a
  simp
theorem rowsM_cons (d : Dom) (pre : List Int) (o : Int) (M r : List Int) : rowsM d pre (o :: M) r = rowsL d (pre ++ [o]) r ++ rowsM d pre M r := by simp [rowsM]
def ExtB (nm : Nat) (d : Dom) (want : List Int) (n : Nat) : Prop := ∀ (G : Type) (H : HT G) (pre r : List Int) (gen : Nat) (g : G) (K : Bool → G → Prop), r.length = n → want = want.take pre.length ++ r → pre.length + n = want.length → YB H (rowsL d pre r) g K →
    Cc Go.Proofs.Tryz.prog H 76 [.msl nm gen 0 pre.length, wP want, .bptr 4800193 0, dP d, .bptr 4800257 0] [4800193, 4800257, nm] (stOf (exL2 d want nm (.arr gen (pre.map i64V)))) g fun v σ' g' =>
      ∃ b, v = .bool b ∧ (∃ k, σ' = stOf (exL2 d want nm k)) ∧ K b g'
theorem drop_at {α : Type} {l : List α} {k : Nat} {x : α} {r : List α} (h : l = l.take k ++ x :: r) (hk : k < l.length) : l[k]? = some x ∧ l = l.take (k + 1) ++ r := by
  have h1 : (l.take k).length = k := by simp; omega
  have h2 : l[k]? = some x := by
    rw [h, List.getElem?_append_right (by omega), h1, Nat.sub_self]; rfl
  refine ⟨h2, ?_⟩
  rw [take_succ_get h2, List.append_assoc]
  exact h
theorem mem_pos {l os t} {M : List Int} (h : M = membersOf l os t) : M.length ≤ os.length := by
  subst h
  unfold membersOf
  rw [List.length_map]
  exact Nat.le_trans (List.length_filter_le _ _) (by simp)
def c_extA : Cmd :=
 (qS [qb 6 false]
 (qT (qS [qm 9 0, qn 10 9, ql 11 1 1, qn 12 11, qu 13 .eql [.i] 10 12]
 (.cond (.t 13) (.seq (.ops [ql 14 1 2, qm 15 0, qk 16 77 [15], qq 17 (.call .y (.t 14) [.t 16]), qm 6 17]) .ret) .skip))
 (qT (qS [qf 18 0 3, ql 19 1 18, qf 20 1 3, ql 21 1 20, ql 22 1 1, qm 23 0, qn 24 23, qi 25 1 22 24, ql 26 1 25, qk 27 78 [19, 21, 26], qn 28 27, qc 29 0]
 (.block 0 (.loop (qS [qu 30 .lss [] 29 28]
 (qT (.cond (.t 30) .skip (.exit 0))
 (qT (.block 1 (qS [qi 31 1 27 29, ql 32 1 31, qm 8 32]
 (qT (.opsT (.node 0 2 (.leaf [0, 1, 3, 4, 2, 5, 6, 7]) (.node 0 5 (.leaf [1, 3, 4, 2, 0, 5, 6, 7]) (.leaf [1, 3, 4, 2, 5, 0, 6, 7]))) [ql 33 1 4, qm 34 0, qq 35 (.call (.s [4928321]) (.c (.fn 77 [])) [.t 34]), qm 36 8, qq 37 (.bsl 1 [.t 36]), qq 38 (.append 1 8 3 (.t 35) (.t 37)), qq 39 (.call (.s [4800193, 4800257, 4928321]) (.t 33) [.t 38]), qq 40 (.not (.t 39))])
 (.cond (.t 40) (.seq (.ops [qb 6 false]) .ret) .skip))))
 (.ops [qv 41 .add [] 29 1, qm 29 41])))))))
 (.seq (.ops [qb 6 true]) .ret))))
def r_extA : List RVar := [.tmp 6]
def n_extA : Nat := 42
theorem k_extA : chkFn Go.Proofs.Tryz.prog 76 n_extA r_extA c_extA = true := by kernel_rfl
theorem ext_stepA (d : Dom) (hd : DoTy d) (want : List Int) (hw : want.length ≤ 1000) (ih : ∀ m, m < want.length → ExtB 4928321 d want m) (G : Type) (H : HT G) (g : G) (K : Bool → G → Prop) (hy : YB H (rowsL d [] want) g K) :
    Cc Go.Proofs.Tryz.prog H 76 [.sl .nil [], wP want, .bptr 4800193 0, dP d, .bptr 4800257 0] [4800193, 4800257] (stOf (exL d want)) g fun v σ' g' => ∃ b, v = .bool b ∧ σ' = stOf (exL d want) ∧ K b g' := by
  generalize hpre : ([] : List Int) = pre at hy
  obtain ⟨r, hr⟩ : ∃ r, r = want := ⟨_, rfl⟩
  rw [← hr] at hy
  have hwr : want = want.take pre.length ++ r := by rw [← hpre, hr]; rfl
  have hn : pre.length + r.length = want.length := by rw [← hpre, hr]; simp
  have ih : ∀ m, m < r.length → ExtB 4928321 d want m := by rw [hr]; exact ih
  clear hr
  refine CT.step _ mixed k_extA (fun nm h => stOf_mem _ nm h) fun hM => ?_
  repeat (first | refine i_len rfl ?_ | refine i_s rfl ?_ | refine sw ?_)
  by_cases hr0 : r = []
  · subst hr0
    rw [rowsL_nil] at hy
    have hl : pre.length = want.length := by simpa using hn
    have hC := f_slices_Clone_int pre (by omega)
    subst hpre
    refine c_t (by exact congrArg V.bool (by first | (simp at hl ⊢; done) | (simp at hl ⊢; simp [← hl]; done) | (simp at hl ⊢; omega))) ?_
    repeat (first | refine i_s rfl ?_ | refine sw ?_ | refine sf rfl rfl hC ?_)
    refine i_y hM rfl rfl rfl (hM _ _ _ _ (fun u g' hu => ?_) hy)
    rcases hu with ⟨rfl, hu⟩ | ⟨rfl, hu⟩
    · repeat (first | refine i_s rfl ?_ | refine sw ?_)
      exact e_ret ⟨rfl, _, rfl, rfl, rfl, true, rfl, restr_stOf _ _, hu⟩
    · repeat (first | refine i_s rfl ?_ | refine sw ?_)
      exact e_ret ⟨rfl, _, rfl, rfl, rfl, false, rfl, restr_stOf _ _, hu⟩
  · obtain ⟨t, r, rfl⟩ : ∃ t q, r = t :: q := by
      cases r with
      | nil => exact absurd rfl hr0
      | cons t q => exact ⟨t, q, rfl⟩
    have hlt : pre.length < want.length := by simp only [List.length_cons] at hn; omega
    obtain ⟨ht, hwr2⟩ := drop_at hwr hlt
    rw [rowsL_cons] at hy
    have hT := f_types_Of d.types hd.ty d.objects hd.ol hd.o t
    have hMl := mem_pos (l := d.types) (os := d.objects) (t := t) rfl
    have hol := hd.ol
    change YB H (rowsM d pre (membersOf d.types d.objects t) r) g K at hy
    generalize membersOf d.types d.objects t = M at *
    subst hpre
    simp only [List.length_nil] at ht hlt
    refine c_f (by exact congrArg V.bool (by first | (simp; intro e; rw [e] at hlt; simp at hlt; done) | (simp; intro e; omega) | (simp; omega) | (simp [← hn]; done) | (simp at hn ⊢; omega))) ?_
    repeat (first | refine i_len rfl ?_ | refine i_s rfl ?_ | refine sw ?_ | refine jd rfl rfl ?_ | refine sf rfl rfl hT ?_)
    refine c_loop (ι := Nat × G) (fun i => [(0, .sl .nil []), (4, .bptr 4800257 0), (27, .sl .p (M.map i64V)), (28, .int .i64 M.length), (29, .int .i64 i.1)]) (fun i => exL d want) (fun i => i.2)
      (fun i => i.1 ≤ M.length ∧ YB H (rowsM d [] (M.drop i.1) r) i.2 K) (fun i => M.length - i.1) (0, g) ⟨Nat.zero_le _, by rw [List.drop_zero]; exact hy⟩ (by exact ⟨⟨rfl, rfl, rfl, rfl, rfl, trivial⟩, ⟨rfl, rfl, trivial⟩, rfl⟩) rfl fun i hi => ?_
    obtain ⟨i, gi⟩ := i
    obtain ⟨hi1, hyi⟩ := hi
    simp only at hi1 hyi
    clear hy hT
    repeat (first | refine i_s rfl ?_ | refine sw ?_)
    refine c_cond rfl (fun h => ?_) (fun h => ?_)
    · have hil : i < M.length := by simpa using h
      clear h
      obtain ⟨o, ho⟩ := get_some hil
      have e : M.drop i = o :: M.drop (i + 1) := by
        rw [List.drop_eq_getElem_cons hil]
        congr 1
        exact (List.getElem?_eq_some_iff.1 ho).2
      rw [e, rowsM_cons] at hyi
      have hyb := YB_append hM _ _ _ _ hyi
      have hE := fun gen => ih r.length (by simp) G H ([] ++ [o]) r gen gi _ rfl (by simpa using hwr2) (by simp only [List.length_append, List.length_singleton, List.length_cons, List.length_nil] at hn ⊢; omega) hyb
      clear hyi
      repeat' (first | refine i_s rfl ?_ | refine sw ?_ | refine jd rfl rfl ?_ | refine c_node ?_ ?_)
      all_goals
        refine i_c rfl rfl rfl (ct_Clone1n _ _ rfl fun nm h => restr_mem nm h) ?_
        rintro _ _ _ ⟨⟨gen2, rfl, rfl⟩, rfl⟩
        repeat' refine i_s rfl ?_
      all_goals
        refine i_appmM (l := []) [o] rfl rfl rfl rfl rfl (fun c hc => ⟨rfl, rfl⟩) (by simp only [List.length_singleton, List.length_nil]; omega) (by simp only [List.length_singleton, List.length_nil]; omega) ?_
        repeat' refine i_s rfl ?_
      all_goals
        refine i_cs rfl rfl rfl rfl (hE _) ?_
        rintro _ _ _ ⟨b, rfl, ⟨k, rfl⟩, hk⟩
        cases b
        · rcases hk with ⟨hk, _⟩ | ⟨_, hk⟩
          · cases hk
          · repeat (first | refine i_s rfl ?_ | refine sw ?_ | refine c_t rfl ?_)
            exact e_ret ⟨rfl, _, rfl, rfl, rfl, false, rfl, restr_stOf _ _, hk⟩
        · rcases hk with ⟨_, hk⟩ | ⟨hk, _⟩
          · repeat (first | refine i_s rfl ?_ | refine sw ?_ | refine c_f rfl ?_ | refine ja rfl rfl ?_)
            exact e_loop ⟨(i + 1, _), ⟨hil, hk⟩, ft, rfl, by simp only; omega⟩
          · cases hk
    · have hge : i = M.length := by have : ¬ i < M.length := by simpa using h
                                    omega
      subst hge
      rw [List.drop_length] at hyi
      repeat (first | refine i_s rfl ?_ | refine sw ?_)
      exact e_ret ⟨rfl, _, rfl, rfl, rfl, true, rfl, restr_stOf _ _, hyi⟩
def c_extB : Cmd :=
 (.seq (.ops [qb 6 false]) (qT (.frz 0)
 (qT (qS [qm 9 0, qn 10 9, ql 11 1 1, qn 12 11, qu 13 .eql [.i] 10 12]
 (.cond (.t 13) (.seq (.ops [ql 14 1 2, qm 15 0, qk 16 77 [15], qq 17 (.call .y (.t 14) [.t 16]), qm 6 17]) .ret) .skip))
 (qT (qS [qf 18 0 3, ql 19 1 18, qf 20 1 3, ql 21 1 20, ql 22 1 1, qm 23 0, qn 24 23, qi 25 1 22 24, ql 26 1 25, qk 27 78 [19, 21, 26], qn 28 27, qc 29 0]
 (.block 0 (.loop (qS [qu 30 .lss [] 29 28]
 (qT (.cond (.t 30) .skip (.exit 0))
 (qT (.block 1 (qS [qi 31 1 27 29, ql 32 1 31, qm 8 32]
 (qT (.opsT (.node 0 2 (.leaf [0, 1, 3, 4, 2, 5, 6, 7]) (.node 0 5 (.leaf [1, 3, 4, 2, 0, 5, 6, 7]) (.leaf [1, 3, 4, 2, 5, 0, 6, 7]))) [ql 33 1 4, qm 34 0, qq 35 (.call (.s [4928449]) (.c (.fn 77 [])) [.t 34]), qm 36 8, qq 37 (.bsl 1 [.t 36]), qq 38 (.append 1 8 3 (.t 35) (.t 37)), qq 39 (.call (.s [4800193, 4800257, 4928449]) (.t 33) [.t 38]), qq 40 (.not (.t 39))])
 (.cond (.t 40) (.seq (.ops [qb 6 false]) .ret) .skip))))
 (.ops [qv 41 .add [] 29 1, qm 29 41])))))))
 (.seq (.ops [qb 6 true]) .ret)))))
def r_extB : List RVar := [.tmp 6]
def n_extB : Nat := 42
theorem k_extB : chkFn Go.Proofs.Tryz.prog 76 n_extB r_extB c_extB = true := by kernel_rfl
theorem ext_stepB (d : Dom) (hd : DoTy d) (want : List Int) (hw : want.length ≤ 1000) (n : Nat) (ih : ∀ m, m < n → ExtB 4928449 d want m) : ExtB 4928321 d want n := by
  intro G H pre r gen g K hrn hwr hn hy
  subst hrn
  refine CT.step _ mixed k_extB (fun nm h => stOf_mem _ nm h) fun hM => ?_
  repeat (first | refine i_s rfl ?_ | refine sw ?_)
  refine c_frzall rfl rfl rfl (by simp) ?_
  repeat (first | refine i_len rfl ?_ | refine i_s rfl ?_ | refine sw ?_)
  by_cases hr0 : r = []
  · subst hr0
    rw [rowsL_nil] at hy
    have hl : pre.length = want.length := by simpa using hn
    have hC := f_slices_Clone_int pre (by omega)
    refine c_t (by exact congrArg V.bool (by rw [hl]; simp)) ?_
    repeat (first | refine i_s rfl ?_ | refine sw ?_ | refine sf rfl rfl hC ?_)
    refine i_y hM rfl rfl rfl (hM _ _ _ _ (fun u g' hu => ?_) hy)
    rcases hu with ⟨rfl, hu⟩ | ⟨rfl, hu⟩
    · repeat (first | refine i_s rfl ?_ | refine sw ?_)
      exact e_ret ⟨rfl, _, rfl, rfl, rfl, true, rfl, ⟨_, restr_stOf _ _⟩, hu⟩
    · repeat (first | refine i_s rfl ?_ | refine sw ?_)
      exact e_ret ⟨rfl, _, rfl, rfl, rfl, false, rfl, ⟨_, restr_stOf _ _⟩, hu⟩
  · obtain ⟨t, r, rfl⟩ : ∃ t q, r = t :: q := by
      cases r with
      | nil => exact absurd rfl hr0
      | cons t q => exact ⟨t, q, rfl⟩
    have hlt : pre.length < want.length := by simp only [List.length_cons] at hn; omega
    obtain ⟨ht, hwr2⟩ := drop_at hwr hlt
    rw [rowsL_cons] at hy
    have hT := f_types_Of d.types hd.ty d.objects hd.ol hd.o t
    have hMl := mem_pos (l := d.types) (os := d.objects) (t := t) rfl
    have hol := hd.ol
    change YB H (rowsM d pre (membersOf d.types d.objects t) r) g K at hy
    generalize membersOf d.types d.objects t = M at *
    refine c_f (by exact congrArg V.bool (by simp; omega)) ?_
    repeat (first | refine i_len rfl ?_ | refine i_s rfl ?_ | refine sw ?_ | refine jd rfl rfl ?_ | refine sf rfl rfl hT ?_)
    refine c_loop (ι := Nat × G) (fun i => [(0, .sl .p (pre.map i64V)), (4, .bptr 4800257 0), (27, .sl .p (M.map i64V)), (28, .int .i64 M.length), (29, .int .i64 i.1)]) (fun i => exL2 d want 4928321 .dead) (fun i => i.2)
      (fun i => i.1 ≤ M.length ∧ YB H (rowsM d pre (M.drop i.1) r) i.2 K) (fun i => M.length - i.1) (0, g) ⟨Nat.zero_le _, by rw [List.drop_zero]; exact hy⟩ ft rfl fun i hi => ?_
    obtain ⟨i, gi⟩ := i
    obtain ⟨hi1, hyi⟩ := hi
    simp only at hi1 hyi
    clear hy hT
    repeat (first | refine i_s rfl ?_ | refine sw ?_)
    refine c_cond rfl (fun h => ?_) (fun h => ?_)
    · have hil : i < M.length := by simpa using h
      clear h
      obtain ⟨o, ho⟩ := get_some hil
      have e : M.drop i = o :: M.drop (i + 1) := by
        rw [List.drop_eq_getElem_cons hil]
        congr 1
        exact (List.getElem?_eq_some_iff.1 ho).2
      rw [e, rowsM_cons] at hyi
      have hyb := YB_append hM _ _ _ _ hyi
      have hE := fun gen => ih r.length (by simp) G H (pre ++ [o]) r gen gi _ rfl (by simpa using hwr2) (by simp only [List.length_append, List.length_singleton, List.length_cons, List.length_nil] at hn ⊢; omega) hyb
      clear hyi
      repeat' (first | refine i_s rfl ?_ | refine sw ?_ | refine jd rfl rfl ?_ | refine c_node ?_ ?_)
      all_goals
        refine i_c rfl rfl rfl (ct_Clone7 pre (by omega) _ _ rfl fun nm h => restr_mem nm h) ?_
        rintro _ _ _ ⟨⟨gen2, rfl, rfl⟩, rfl⟩
        repeat' refine i_s rfl ?_
      all_goals
        refine i_appmM (l := pre) [o] rfl rfl rfl rfl rfl (fun c hc => ⟨rfl, rfl⟩) (by simp only [List.length_singleton]; omega) (by simp only [List.length_singleton]; omega) ?_
        repeat' refine i_s rfl ?_
      all_goals
        refine i_cs rfl rfl rfl rfl (hE _) ?_
        rintro _ _ _ ⟨b, rfl, ⟨k, rfl⟩, hk⟩
        cases b
        · rcases hk with ⟨hk, _⟩ | ⟨_, hk⟩
          · cases hk
          · repeat (first | refine i_s rfl ?_ | refine sw ?_ | refine c_t rfl ?_)
            exact e_ret ⟨rfl, _, rfl, rfl, rfl, false, rfl, ⟨_, restr_stOf _ _⟩, hk⟩
        · rcases hk with ⟨_, hk⟩ | ⟨hk, _⟩
          · repeat (first | refine i_s rfl ?_ | refine sw ?_ | refine c_f rfl ?_ | refine ja rfl rfl ?_)
            exact e_loop ⟨(i + 1, _), ⟨hil, hk⟩, ft, rfl, by simp only; omega⟩
          · cases hk
    · have hge : i = M.length := by have : ¬ i < M.length := by simpa using h
                                    omega
      subst hge
      rw [List.drop_length] at hyi
      repeat (first | refine i_s rfl ?_ | refine sw ?_)
      exact e_ret ⟨rfl, _, rfl, rfl, rfl, true, rfl, ⟨_, restr_stOf _ _⟩, hyi⟩
def c_extC : Cmd :=
 (.seq (.ops [qb 6 false]) (qT (.frz 0)
 (qT (qS [qm 9 0, qn 10 9, ql 11 1 1, qn 12 11, qu 13 .eql [.i] 10 12]
 (.cond (.t 13) (.seq (.ops [ql 14 1 2, qm 15 0, qk 16 77 [15], qq 17 (.call .y (.t 14) [.t 16]), qm 6 17]) .ret) .skip))
 (qT (qS [qf 18 0 3, ql 19 1 18, qf 20 1 3, ql 21 1 20, ql 22 1 1, qm 23 0, qn 24 23, qi 25 1 22 24, ql 26 1 25, qk 27 78 [19, 21, 26], qn 28 27, qc 29 0]
 (.block 0 (.loop (qS [qu 30 .lss [] 29 28]
 (qT (.cond (.t 30) .skip (.exit 0))
 (qT (.block 1 (qS [qi 31 1 27 29, ql 32 1 31, qm 8 32]
 (qT (.opsT (.node 0 2 (.leaf [0, 1, 3, 4, 2, 5, 6, 7]) (.node 0 5 (.leaf [1, 3, 4, 2, 0, 5, 6, 7]) (.leaf [1, 3, 4, 2, 5, 0, 6, 7]))) [ql 33 1 4, qm 34 0, qq 35 (.call (.s [4928321]) (.c (.fn 77 [])) [.t 34]), qm 36 8, qq 37 (.bsl 1 [.t 36]), qq 38 (.append 1 8 3 (.t 35) (.t 37)), qq 39 (.call (.s [4800193, 4800257, 4928321]) (.t 33) [.t 38]), qq 40 (.not (.t 39))])
 (.cond (.t 40) (.seq (.ops [qb 6 false]) .ret) .skip))))
 (.ops [qv 41 .add [] 29 1, qm 29 41])))))))
 (.seq (.ops [qb 6 true]) .ret)))))
def r_extC : List RVar := [.tmp 6]
def n_extC : Nat := 42
theorem k_extC : chkFn Go.Proofs.Tryz.prog 76 n_extC r_extC c_extC = true := by kernel_rfl
theorem ext_stepC (d : Dom) (hd : DoTy d) (want : List Int) (hw : want.length ≤ 1000) (n : Nat) (ih : ∀ m, m < n → ExtB 4928321 d want m) : ExtB 4928449 d want n := by
  intro G H pre r gen g K hrn hwr hn hy
  subst hrn
  refine CT.step _ mixed k_extC (fun nm h => stOf_mem _ nm h) fun hM => ?_
  repeat (first | refine i_s rfl ?_ | refine sw ?_)
  refine c_frzall rfl rfl rfl (by simp) ?_
  repeat (first | refine i_len rfl ?_ | refine i_s rfl ?_ | refine sw ?_)
  by_cases hr0 : r = []
  · subst hr0
    rw [rowsL_nil] at hy
    have hl : pre.length = want.length := by simpa using hn
    have hC := f_slices_Clone_int pre (by omega)
    refine c_t (by exact congrArg V.bool (by rw [hl]; simp)) ?_
    repeat (first | refine i_s rfl ?_ | refine sw ?_ | refine sf rfl rfl hC ?_)
    refine i_y hM rfl rfl rfl (hM _ _ _ _ (fun u g' hu => ?_) hy)
    rcases hu with ⟨rfl, hu⟩ | ⟨rfl, hu⟩
    · repeat (first | refine i_s rfl ?_ | refine sw ?_)
      exact e_ret ⟨rfl, _, rfl, rfl, rfl, true, rfl, ⟨_, restr_stOf _ _⟩, hu⟩
    · repeat (first | refine i_s rfl ?_ | refine sw ?_)
      exact e_ret ⟨rfl, _, rfl, rfl, rfl, false, rfl, ⟨_, restr_stOf _ _⟩, hu⟩
  · obtain ⟨t, r, rfl⟩ : ∃ t q, r = t :: q := by
      cases r with
      | nil => exact absurd rfl hr0
      | cons t q => exact ⟨t, q, rfl⟩
    have hlt : pre.length < want.length := by simp only [List.length_cons] at hn; omega
    obtain ⟨ht, hwr2⟩ := drop_at hwr hlt
    rw [rowsL_cons] at hy
    have hT := f_types_Of d.types hd.ty d.objects hd.ol hd.o t
    have hMl := mem_pos (l := d.types) (os := d.objects) (t := t) rfl
    have hol := hd.ol
    change YB H (rowsM d pre (membersOf d.types d.objects t) r) g K at hy
    generalize membersOf d.types d.objects t = M at *
    refine c_f (by exact congrArg V.bool (by simp; omega)) ?_
    repeat (first | refine i_len rfl ?_ | refine i_s rfl ?_ | refine sw ?_ | refine jd rfl rfl ?_ | refine sf rfl rfl hT ?_)
    refine c_loop (ι := Nat × G) (fun i => [(0, .sl .p (pre.map i64V)), (4, .bptr 4800257 0), (27, .sl .p (M.map i64V)), (28, .int .i64 M.length), (29, .int .i64 i.1)]) (fun i => exL2 d want 4928449 .dead) (fun i => i.2)
      (fun i => i.1 ≤ M.length ∧ YB H (rowsM d pre (M.drop i.1) r) i.2 K) (fun i => M.length - i.1) (0, g) ⟨Nat.zero_le _, by rw [List.drop_zero]; exact hy⟩ ft rfl fun i hi => ?_
    obtain ⟨i, gi⟩ := i
    obtain ⟨hi1, hyi⟩ := hi
    simp only at hi1 hyi
    clear hy hT
    repeat (first | refine i_s rfl ?_ | refine sw ?_)
    refine c_cond rfl (fun h => ?_) (fun h => ?_)
    · have hil : i < M.length := by simpa using h
      clear h
      obtain ⟨o, ho⟩ := get_some hil
      have e : M.drop i = o :: M.drop (i + 1) := by
        rw [List.drop_eq_getElem_cons hil]
        congr 1
        exact (List.getElem?_eq_some_iff.1 ho).2
      rw [e, rowsM_cons] at hyi
      have hyb := YB_append hM _ _ _ _ hyi
      have hE := fun gen => ih r.length (by simp) G H (pre ++ [o]) r gen gi _ rfl (by simpa using hwr2) (by simp only [List.length_append, List.length_singleton, List.length_cons, List.length_nil] at hn ⊢; omega) hyb
      clear hyi
      repeat' (first | refine i_s rfl ?_ | refine sw ?_ | refine jd rfl rfl ?_ | refine c_node ?_ ?_)
      all_goals
        refine i_c rfl rfl rfl (ct_Clone1 pre (by omega) _ _ rfl fun nm h => restr_mem nm h) ?_
        rintro _ _ _ ⟨⟨gen2, rfl, rfl⟩, rfl⟩
        repeat' refine i_s rfl ?_
      all_goals
        refine i_appmM (l := pre) [o] rfl rfl rfl rfl rfl (fun c hc => ⟨rfl, rfl⟩) (by simp only [List.length_singleton]; omega) (by simp only [List.length_singleton]; omega) ?_
        repeat' refine i_s rfl ?_
      all_goals
        refine i_cs rfl rfl rfl rfl (hE _) ?_
        rintro _ _ _ ⟨b, rfl, ⟨k, rfl⟩, hk⟩
        cases b
        · rcases hk with ⟨hk, _⟩ | ⟨_, hk⟩
          · cases hk
          · repeat (first | refine i_s rfl ?_ | refine sw ?_ | refine c_t rfl ?_)
            exact e_ret ⟨rfl, _, rfl, rfl, rfl, false, rfl, ⟨_, restr_stOf _ _⟩, hk⟩
        · rcases hk with ⟨_, hk⟩ | ⟨hk, _⟩
          · repeat (first | refine i_s rfl ?_ | refine sw ?_ | refine c_f rfl ?_ | refine ja rfl rfl ?_)
            exact e_loop ⟨(i + 1, _), ⟨hil, hk⟩, ft, rfl, by simp only; omega⟩
          · cases hk
    · have hge : i = M.length := by have : ¬ i < M.length := by simpa using h
                                    omega
      subst hge
      rw [List.drop_length] at hyi
      repeat (first | refine i_s rfl ?_ | refine sw ?_)
      exact e_ret ⟨rfl, _, rfl, rfl, rfl, true, rfl, ⟨_, restr_stOf _ _⟩, hyi⟩
theorem ext_all (d : Dom) (hd : DoTy d) (want : List Int) (hw : want.length ≤ 1000) (n : Nat) : ExtB 4928321 d want n ∧ ExtB 4928449 d want n := by
  induction n using Nat.strongRecOn with
  | ind n ih => exact ⟨ext_stepB d hd want hw n fun m hm => (ih m hm).2, ext_stepC d hd want hw n fun m hm => (ih m hm).1⟩
def c_ground_choices_1 : Cmd :=
 (qS [qx 3 4800193 1 0]
 (qS [qq 4 (.alloc 4800257 (.nilfn))]
 (qS [qq 5 (.mkfn 76 [.t 1, .t 3, .t 2, .t 4]), qs 1 4 5]
 (.ops [ql 6 1 4, qq 7 (.call (.s [4800193, 4800257]) (.t 6) [.c (.sl .nil [])])]))))
def r_ground_choices_1 : List RVar := []
def n_ground_choices_1 : Nat := 8
theorem k_ground_choices_1 : chkFn Go.Proofs.Tryz.prog 75 n_ground_choices_1 r_ground_choices_1 c_ground_choices_1 = true := by kernel_rfl
theorem ct_choices_1 {G : Type} {H : HT G} (d : Dom) (hd : DoTy d) (want : List Int) (hw : want.length ≤ 1000) (g : G) (K : G → Prop) (hy : YL H ((argL d want).map fun a => [.sl .p (a.map i64V)]) g K) :
    Cc Go.Proofs.Tryz.prog H 75 [.rnd, wP want, dP d] [] (stOf []) g fun _ σ' g' => σ' = stOf [] ∧ K g' := by
  refine CT.step _ mixed k_ground_choices_1 (fun nm hnm => stOf_mem _ nm hnm) fun hM => ?_
  have hE := ext_stepA d hd want hw (fun m _ => (ext_all d hd want hw m).1) G H g (fun _ => K) (YB_of_YL hM _ _ _ hy)
  repeat' (first | refine i_s rfl ?_ | refine sw ?_ | refine i_stb rfl ?_ | refine i_alloc rfl ?_ | refine i_box rfl rfl ?_)
  refine i_cs rfl rfl rfl rfl hE ?_
  rintro _ _ _ ⟨b, rfl, rfl, hk⟩
  repeat' (first | refine sw ?_ | fail)
  exact e_end ⟨rfl, _, rfl, rfl, rfl, restr_stOf _ _, hk⟩
def c_domain_Params_1 : Cmd :=
 (qS [qb 3 false]
 (.seq (.ops [qm 4 0, qv 5 .lss [] 4 (-1), qm 6 5, qg 7 6 false (.mov (.t 0)), qg 8 6 false (.faddr 0 (.t 1)), qg 9 6 false (.load false 1 (.t 8)), qg 10 6 false (.len false (.t 9)), qg 11 6 false (.bin .geq false [] (.t 7) (.t 10)), qq 12 (.pick (.t 6) (.c (.bool true)) (.t 11)), qm 3 12]) .ret))
def r_domain_Params_1 : List RVar := [.tmp 3]
def n_domain_Params_1 : Nat := 13
theorem k_domain_Params_1 : chkFn Go.Proofs.Tryz.prog 138 n_domain_Params_1 r_domain_Params_1 c_domain_Params_1 = true := by kernel_rfl
theorem f_domain_Params_1 (d : Dom) (hd : d.types.length ≤ 140737488355328) (t : Int) : Fc Go.Proofs.Tryz.prog 138 [.int .i64 t, .cptr .p (domV d) 0] (.bool (badT d.types.length t)) := by
  refine Fn.step mixed k_domain_Params_1 ?_
  repeat' (first | refine i_len rfl ?_ | refine i_s rfl ?_ | refine sw ?_ | refine i_gt rfl ?_ | refine i_gf rfl ?_ | refine i_g rfl (fun h => ?_) (fun h => ?_))
  all_goals (refine e_ret ⟨rfl, _, rfl, congrArg V.bool ?_⟩; unfold badT; simp at *; (try omega))
def c_domain_Params : Cmd :=
 (qS [qx 2 7104134 6 0, qc 4 0]
 (qT (qS [qm 5 1, qn 6 5, qv 7 .gtr [] 6 3]
 (.cond (.t 7) (.seq (.ops [qc 4 2]) .ret) .skip))
 (qT (qS [qm 8 1, qq 9 (.mkfn 138 [.t 2]), qk 10 44 [8, 9]]
 (.cond (.t 10) (.seq (.ops [qc 4 3]) .ret) .skip))
 (.seq (.ops [qc 4 0]) .ret))))
def r_domain_Params : List RVar := [.tmp 4]
def n_domain_Params : Nat := 11
theorem k_domain_Params : chkFn Go.Proofs.Tryz.prog 111 n_domain_Params r_domain_Params c_domain_Params = true := by kernel_rfl
theorem f_domain_Params (d : Dom) (hd : d.types.length ≤ 140737488355328) (l : List Int) (hl : l.length ≤ 140737488355328) : Fc Go.Proofs.Tryz.prog 111 [domV d, .sl .p (l.map i64V)] (.int .i64 (paramsCode d.types.length l)) := by
  have hC := f_ContainsFunc_int l (badT d.types.length) 138 [.cptr .p (domV d) 0] hl (fun _ _ => rfl) rfl (fun t _ => f_domain_Params_1 d hd t)
  unfold paramsCode
  by_cases h3 : l.length > 3
  · rw [if_pos h3]
    refine Fn.step mixed k_domain_Params ?_
    repeat' (first | refine i_len rfl ?_ | refine i_s rfl ?_ | refine sw ?_ | refine i_box rfl rfl ?_ | refine c_cond rfl (fun h => ?_) (fun h => ?_))
    all_goals first
      | exact e_ret ⟨rfl, _, rfl, rfl⟩
      | (exfalso; simp at *; omega)
  · rw [if_neg h3]
    cases hany : l.any (badT d.types.length) with
    | true =>
      rw [hany] at hC
      refine Fn.step mixed k_domain_Params ?_
      repeat' (first | refine i_len rfl ?_ | refine i_s rfl ?_ | refine sw ?_ | refine c_t rfl ?_ | refine i_box rfl rfl ?_ | refine c_cond rfl (fun h => ?_) (fun h => ?_) | refine sf rfl rfl hC ?_ | fail)
      all_goals first
        | exact e_ret ⟨rfl, _, rfl, rfl⟩
        | (exfalso; clear hC; simp at *; omega)
    | false =>
      rw [hany] at hC
      refine Fn.step mixed k_domain_Params ?_
      repeat' (first | refine i_len rfl ?_ | refine i_s rfl ?_ | refine sw ?_ | refine c_f rfl ?_ | refine i_box rfl rfl ?_ | refine c_cond rfl (fun h => ?_) (fun h => ?_) | refine sf rfl rfl hC ?_ | fail)
      all_goals first
        | exact e_ret ⟨rfl, _, rfl, rfl⟩
        | (exfalso; clear hC; simp at *; omega)
theorem atomCode_none {d : Dom} {ps : List Int} {a : At} (h : a.pred < 0 ∨ (d.preds.length : Int) ≤ a.pred) : atomCode d ps a = 6 := by unfold atomCode; rw [if_pos h]
theorem atomCode_len {d : Dom} {ps : List Int} {a : At} {p : Prd} (h : ¬ (a.pred < 0 ∨ (d.preds.length : Int) ≤ a.pred)) (hp : d.preds[a.pred.toNat]? = some p) (hl : a.args.length ≠ p.types.length) : atomCode d ps a = 9 := by
  unfold atomCode; rw [if_neg h, hp]; simp only; rw [if_pos hl]
theorem atomCode_scan {d : Dom} {ps : List Int} {a : At} {p : Prd} (h : ¬ (a.pred < 0 ∨ (d.preds.length : Int) ≤ a.pred)) (hp : d.preds[a.pred.toNat]? = some p) (hl : a.args.length = p.types.length) : atomCode d ps a = (scan (argBad d ps p.types a) 0 a.args.length).getD 0 := by
  unfold atomCode; rw [if_neg h, hp]; simp only; rw [if_neg (by simp [hl])]
def tyoV : Option Int → V
  | some t => .tup [.int .i64 t, .bool true]
  | none => .tup [.int .i64 0, .bool false]
def c_domain_typeOf : Cmd :=
 (qS [qx 3 9920198 6 0, qc 6 0, qb 7 false]
 (qT (.block 0 (qS [qm 9 2, qv 10 .geq [] 9 0, qm 11 10, qg 12 11 true (.mov (.t 2)), qg 13 11 true (.faddr 1 (.t 3)), qg 14 11 true (.load false 1 (.t 13)), qg 15 11 true (.len false (.t 14)), qg 16 11 true (.bin .lss false [] (.t 12) (.t 15)), qq 17 (.pick (.t 11) (.t 16) (.c (.bool false))), qm 8 17]
 (.cond (.t 8) (.seq (.ops [qf 18 1 3, ql 19 1 18, qm 20 2, qi 21 2 19 20, qf 22 1 21, ql 23 1 22, qm 6 23, qb 7 true]) .ret) (qS [qm 25 2, qv 26 .lss [] 25 0, qm 27 26, qg 28 27 true (.mov (.t 2)), qg 29 27 true (.mov (.t 1)), qg 30 27 true (.len false (.t 29)), qg 31 27 true (.bin .sub false [] (.c (.int .i64 0)) (.t 30)), qg 32 27 true (.bin .geq false [] (.t 28) (.t 31)), qq 33 (.pick (.t 27) (.t 32) (.c (.bool false))), qm 24 33]
 (.cond (.t 24) (.seq (.ops [qm 34 1, qm 35 2, qq 36 (.bin .sub false [] (.c (.int .i64 (-1))) (.t 35)), qi 37 1 34 36, ql 38 1 37, qm 6 38, qb 7 true]) .ret) .skip)))))
 (.seq (.ops [qc 6 0, qb 7 false]) .ret)))
def r_domain_typeOf : List RVar := [.tmp 6, .tmp 7]
def n_domain_typeOf : Nat := 39
theorem k_domain_typeOf : chkFn Go.Proofs.Tryz.prog 155 n_domain_typeOf r_domain_typeOf c_domain_typeOf = true := by kernel_rfl
theorem f_domain_typeOf (d : Dom) (ho : d.objects.length ≤ 140737488355328) (ps : List Int) (hl : ps.length ≤ 140737488355328) (x : Int) (hx : InR .i64 x) : Fc Go.Proofs.Tryz.prog 155 [domV d, .sl .p (ps.map i64V), .int .i64 x] (tyoV (typeOfA d ps x)) := by
  have hx1 : (-9223372036854775808 : Int) ≤ x := hx.1
  have hx2 : x ≤ 9223372036854775807 := hx.2
  clear hx
  unfold typeOfA
  by_cases h1 : 0 ≤ x ∧ x < d.objects.length
  · rw [if_pos h1]
    obtain ⟨o, hoo⟩ := get_some (l := d.objects) (k := x.toNat) (by omega)
    rw [hoo]
    refine Fn.step mixed k_domain_typeOf ?_
    repeat' (first | refine i_len rfl ?_ | refine i_s rfl ?_ | refine sw ?_ | refine i_gt rfl ?_ | refine i_gf rfl ?_ | refine c_f rfl ?_ | refine jb rfl rfl ?_ | refine jd rfl rfl ?_ | refine i_box rfl rfl ?_ | (refine sp ?_ ?_ <;> try intro h) | fail)
    all_goals first
      | exact e_ret ⟨rfl, _, rfl, rfl⟩
      | (exfalso; simp at *; omega)
  · rw [if_neg h1]
    by_cases h2 : x < 0 ∧ -(ps.length : Int) ≤ x
    · rw [if_pos h2]
      obtain ⟨t, ht⟩ := get_some (l := ps) (k := (-1 - x).toNat) (by omega)
      rw [ht]
      refine Fn.step mixed k_domain_typeOf ?_
      repeat' (first | refine i_len rfl ?_ | refine i_s rfl ?_ | refine sw ?_ | refine i_gt rfl ?_ | refine i_gf rfl ?_ | refine c_f rfl ?_ | refine jb rfl rfl ?_ | refine jd rfl rfl ?_ | refine i_box rfl rfl ?_ | (refine sp ?_ ?_ <;> try intro h) | fail)
      all_goals first
        | exact e_ret ⟨rfl, _, rfl, rfl⟩
        | (exfalso; simp at *; omega)
    · rw [if_neg h2]
      refine Fn.step mixed k_domain_typeOf ?_
      repeat' (first | refine i_len rfl ?_ | refine i_s rfl ?_ | refine sw ?_ | refine i_gt rfl ?_ | refine i_gf rfl ?_ | refine c_f rfl ?_ | refine jb rfl rfl ?_ | refine i_box rfl rfl ?_ | (refine sp ?_ ?_ <;> try intro h) | fail)
      all_goals first
        | exact e_ret ⟨rfl, _, rfl, rfl⟩
        | (exfalso; simp at *; omega)
def c_domain_Atom : Cmd :=
 (qS [qx 3 8960198 6 0, qx 5 8960322 2 2, qc 6 0]
 (qT (qS [qf 12 0 5, ql 13 1 12, qv 14 .lss [] 13 0, qm 15 14, qg 16 15 false (.faddr 0 (.t 5)), qg 17 15 false (.load false 1 (.t 16)), qg 18 15 false (.faddr 2 (.t 3)), qg 19 15 false (.load false 1 (.t 18)), qg 20 15 false (.len false (.t 19)), qg 21 15 false (.bin .geq false [] (.t 17) (.t 20)), qq 22 (.pick (.t 15) (.c (.bool true)) (.t 21))]
 (.cond (.t 22) (.seq (.ops [qc 6 6]) .ret) .skip))
 (qS [qf 23 2 3, ql 24 1 23, qf 25 0 5, ql 26 1 25, qi 27 2 24 26, qf 28 1 27, ql 29 1 28, qm 7 29]
 (qT (qS [qf 30 1 5, ql 31 1 30, qn 32 31, qm 33 7, qn 34 33, qu 35 .neq [.i] 32 34]
 (.cond (.t 35) (.seq (.ops [qc 6 9]) .ret) .skip))
 (qT (qS [qf 36 1 5, ql 37 1 36, qn 38 37, qc 39 0]
 (.block 0 (.loop (qS [qu 40 .lss [] 39 38]
 (qT (.cond (.t 40) .skip (.exit 0))
 (qT (.block 1 (qS [qm 41 39, qi 42 1 37 39, ql 43 1 42, qm 8 41, qm 9 43]
 (qS [qL 45 6 3, qm 46 1, qm 47 9, qk 48 155 [45, 46, 47], qm 44 48, qq 49 (.extract (.t 44) 0), qq 50 (.extract (.t 44) 1), qm 10 49, qm 11 50]
 (qT (qS [qm 51 11, qq 52 (.not (.t 51))]
 (.cond (.t 52) (.seq (.ops [qc 6 3]) .ret) .skip))
 (qS [qf 53 0 3, ql 54 1 53, qm 55 10, qm 56 7, qm 57 8, qi 58 1 56 57, ql 59 1 58, qk 60 119 [54, 55, 59], qq 61 (.not (.t 60))]
 (.cond (.t 61) (.seq (.ops [qc 6 8]) .ret) .skip))))))
 (.ops [qv 62 .add [] 39 1, qm 39 62])))))))
 (.seq (.ops [qc 6 0]) .ret))))))
def r_domain_Atom : List RVar := [.tmp 6]
def n_domain_Atom : Nat := 63
theorem k_domain_Atom : chkFn Go.Proofs.Tryz.prog 140 n_domain_Atom r_domain_Atom c_domain_Atom = true := by kernel_rfl
theorem f_domain_Atom (d : Dom) (hd : DoTy d) (ps : List Int) (hps : PsOk d ps) (a : At) (ha : AtOk a) : Fc Go.Proofs.Tryz.prog 140 [domV d, .sl .p (ps.map i64V), atV a] (.int .i64 (atomCode d ps a)) := by
  have hal := ha.len
  have hpl := hps.1
  have hol := hd.ol
  by_cases h1 : a.pred < 0 ∨ (d.preds.length : Int) ≤ a.pred
  · rw [atomCode_none h1]
    refine Fn.step mixed k_domain_Atom ?_
    repeat' (first | refine i_len rfl ?_ | refine i_s rfl ?_ | refine sw ?_ | refine i_gt rfl ?_ | refine i_gf rfl ?_ | refine c_t rfl ?_ | refine i_box rfl rfl ?_ | (refine sp ?_ ?_ <;> try intro h) | fail)
    all_goals first
      | exact e_ret ⟨rfl, _, rfl, rfl⟩
      | (exfalso; simp at *; omega)
  · obtain ⟨p, hp⟩ := get_some (l := d.preds) (k := a.pred.toNat) (by omega)
    by_cases h2 : a.args.length = p.types.length
    · rw [atomCode_scan h1 hp h2]
      refine Fn.step mixed k_domain_Atom ?_
      repeat' (first | refine i_len rfl ?_ | refine i_s rfl ?_ | refine sw ?_ | refine i_gt rfl ?_ | refine i_gf rfl ?_ | refine c_t rfl ?_ | refine jd rfl rfl ?_ | refine i_box rfl rfl ?_ | (refine sp ?_ ?_ <;> try intro h) | fail)
      all_goals first
        | (exfalso; simp at *; omega)
        | skip
      refine c_for a.args.length (fun k => [(1, .sl .p (ps.map i64V)), (3, .bptr 8960198 0), (7, .sl .p (p.types.map i64V)), (37, .sl .p (a.args.map i64V)), (38, .int .i64 a.args.length), (39, .int .i64 k)]) (fun _ => [(8960198, .box (domV d))]) (fun k => ∀ j, j < k → argBad d ps p.types a j = none) all_zero ft fun k hk hi => ?_
      by_cases hlt : k < a.args.length
      · obtain ⟨x, hx⟩ := get_some hlt
        obtain ⟨t, ht⟩ := get_some (l := p.types) (k := k) (by omega)
        have hT := f_domain_typeOf d (by omega) ps (by omega) x (ha.r x (mem_get hx))
        have hbad : argBad d ps p.types a k = tyoBad d t (typeOfA d ps x) := by simp only [argBad, hx, ht]
        cases hu : typeOfA d ps x with
        | none =>
          rw [hu] at hbad hT
          simp only [tyoBad] at hbad
          rw [scan0_hit hi hlt hbad]
          clear hi hbad ha
          repeat' (first | refine i_s rfl ?_ | refine sw ?_ | refine c_t rfl ?_ | refine jd rfl rfl ?_ | refine c_cond rfl (fun h => ?_) (fun h => ?_) | refine sf rfl rfl hT ?_ | fail)
          all_goals first
            | exact e_ret ⟨rfl, _, rfl, rfl⟩
            | (exfalso; clear hT; simp at *; omega)
        | some u =>
          rw [hu] at hbad hT
          simp only [tyoBad] at hbad
          obtain ⟨hu1, hu2⟩ := typeOfA_ok hd hps hu
          have hS := f_types_Is d.types hd.ty u t hu1 hu2
          cases hs : subB d.types u t with
          | true =>
            rw [hs] at hbad hS
            rw [if_pos rfl] at hbad
            clear ha
            repeat' (first | refine i_s rfl ?_ | refine sw ?_ | refine c_f rfl ?_ | refine ja rfl rfl ?_ | refine jd rfl rfl ?_ | refine c_cond rfl (fun h => ?_) (fun h => ?_) | refine sf rfl rfl hT ?_ | refine sf rfl rfl hS ?_ | fail)
            all_goals first
              | (exact e_for hlt (all_succ hi hbad) ft)
              | (exfalso; clear hT hS; simp at *; omega)
          | false =>
            rw [hs] at hbad hS
            rw [if_neg (by simp)] at hbad
            rw [scan0_hit hi hlt hbad]
            clear hi hbad ha
            repeat' (first | refine i_s rfl ?_ | refine sw ?_ | refine c_t rfl ?_ | refine c_f rfl ?_ | refine jd rfl rfl ?_ | refine c_cond rfl (fun h => ?_) (fun h => ?_) | refine sf rfl rfl hT ?_ | refine sf rfl rfl hS ?_ | fail)
            all_goals first
              | exact e_ret ⟨rfl, _, rfl, rfl⟩
              | (exfalso; clear hT hS; simp at *; omega)
      · rw [scan0_none fun j hj => hi j (by omega)]
        clear hi ha
        repeat' (first | refine i_s rfl ?_ | refine sw ?_ | refine c_cond rfl (fun h => ?_) (fun h => ?_))
        all_goals first
          | exact e_ret ⟨rfl, _, rfl, rfl⟩
          | (exfalso; simp at *; omega)
    · rw [atomCode_len h1 hp h2]
      refine Fn.step mixed k_domain_Atom ?_
      repeat' (first | refine i_len rfl ?_ | refine i_s rfl ?_ | refine sw ?_ | refine i_gt rfl ?_ | refine i_gf rfl ?_ | refine c_t rfl ?_ | refine jd rfl rfl ?_ | refine i_box rfl rfl ?_ | (refine sp ?_ ?_ <;> try intro h) | fail)
      all_goals first
        | exact e_ret ⟨rfl, _, rfl, rfl⟩
        | (exfalso; simp at *; omega)
def c_domain_atoms : Cmd :=
 (qS [qx 4 7360262 6 0, qc 8 0]
 (qT (qS [qm 12 2, qn 13 12, qm 14 3, qu 15 .gtr [] 13 14]
 (.cond (.t 15) (.seq (.ops [qc 8 2]) .ret) .skip))
 (qT (qS [qm 16 2, qn 17 16, qc 18 0]
 (.block 0 (.loop (qS [qu 19 .lss [] 18 17]
 (qT (.cond (.t 19) .skip (.exit 0))
 (qT (.block 1 (qS [qi 20 2 16 18, qL 21 2 20, qq 10 (.alloc 7360642 (.agg [.int .i64 0, .sl .nil []])), qs 2 10 21]
 (qS [qL 22 6 4, qm 23 1, qL 24 2 10, qk 25 140 [22, 23, 24], qm 11 25]
 (qS [qm 26 11, qv 27 .neq [.i] 26 0]
 (.cond (.t 27) (.seq (.ops [qm 28 11, qm 8 28]) .ret) .skip)))))
 (.ops [qv 29 .add [] 18 1, qm 18 29])))))))
 (.seq (.ops [qc 8 0]) .ret))))
def r_domain_atoms : List RVar := [.tmp 8]
def n_domain_atoms : Nat := 30
theorem k_domain_atoms : chkFn Go.Proofs.Tryz.prog 115 n_domain_atoms r_domain_atoms c_domain_atoms = true := by kernel_rfl
theorem f_domain_atoms (d : Dom) (hd : DoTy d) (ps : List Int) (hps : PsOk d ps) (l : List At) (hl : l.length ≤ 140737488355328) (ho : ∀ a ∈ l, AtOk a) (most : Nat) (hm : most ≤ 1000) :
    Fc Go.Proofs.Tryz.prog 115 [domV d, .sl .p (ps.map i64V), .sl .p (l.map atV), .int .i64 most] (.int .i64 (atomsCode d ps l most)) := by
  unfold atomsCode
  by_cases h3 : l.length > most
  · rw [if_pos h3]
    refine Fn.step mixed k_domain_atoms ?_
    repeat' (first | refine i_len rfl ?_ | refine i_s rfl ?_ | refine sw ?_ | refine i_box rfl rfl ?_ | refine c_cond rfl (fun h => ?_) (fun h => ?_))
    all_goals first
      | exact e_ret ⟨rfl, _, rfl, rfl⟩
      | (exfalso; simp at *; omega)
  · rw [if_neg h3]
    refine Fn.step mixed k_domain_atoms ?_
    repeat' (first | refine i_len rfl ?_ | refine i_s rfl ?_ | refine sw ?_ | refine i_box rfl rfl ?_ | refine c_cond rfl (fun h => ?_) (fun h => ?_))
    all_goals first
      | (exfalso; simp at *; omega)
      | skip
    refine c_for l.length (fun k => [(1, .sl .p (ps.map i64V)), (4, .bptr 7360262 0), (16, .sl .p (l.map atV)), (17, .int .i64 l.length), (18, .int .i64 k)]) (fun _ => [(7360262, .box (domV d))]) (fun k => ∀ j, j < k → ∀ x, l[j]? = some x → atomCode d ps x = 0) all_zero ft fun k hk hi => ?_
    by_cases hlt : k < l.length
    · obtain ⟨x, hx⟩ := get_some hlt
      have hA := f_domain_Atom d hd ps hps x (ho x (mem_get hx))
      by_cases hz : atomCode d ps x = 0
      · rw [hz] at hA
        repeat' (first | refine i_s rfl ?_ | refine sw ?_ | refine c_f rfl ?_ | refine ja rfl rfl ?_ | refine jd rfl rfl ?_ | refine i_stb rfl ?_ | refine i_alloc rfl ?_ | refine c_cond rfl (fun h => ?_) (fun h => ?_) | refine sf rfl rfl hA ?_ | fail)
        all_goals first
          | (exact e_for hlt (all_succ hi fun y hy => by rw [hx] at hy; cases hy; exact hz) ft)
          | (exfalso; clear hA; simp at *; omega)
      · rw [fnz_hit hi hx hz]
        clear hi
        generalize atomCode d ps x = e at *
        repeat' (first | refine i_s rfl ?_ | refine sw ?_ | refine ja rfl rfl ?_ | refine jd rfl rfl ?_ | refine i_stb rfl ?_ | refine i_alloc rfl ?_ | refine c_cond rfl (fun h => ?_) (fun h => ?_) | refine sf rfl rfl hA ?_ | fail)
        all_goals first
          | exact e_ret ⟨rfl, _, rfl, rfl⟩
          | (exfalso; clear hA; simp at *; omega)
    · rw [fnz_ok fun j hj => hi j (by omega)]
      clear hi
      repeat' (first | refine i_s rfl ?_ | refine sw ?_ | refine c_cond rfl (fun h => ?_) (fun h => ?_))
      all_goals first
        | exact e_ret ⟨rfl, _, rfl, rfl⟩
        | (exfalso; simp at *; omega)
def c_domain_literals : Cmd :=
 (qS [qx 3 4736198 6 0, qc 6 0]
 (qS [qq 7 (.newVec 4736450)]
 (qT (qS [qm 10 2, qn 11 10, qc 12 0]
 (.block 0 (.loop (qS [qu 13 .lss [] 12 11]
 (qT (.cond (.t 13) .skip (.exit 0))
 (qT (.block 1 (qS [qi 14 3 10 12, qL 15 3 14, qq 9 (.alloc 4736579 (.agg [.bool false, .int .i64 0, .sl .nil []])), qs 3 9 15]
 (.ops [qm 16 7, qf 17 1 9, qL 18 2 17, qq 19 (.bsl 2 [.t 18]), qq 20 (.append 2 32 52 (.t 16) (.t 19)), qm 7 20])))
 (.ops [qv 21 .add [] 12 1, qm 12 21])))))))
 (.seq (.ops [qL 22 6 3, qm 23 1, qm 24 7, qq 25 (.call .f (.c (.fn 115 [])) [.t 22, .t 23, .t 24, .c (.int .i64 8)]), qm 6 25]) .ret))))
def r_domain_literals : List RVar := [.tmp 6]
def n_domain_literals : Nat := 26
theorem k_domain_literals : chkFn Go.Proofs.Tryz.prog 74 n_domain_literals r_domain_literals c_domain_literals = true := by kernel_rfl
theorem f_domain_literals (d : Dom) (hd : DoTy d) (ps : List Int) (hps : PsOk d ps) (l : List Lit) (hl : l.length ≤ 3518437208883) (ho : ∀ x ∈ l, AtOk x.at_) :
    Fc Go.Proofs.Tryz.prog 74 [domV d, .sl .p (ps.map i64V), .sl .p (l.map litV)] (.int .i64 (atomsCode d ps (l.map Lit.at_) 8)) := by
  have hA := f_domain_atoms d hd ps hps (l.map Lit.at_) (by simp; omega) (by intro a ha; obtain ⟨x, hx, rfl⟩ := List.mem_map.1 ha; exact ho x hx) 8 (by omega)
  refine Fn.step mixed k_domain_literals ?_
  repeat (first | refine i_len rfl ?_ | refine i_s rfl ?_ | refine sw ?_ | refine i_box rfl rfl ?_ | refine i_nv rfl ?_)
  refine c_for l.length (fun k => [(1, .sl .p (ps.map i64V)), (3, .bptr 4736198 0), (7, .sl (.own 4736450) (((l.take k).map Lit.at_).map atV)), (10, .sl .p (l.map litV)), (11, .int .i64 l.length), (12, .int .i64 k)]) (fun k => [(4736198, .box (domV d)), (4736450, .vec (l.take k).length)]) (fun _ => True) trivial ⟨⟨rfl, rfl, by simp; rfl, rfl, rfl, rfl, trivial⟩, ⟨rfl, by simp; rfl, trivial⟩, rfl⟩ fun k hk _ => ?_
  have htl : (l.take k).length = k := by rw [List.length_take]; omega
  repeat (first | refine i_s rfl ?_ | refine sw ?_)
  refine c_cond rfl (fun h => ?_) (fun h => ?_)
  · have hlt : k < l.length := by simpa using h
    obtain ⟨x, hx⟩ := get_some hlt
    clear h hA
    repeat (first | refine i_s rfl ?_ | refine sw ?_ | refine jd rfl rfl ?_ | refine i_stb rfl ?_ | refine i_alloc rfl ?_)
    refine i_appM (l := (l.take k).map Lit.at_) (f := atV) (c := x.at_) (k := (l.take k).length) rfl rfl rfl (by simp) rfl (by omega) (by omega) ?_
    repeat (first | refine i_s rfl ?_ | refine sw ?_ | refine ja rfl rfl ?_)
    refine e_for hlt trivial ⟨⟨rfl, rfl, ?_, rfl, rfl, rfl, trivial⟩, ⟨rfl, ?_, trivial⟩, rfl⟩
    · rw [take_succ_get hx]; simp; rfl
    · rw [take_succ_get hx]; simp; rfl
  · have hge : k = l.length := by have : ¬ k < l.length := by simpa using h
                                  omega
    subst hge
    rw [List.take_length]
    clear h
    repeat' (first | refine i_s rfl ?_ | refine sw ?_ | refine sf rfl rfl hA ?_ | fail)
    exact e_ret ⟨rfl, _, rfl, rfl⟩
def c_domain_predicate_1 : Cmd :=
 (qS [qx 2 7040130 2 0, qb 3 false]
 (.seq (.ops [qf 4 0 2, ql 5 1 4, qf 6 0 1, ql 7 1 6, qu 8 .eql [.s] 5 7, qm 3 8]) .ret))
def r_domain_predicate_1 : List RVar := [.tmp 3]
def n_domain_predicate_1 : Nat := 9
theorem k_domain_predicate_1 : chkFn Go.Proofs.Tryz.prog 110 n_domain_predicate_1 r_domain_predicate_1 c_domain_predicate_1 = true := by kernel_rfl
theorem f_domain_predicate_1 (u t : Prd) : Fc Go.Proofs.Tryz.prog 110 [prdV u, .cptr .p (prdV t) 0] (.bool (u.name == t.name)) := by
  refine Fn.step mixed k_domain_predicate_1 ?_
  repeat' (first | refine i_s rfl ?_ | refine sw ?_ | refine i_box rfl rfl ?_)
  exact e_ret ⟨rfl, _, rfl, rfl⟩
def c_domain_predicate : Cmd :=
 (qS [qx 2 4544134 6 0, qc 4 0]
 (qS [qf 6 2 2, ql 7 1 6, qm 8 1, qi 9 2 7 8, qL 10 2 9, qq 5 (.alloc 4544322 (.agg [.str [], .sl .nil []])), qs 2 5 10]
 (qT (.block 0 (qS [qf 12 0 5, ql 13 1 12, qk 14 104 [13], qq 15 (.not (.t 14)), qm 16 15, qg 17 16 false (.faddr 0 (.t 5)), qg 18 16 false (.load false 1 (.t 17)), qg 19 16 false (.bin .eql false [.s] (.t 18) (.c (.str [110, 111, 116]))), qq 20 (.pick (.t 16) (.c (.bool true)) (.t 19)), qm 11 20]
 (.cond (.t 11) (.seq (.ops [qc 4 12]) .ret) (qS [qf 22 2 2, ql 23 1 22, qm 24 1, qq 25 (.slice false 2 (.t 23) none (some (.t 24))), qq 26 (.mkfn 110 [.t 5]), qk 27 109 [25, 26], qm 21 27]
 (.cond (.t 21) (.seq (.ops [qc 4 7]) .ret) .skip)))))
 (.seq (.ops [qL 28 6 2, qf 29 1 5, ql 30 1 29, qk 31 111 [28, 30], qm 4 31]) .ret))))
def r_domain_predicate : List RVar := [.tmp 4]
def n_domain_predicate : Nat := 32
theorem k_domain_predicate : chkFn Go.Proofs.Tryz.prog 71 n_domain_predicate r_domain_predicate c_domain_predicate = true := by kernel_rfl
theorem f_domain_predicate (d : Dom) (ho : DoOk d) (i : Nat) (p : Prd) (hp : d.preds[i]? = some p) : Fc Go.Proofs.Tryz.prog 71 [domV d, .int .i64 i] (.int .i64 (prdCode d i)) := by
  have hlt := get_lt hp
  have hpl := ho.preds.1
  have hpo := ho.preds.2 p (mem_get hp)
  have hN := f_types_IsName p.name hpo.1
  have hC := f_ContainsFunc_Predicate (d.preds.take i) (fun q => q.name == p.name) 110 [.cptr .p (prdV p) 0] (by simp; omega) (fun _ _ => rfl) rfl (fun u _ => f_domain_predicate_1 u p)
  have hP := f_domain_Params d ho.types.1 p.types (by omega)
  have hcode : prdCode d i = if nameB p.name = false ∨ p.name = notS then 12 else if (d.preds.take i).any (fun q => q.name == p.name) = true then 7 else paramsCode d.types.length p.types := by simp only [prdCode, hp]
  rw [hcode]
  clear hcode
  generalize nameB p.name = b1 at *
  generalize (d.preds.take i).any (fun q => q.name == p.name) = b2 at *
  generalize paramsCode d.types.length p.types = e at *
  clear ho
  cases b1 with
  | false =>
    rw [if_pos (.inl rfl)]
    refine Fn.step mixed k_domain_predicate ?_
    repeat' (first | refine i_s rfl ?_ | refine sw ?_ | refine i_gf rfl ?_ | refine c_t rfl ?_ | refine jd rfl rfl ?_ | refine i_stb rfl ?_ | refine i_alloc rfl ?_ | refine i_box rfl rfl ?_ | refine sf rfl rfl hN ?_ | fail)
    all_goals first
      | exact e_ret ⟨rfl, _, rfl, rfl⟩
      | (exfalso; clear hN hC hP; simp at *; done)
  | true =>
    by_cases c2 : p.name = notS
    · rw [if_pos (.inr c2)]
      have c3 : (p.name == [110, 111, 116]) = true := by rw [c2]; rfl
      refine Fn.step mixed k_domain_predicate ?_
      repeat' (first | refine i_s rfl ?_ | refine sw ?_ | refine i_gt rfl ?_ | refine jd rfl rfl ?_ | refine jh rfl rfl ?_ | refine i_stb rfl ?_ | refine i_alloc rfl ?_ | refine i_box rfl rfl ?_ | refine c_cond rfl (fun h => ?_) (fun h => ?_) | refine sf rfl rfl hN ?_ | fail)
      all_goals first
        | exact e_ret ⟨rfl, _, rfl, rfl⟩
        | (exfalso; clear hN hC hP; simp_all; done)
    · rw [if_neg (by simp [c2])]
      have c3 : (p.name == [110, 111, 116]) = false := by rw [beq_eq_false_iff_ne]; exact c2
      cases b2 with
      | true =>
        rw [if_pos rfl]
        refine Fn.step mixed k_domain_predicate ?_
        repeat' (first | refine i_s rfl ?_ | refine sw ?_ | refine i_gt rfl ?_ | refine c_t rfl ?_ | refine jd rfl rfl ?_ | refine jh rfl rfl ?_ | refine i_stb rfl ?_ | refine i_alloc rfl ?_ | refine i_box rfl rfl ?_ | refine c_cond rfl (fun h => ?_) (fun h => ?_) | refine sf rfl rfl hN ?_ | refine sf rfl rfl hC ?_ | fail)
        all_goals first
          | exact e_ret ⟨rfl, _, rfl, rfl⟩
          | (exfalso; clear hN hC hP; simp_all; done)
      | false =>
        rw [if_neg (by simp)]
        refine Fn.step mixed k_domain_predicate ?_
        repeat' (first | refine i_s rfl ?_ | refine sw ?_ | refine i_gt rfl ?_ | refine c_f rfl ?_ | refine jd rfl rfl ?_ | refine jh rfl rfl ?_ | refine i_stb rfl ?_ | refine i_alloc rfl ?_ | refine i_box rfl rfl ?_ | refine c_cond rfl (fun h => ?_) (fun h => ?_) | refine sf rfl rfl hN ?_ | refine sf rfl rfl hC ?_ | refine sf rfl rfl hP ?_ | fail)
        all_goals first
          | exact e_ret ⟨rfl, _, rfl, rfl⟩
          | (exfalso; clear hN hC hP; simp_all; done)
def c_domain_schema_1 : Cmd :=
 (qS [qx 2 7232135 7 0, qb 3 false]
 (.seq (.ops [qf 4 0 2, ql 5 1 4, qf 6 0 1, ql 7 1 6, qu 8 .eql [.s] 5 7, qm 3 8]) .ret))
def r_domain_schema_1 : List RVar := [.tmp 3]
def n_domain_schema_1 : Nat := 9
theorem k_domain_schema_1 : chkFn Go.Proofs.Tryz.prog 113 n_domain_schema_1 r_domain_schema_1 c_domain_schema_1 = true := by kernel_rfl
theorem f_domain_schema_1 (u t : Sch) : Fc Go.Proofs.Tryz.prog 113 [schV u, .cptr .p (schV t) 0] (.bool (u.name == t.name)) := by
  refine Fn.step mixed k_domain_schema_1 ?_
  repeat' (first | refine i_s rfl ?_ | refine sw ?_ | refine i_box rfl rfl ?_)
  exact e_ret ⟨rfl, _, rfl, rfl⟩
def c_domain_schema_2 : Cmd :=
 (qS [qx 2 7296130 2 0, qb 3 false]
 (.seq (.ops [qf 4 0 2, ql 5 1 4, qv 6 .lss [] 5 0, qm 7 6, qg 8 7 false (.faddr 0 (.t 2)), qg 9 7 false (.load false 1 (.t 8)), qg 10 7 false (.faddr 1 (.t 2)), qg 11 7 false (.load false 1 (.t 10)), qg 12 7 false (.bin .geq false [] (.t 9) (.t 11)), qq 13 (.pick (.t 7) (.c (.bool true)) (.t 12)), qm 14 13, qg 15 14 false (.faddr 1 (.t 2)), qg 16 14 false (.load false 1 (.t 15)), qg 17 14 false (.load false 1 (.t 1)), qg 18 14 false (.bin .geq false [] (.t 16) (.t 17)), qq 19 (.pick (.t 14) (.c (.bool true)) (.t 18)), qm 3 19]) .ret))
def r_domain_schema_2 : List RVar := [.tmp 3]
def n_domain_schema_2 : Nat := 20
theorem k_domain_schema_2 : chkFn Go.Proofs.Tryz.prog 114 n_domain_schema_2 r_domain_schema_2 c_domain_schema_2 = true := by kernel_rfl
theorem f_domain_schema_2 (p : Int × Int) (n : Nat) : Fc Go.Proofs.Tryz.prog 114 [pairV p, .cptr .p (.int .i64 n) 0] (.bool (pairBad n p)) := by
  refine Fn.step mixed k_domain_schema_2 ?_
  repeat' (first | refine i_s rfl ?_ | refine sw ?_ | refine i_gt rfl ?_ | refine i_gf rfl ?_ | refine i_box rfl rfl ?_ | refine i_g rfl (fun h => ?_) (fun h => ?_))
  all_goals (refine e_ret ⟨rfl, _, rfl, congrArg V.bool ?_⟩; unfold pairBad; rw [Bool.eq_iff_iff]; simp at *; (try omega))
theorem schSelf_ps {d : Dom} {s : Sch} (h : paramsCode d.types.length s.types = 0) : PsOk d s.types := by
  obtain ⟨h1, h2⟩ := paramsCode_ok h
  exact ⟨by omega, h2⟩
def c_domain_schema : Cmd :=
 (qS [qx 2 4608134 6 0, qc 4 0]
 (qS [qf 13 3 2, ql 14 1 13, qm 15 1, qi 16 7 14 15, qL 17 7 16, qq 5 (.alloc 4608327 (.agg [.str [], .sl .nil [], .sl .nil [], .sl .nil [], .sl .nil [], .sl .nil [], .int .i64 0])), qs 7 5 17]
 (qT (.block 0 (qS [qf 19 0 5, ql 20 1 19, qk 21 104 [20], qq 22 (.not (.t 21)), qm 18 22]
 (.cond (.t 18) (.seq (.ops [qc 4 12]) .ret) (qS [qf 24 3 2, ql 25 1 24, qm 26 1, qq 27 (.slice false 7 (.t 25) none (some (.t 26))), qq 28 (.mkfn 113 [.t 5]), qk 29 112 [27, 28], qm 23 29]
 (.cond (.t 23) (.seq (.ops [qc 4 7]) .ret) .skip)))))
 (qT (qS [qL 30 6 2, qf 31 1 5, ql 32 1 31, qk 33 111 [30, 32], qm 6 33]
 (qS [qm 34 6, qv 35 .neq [.i] 34 0]
 (.cond (.t 35) (.seq (.ops [qm 36 6, qm 4 36]) .ret) .skip)))
 (qS [qf 37 1 5, ql 38 1 37, qn 39 38, qq 7 (.alloc 4608449 (.int .i64 0)), qs 1 7 39]
 (qS [qq 40 (.mkfn 114 [.t 7]), qm 8 40]
 (qT (qS [qf 41 2 5, ql 42 1 41, qn 43 42, qv 44 .gtr [] 43 8]
 (.cond (.t 44) (.seq (.ops [qc 4 2]) .ret) .skip))
 (qT (qS [qf 45 2 5, ql 46 1 45, qm 47 8, qk 48 86 [46, 47]]
 (.cond (.t 48) (.seq (.ops [qc 4 3]) .ret) .skip))
 (qT (qS [qL 49 6 2, qf 50 1 5, ql 51 1 50, qf 52 3 5, ql 53 1 52, qk 54 74 [49, 51, 53], qm 9 54]
 (qS [qm 55 9, qv 56 .neq [.i] 55 0]
 (.cond (.t 56) (.seq (.ops [qm 57 9, qm 4 57]) .ret) .skip)))
 (qT (qS [qf 58 4 5, ql 59 1 58, qf 60 5 5, ql 61 1 60, qq 62 (.bsl 1 [.t 59, .t 61]), qn 63 62, qc 64 0]
 (.block 1 (.loop (qS [qu 65 .lss [] 64 63]
 (qT (.cond (.t 65) .skip (.exit 1))
 (qT (.block 2 (qS [qi 66 1 62 64, ql 67 1 66, qm 11 67]
 (qS [qL 68 6 2, qf 69 1 5, ql 70 1 69, qm 71 11, qq 72 (.call .f (.c (.fn 115 [])) [.t 68, .t 70, .t 71, .c (.int .i64 8)]), qm 12 72]
 (qS [qm 73 12, qv 74 .neq [.i] 73 0]
 (.cond (.t 74) (.seq (.ops [qm 75 12, qm 4 75]) .ret) .skip)))))
 (.ops [qv 76 .add [] 64 1, qm 64 76])))))))
 (qT (qS [qf 77 6 5, ql 78 1 77, qv 79 .lss [] 78 0, qm 80 79, qg 81 80 false (.faddr 6 (.t 5)), qg 82 80 false (.load false 1 (.t 81)), qg 83 80 false (.bin .gtr false [] (.t 82) (.c (.int .i64 100))), qq 84 (.pick (.t 80) (.c (.bool true)) (.t 83))]
 (.cond (.t 84) (.seq (.ops [qc 4 3]) .ret) .skip))
 (.seq (.ops [qc 4 0]) .ret))))))))))))
def r_domain_schema : List RVar := [.tmp 4]
def n_domain_schema : Nat := 85
theorem k_domain_schema : chkFn Go.Proofs.Tryz.prog 72 n_domain_schema r_domain_schema c_domain_schema = true := by kernel_rfl
theorem f_domain_schema (d : Dom) (hd : DoTy d) (ho : DoOk d) (i : Nat) (s : Sch) (hp : d.schemas[i]? = some s) : Fc Go.Proofs.Tryz.prog 72 [domV d, .int .i64 i] (.int .i64 (schCode d i)) := by
  have hlt := get_lt hp
  have hpl := ho.schemas.1
  have hso := ho.schemas.2 s (mem_get hp)
  have hst := hso.types
  have hsd := hso.diff
  have hN := f_types_IsName s.name hso.name
  have hC := f_ContainsFunc_Schema (d.schemas.take i) (fun q => q.name == s.name) 113 [.cptr .p (schV s) 0] (by simp; omega) (fun _ _ => rfl) rfl (fun u _ => f_domain_schema_1 u s)
  have hP := f_domain_Params d ho.types.1 s.types (by omega)
  have hcode : schCode d i = if nameB s.name = false then 12 else if (d.schemas.take i).any (fun q => q.name == s.name) = true then 7 else schSelf d s := by simp only [schCode, hp]
  rw [hcode]
  clear hcode
  generalize (d.schemas.take i).any (fun q => q.name == s.name) = b2 at *
  generalize nameB s.name = b1 at *
  cases b1 with
  | false =>
    rw [if_pos rfl]
    refine Fn.step mixed k_domain_schema ?_
    repeat' (first | refine i_s rfl ?_ | refine sw ?_ | refine c_t rfl ?_ | refine jd rfl rfl ?_ | refine i_stb rfl ?_ | refine i_alloc rfl ?_ | refine i_box rfl rfl ?_ | refine sf rfl rfl hN ?_ | fail)
    all_goals first
      | exact e_ret ⟨rfl, _, rfl, rfl⟩
      | (exfalso; clear hN hC hP; simp at *; done)
  | true =>
    rw [if_neg (by simp)]
    cases b2 with
    | true =>
      rw [if_pos rfl]
      refine Fn.step mixed k_domain_schema ?_
      repeat' (first | refine i_s rfl ?_ | refine sw ?_ | refine c_t rfl ?_ | refine c_f rfl ?_ | refine jd rfl rfl ?_ | refine jh rfl rfl ?_ | refine i_stb rfl ?_ | refine i_alloc rfl ?_ | refine i_box rfl rfl ?_ | refine sf rfl rfl hN ?_ | refine sf rfl rfl hC ?_ | fail)
      all_goals first
        | exact e_ret ⟨rfl, _, rfl, rfl⟩
        | (exfalso; clear hN hC hP; simp at *; done)
    | false =>
      rw [if_neg (by simp)]
      by_cases h1 : paramsCode d.types.length s.types = 0
      · have hps := schSelf_ps h1
        rw [h1] at hP
        by_cases h2 : s.diff.length > 8
        · have e : schSelf d s = 2 := by unfold schSelf; rw [if_neg (by simp [h1]), if_pos h2]
          rw [e]
          refine Fn.step mixed k_domain_schema ?_
          repeat' (first | refine i_len rfl ?_ | refine i_s rfl ?_ | refine sw ?_ | refine c_f rfl ?_ | refine jd rfl rfl ?_ | refine jh rfl rfl ?_ | refine i_stb rfl ?_ | refine i_alloc rfl ?_ | refine i_box rfl rfl ?_ | refine c_cond rfl (fun h => ?_) (fun h => ?_) | refine sf rfl rfl hN ?_ | refine sf rfl rfl hC ?_ | refine sf rfl rfl hP ?_ | fail)
          all_goals first
            | exact e_ret ⟨rfl, _, rfl, rfl⟩
            | (exfalso; clear hN hC hP; simp at *; omega)
        · have hD := f_ContainsFunc_2_int s.diff (pairBad s.types.length) 114 [.cptr .p (.int .i64 s.types.length) 0] (by omega) (fun _ _ => rfl) rfl (fun q _ => f_domain_schema_2 q s.types.length)
          cases h3 : s.diff.any (pairBad s.types.length) with
          | true =>
            have e : schSelf d s = 3 := by unfold schSelf; rw [if_neg (by simp [h1]), if_neg h2, if_pos h3]
            rw [e]
            rw [h3] at hD
            refine Fn.step mixed k_domain_schema ?_
            repeat' (first | refine i_len rfl ?_ | refine i_s rfl ?_ | refine sw ?_ | refine c_t rfl ?_ | refine c_f rfl ?_ | refine jd rfl rfl ?_ | refine jh rfl rfl ?_ | refine i_stb rfl ?_ | refine i_alloc rfl ?_ | refine i_box rfl rfl ?_ | refine c_cond rfl (fun h => ?_) (fun h => ?_) | refine sf rfl rfl hN ?_ | refine sf rfl rfl hC ?_ | refine sf rfl rfl hP ?_ | refine sf rfl rfl hD ?_ | fail)
            all_goals first
              | exact e_ret ⟨rfl, _, rfl, rfl⟩
              | (exfalso; clear hN hC hP hD; simp at *; omega)
          | false =>
            rw [h3] at hD
            have hL := f_domain_literals d hd s.types hps s.pre hso.pre hso.preA
            have hA1 := f_domain_atoms d hd s.types hps s.add (by have := hso.add; omega) hso.addA 8 (by omega)
            have hA2 := f_domain_atoms d hd s.types hps s.del (by have := hso.del; omega) hso.delA 8 (by omega)
            have e : schSelf d s = if atomsCode d s.types (s.pre.map Lit.at_) 8 ≠ 0 then atomsCode d s.types (s.pre.map Lit.at_) 8 else if atomsCode d s.types s.add 8 ≠ 0 then atomsCode d s.types s.add 8 else if atomsCode d s.types s.del 8 ≠ 0 then atomsCode d s.types s.del 8
              else if s.cost < 0 ∨ s.cost > 100 then 3 else 0 := by unfold schSelf; rw [if_neg (by simp [h1]), if_neg h2, if_neg (by simp [h3])]
            rw [e]
            clear e ho hso hps h1 h3
            generalize atomsCode d s.types (s.pre.map Lit.at_) 8 = c1 at *
            generalize atomsCode d s.types s.add 8 = c2 at *
            generalize atomsCode d s.types s.del 8 = c3 at *
            by_cases z1 : c1 = 0
            · subst z1
              rw [if_neg (by simp)]
              refine Fn.step mixed k_domain_schema ?_
              repeat' (first | refine i_len rfl ?_ | refine i_s rfl ?_ | refine sw ?_ | refine c_f rfl ?_ | refine jd rfl rfl ?_ | refine jh rfl rfl ?_ | refine i_stb rfl ?_ | refine i_alloc rfl ?_ | refine i_box rfl rfl ?_ | refine c_cond rfl (fun h => ?_) (fun h => ?_) | refine sf rfl rfl hN ?_ | refine sf rfl rfl hC ?_ | refine sf rfl rfl hP ?_ | refine sf rfl rfl hD ?_ | refine sf rfl rfl hL ?_ | fail)
              all_goals first
                | (exfalso; clear hN hC hP hD hL hA1 hA2; simp at *; omega)
                | skip
              clear hN hC hP hD hL
              refine c_for 2 (fun k => [(2, .bptr 4608134 0), (5, .bptr 4608327 0), (62, .sl .p ([s.add, s.del].map fun l => V.sl .p (l.map atV))), (63, .int .i64 2), (64, .int .i64 k)]) (fun _ => [(4608134, .box (domV d)), (4608327, .box (schV s))]) (fun k => (0 < k → c2 = 0) ∧ (1 < k → c3 = 0)) (by simp) ft fun k hk hi => ?_
              have ha : ([s.add, s.del] : List (List At))[0]? = some s.add := rfl
              have hb : ([s.add, s.del] : List (List At))[1]? = some s.del := rfl
              have hk3 : k = 0 ∨ k = 1 ∨ k = 2 := by omega
              rcases hk3 with rfl | rfl | rfl
              · clear hi hA2
                by_cases z2 : c2 = 0
                · subst z2
                  repeat' (first | refine i_s rfl ?_ | refine sw ?_ | refine c_t rfl ?_ | refine c_f rfl ?_ | refine ja rfl rfl ?_ | refine jd rfl rfl ?_ | refine sf rfl rfl hA1 ?_ | fail)
                  all_goals first
                    | (exact e_for (by omega) ⟨fun _ => rfl, fun h => by omega⟩ ft)
                    | (exfalso; clear hA1; simp at *; done)
                · rw [if_pos z2]
                  repeat' (first | refine i_s rfl ?_ | refine sw ?_ | refine c_t rfl ?_ | refine ja rfl rfl ?_ | refine jd rfl rfl ?_ | refine c_cond rfl (fun h => ?_) (fun h => ?_) | refine sf rfl rfl hA1 ?_ | fail)
                  all_goals first
                    | exact e_ret ⟨rfl, _, rfl, rfl⟩
                    | (exfalso; clear hA1; simp_all; done)
              · have z2 := hi.1 (by omega)
                rw [if_neg (by simp [z2])]
                clear hA1 hi
                by_cases z3 : c3 = 0
                · subst z3
                  repeat' (first | refine i_s rfl ?_ | refine sw ?_ | refine c_t rfl ?_ | refine c_f rfl ?_ | refine ja rfl rfl ?_ | refine jd rfl rfl ?_ | refine sf rfl rfl hA2 ?_ | fail)
                  all_goals first
                    | (exact e_for (by omega) ⟨fun _ => z2, fun h => rfl⟩ ft)
                    | (exfalso; clear hA2; simp at *; done)
                · rw [if_pos z3]
                  repeat' (first | refine i_s rfl ?_ | refine sw ?_ | refine c_t rfl ?_ | refine ja rfl rfl ?_ | refine jd rfl rfl ?_ | refine c_cond rfl (fun h => ?_) (fun h => ?_) | refine sf rfl rfl hA2 ?_ | fail)
                  all_goals first
                    | exact e_ret ⟨rfl, _, rfl, rfl⟩
                    | (exfalso; clear hA2; simp_all; done)
              · have z2 := hi.1 (by omega)
                have z3 := hi.2 (by omega)
                rw [if_neg (by simp [z2]), if_neg (by simp [z3])]
                clear hA1 hA2 hi
                repeat' (first | refine i_s rfl ?_ | refine sw ?_ | refine i_gt rfl ?_ | refine i_gf rfl ?_ | refine c_t rfl ?_ | refine c_f rfl ?_ | (refine sp ?_ ?_ <;> try intro h) | fail)
                all_goals first
                  | (refine e_ret ⟨rfl, _, rfl, congrArg (V.int .i64) ?_⟩; simp at *; omega)
                  | (exfalso; simp at *; omega)
                  | (refine e_ret ⟨rfl, _, rfl, congrArg (V.int .i64) ?_⟩; simp at *; (repeat' split) <;> omega)
            · rw [if_pos z1]
              refine Fn.step mixed k_domain_schema ?_
              repeat' (first | refine i_len rfl ?_ | refine i_s rfl ?_ | refine sw ?_ | refine c_f rfl ?_ | refine jd rfl rfl ?_ | refine jh rfl rfl ?_ | refine i_stb rfl ?_ | refine i_alloc rfl ?_ | refine i_box rfl rfl ?_ | refine c_cond rfl (fun h => ?_) (fun h => ?_) | refine sf rfl rfl hN ?_ | refine sf rfl rfl hC ?_ | refine sf rfl rfl hP ?_ | refine sf rfl rfl hD ?_ | refine sf rfl rfl hL ?_ | fail)
              all_goals first
                | exact e_ret ⟨rfl, _, rfl, rfl⟩
                | (exfalso; clear hN hC hP hD hL hA1 hA2; simp at *; omega)
                | (exfalso; clear hN hC hP hD hL hA1 hA2; simp_all; done)
      · have e : schSelf d s = paramsCode d.types.length s.types := by unfold schSelf; rw [if_pos h1]
        rw [e]
        clear e ho hso
        generalize paramsCode d.types.length s.types = c at *
        refine Fn.step mixed k_domain_schema ?_
        repeat' (first | refine i_len rfl ?_ | refine i_s rfl ?_ | refine sw ?_ | refine c_f rfl ?_ | refine jd rfl rfl ?_ | refine jh rfl rfl ?_ | refine i_stb rfl ?_ | refine i_alloc rfl ?_ | refine i_box rfl rfl ?_ | refine c_cond rfl (fun h => ?_) (fun h => ?_) | refine sf rfl rfl hN ?_ | refine sf rfl rfl hC ?_ | refine sf rfl rfl hP ?_ | fail)
        all_goals first
          | exact e_ret ⟨rfl, _, rfl, rfl⟩
          | (exfalso; clear hN hC hP; simp_all; done)
def c_domain_start_1 : Cmd :=
 (qS [qx 2 7488130 2 0, qb 3 false]
 (.seq (.ops [qL 4 2 1, qL 5 2 2, qk 6 118 [4, 5], qv 7 .eql [.i] 6 0, qm 3 7]) .ret))
def r_domain_start_1 : List RVar := [.tmp 3]
def n_domain_start_1 : Nat := 8
theorem k_domain_start_1 : chkFn Go.Proofs.Tryz.prog 117 n_domain_start_1 r_domain_start_1 c_domain_start_1 = true := by kernel_rfl
theorem f_domain_start_1 (u t : At) (hu : AtOk u) (ht : AtOk t) : Fc Go.Proofs.Tryz.prog 117 [atV u, .cptr .p (atV t) 0] (.bool (decide (t = u))) := by
  have h := f_domain_Compare t u ht hu
  refine Fn.step mixed k_domain_start_1 ?_
  repeat' (first | refine i_s rfl ?_ | refine sw ?_ | refine i_box rfl rfl ?_ | refine sf rfl rfl h ?_ | fail)
  refine e_ret ⟨rfl, _, rfl, congrArg V.bool ?_⟩
  by_cases e : t = u
  · rw [atomOrd_zero.2 e, decide_eq_true e]; rfl
  · have : atomOrd t u ≠ 0 := fun h => e (atomOrd_zero.1 h)
    rw [decide_eq_false e]
    simpa using this
def c_domain_start : Cmd :=
 (qS [qx 1 4672070 6 0, qc 2 0]
 (qT (qS [qL 6 6 1, qf 7 4 1, ql 8 1 7, qq 9 (.call .f (.c (.fn 115 [])) [.t 6, .c (.sl .nil []), .t 8, .c (.int .i64 40)]), qm 3 9]
 (qS [qm 10 3, qv 11 .neq [.i] 10 0]
 (.cond (.t 11) (.seq (.ops [qm 12 3, qm 2 12]) .ret) .skip)))
 (qT (qS [qf 13 4 1, ql 14 1 13, qn 15 14, qc 16 0]
 (.block 0 (.loop (qS [qu 17 .lss [] 16 15]
 (qT (.cond (.t 17) .skip (.exit 0))
 (qT (.block 1 (qS [qm 18 16, qi 19 2 14 16, qL 20 2 19, qq 5 (.alloc 4672322 (.agg [.int .i64 0, .sl .nil []])), qm 4 18, qs 2 5 20]
 (qS [qf 21 4 1, ql 22 1 21, qm 23 4, qq 24 (.slice false 2 (.t 22) none (some (.t 23))), qq 25 (.mkfn 117 [.t 5]), qk 26 116 [24, 25]]
 (.cond (.t 26) (.seq (.ops [qc 2 7]) .ret) .skip))))
 (.ops [qv 27 .add [] 16 1, qm 16 27])))))))
 (.seq (.ops [qc 2 0]) .ret))))
def r_domain_start : List RVar := [.tmp 2]
def n_domain_start : Nat := 28
theorem k_domain_start : chkFn Go.Proofs.Tryz.prog 73 n_domain_start r_domain_start c_domain_start = true := by kernel_rfl
theorem f_domain_start (d : Dom) (hd : DoTy d) (ho : DoOk d) : Fc Go.Proofs.Tryz.prog 73 [domV d] (.int .i64 (startCode d)) := by
  have hil := ho.init.1
  have hA := f_domain_atoms d hd [] ⟨by simp, by simp⟩ d.init (by omega) ho.init.2 40 (by omega)
  unfold startCode
  by_cases z : atomsCode d [] d.init 40 = 0
  · rw [if_neg (by simp [z])]
    rw [z] at hA
    refine Fn.step mixed k_domain_start ?_
    repeat' (first | refine i_len rfl ?_ | refine i_s rfl ?_ | refine sw ?_ | refine c_f rfl ?_ | refine i_box rfl rfl ?_ | refine sf rfl rfl hA ?_ | fail)
    all_goals first
      | (exfalso; clear hA; simp at *; done)
      | skip
    clear hA
    refine c_for d.init.length (fun k => [(1, .bptr 4672070 0), (14, .sl .p (d.init.map atV)), (15, .int .i64 d.init.length), (16, .int .i64 k)]) (fun _ => [(4672070, .box (domV d))]) (fun k => ∀ j, j < k → dupBad d.init j = none) all_zero ft fun k hk hi => ?_
    by_cases hlt : k < d.init.length
    · obtain ⟨x, hx⟩ := get_some hlt
      have hxo := ho.init.2 x (mem_get hx)
      have hC := f_ContainsFunc_Atom (d.init.take k) (fun u => decide (x = u)) 117 [.cptr .p (atV x) 0] (by simp; omega) (fun _ _ => rfl) rfl (fun u hu => f_domain_start_1 u x (ho.init.2 u (List.mem_of_mem_take hu)) hxo)
      have hbad : dupBad d.init k = if x ∈ d.init.take k then some 7 else none := by simp only [dupBad, hx]
      have hany : (d.init.take k).any (fun u => decide (x = u)) = decide (x ∈ d.init.take k) := by
        rw [Bool.eq_iff_iff]
        simp
      rw [hany] at hC
      by_cases hm : x ∈ d.init.take k
      · rw [if_pos hm] at hbad
        rw [decide_eq_true hm] at hC
        rw [scan0_hit hi hlt hbad]
        clear hi hbad hm hany ho
        repeat' (first | refine i_s rfl ?_ | refine sw ?_ | refine c_t rfl ?_ | refine jd rfl rfl ?_ | refine jh rfl rfl ?_ | refine i_stb rfl ?_ | refine i_alloc rfl ?_ | refine c_cond rfl (fun h => ?_) (fun h => ?_) | refine sf rfl rfl hC ?_ | fail)
        all_goals first
          | exact e_ret ⟨rfl, _, rfl, rfl⟩
          | (exfalso; clear hC; simp at *; omega)
      · rw [if_neg hm] at hbad
        rw [decide_eq_false hm] at hC
        clear hm hany ho
        repeat' (first | refine i_s rfl ?_ | refine sw ?_ | refine c_f rfl ?_ | refine ja rfl rfl ?_ | refine jd rfl rfl ?_ | refine jh rfl rfl ?_ | refine i_stb rfl ?_ | refine i_alloc rfl ?_ | refine c_cond rfl (fun h => ?_) (fun h => ?_) | refine sf rfl rfl hC ?_ | fail)
        all_goals first
          | (exact e_for hlt (all_succ hi hbad) ft)
          | (exfalso; clear hC; simp at *; omega)
    · rw [scan0_none fun j hj => hi j (by omega)]
      clear hi ho
      repeat' (first | refine i_s rfl ?_ | refine sw ?_ | refine c_cond rfl (fun h => ?_) (fun h => ?_))
      all_goals first
        | exact e_ret ⟨rfl, _, rfl, rfl⟩
        | (exfalso; simp at *; omega)
  · rw [if_pos z]
    clear ho
    generalize atomsCode d [] d.init 40 = c at *
    refine Fn.step mixed k_domain_start ?_
    repeat' (first | refine i_len rfl ?_ | refine i_s rfl ?_ | refine sw ?_ | refine i_box rfl rfl ?_ | refine c_cond rfl (fun h => ?_) (fun h => ?_) | refine sf rfl rfl hA ?_ | fail)
    all_goals first
      | exact e_ret ⟨rfl, _, rfl, rfl⟩
      | (exfalso; clear hA; simp_all; done)
end Hm
end
section
namespace Hm
open Go
set_option maxRecDepth 100000
set_option maxHeartbeats 1000000
theorem obBad_code (n : Nat) (l : List Obj) (i : Nat) : ∀ f, obBad n l i = some f → f.code ≠ 0 := by
  intro f h
  unfold obBad at h
  split at h
  · cases h
  · repeat' split at h
    all_goals cases h
    all_goals simp
theorem objectsFault_valid {n : Nat} {l : List Obj} (h : objectsFault n l = okF) : l.length ≤ 8 ∧ ∀ o ∈ l, -1 ≤ o.type ∧ o.type < n := by
  unfold objectsFault at h
  split at h
  · cases h
  · rename_i h8
    have hs := getD_ok (scan_prop (bad := obBad n l) (fun o => ∀ f, o = some f → f.code ≠ 0) (by simp) (fun i => obBad_code n l i) l.length 0) h
    refine ⟨by omega, fun o ho => ?_⟩
    obtain ⟨i, hi, e⟩ := List.getElem_of_mem ho
    have hg : l[i]? = some o := by rw [← e]; exact List.getElem?_eq_getElem hi
    have := scan_all _ _ hs i (Nat.zero_le _) (by omega)
    unfold obBad at this
    rw [hg] at this
    simp only at this
    split at this
    · cases this
    · split at this
      · cases this
      · split at this
        · cases this
        · omega
theorem objectsFault_code (n : Nat) (l : List Obj) : (objectsFault n l).code = 0 ↔ objectsFault n l = okF := by
  refine ⟨fun h => ?_, fun h => by rw [h]; rfl⟩
  unfold objectsFault at h ⊢
  split at h
  · cases h
  · rename_i h8
    rw [if_neg h8]
    have := scan_prop (bad := obBad n l) (fun o => ∀ f, o = some f → f.code ≠ 0) (by simp) (fun i => obBad_code n l i) l.length 0
    cases hs : scan (obBad n l) 0 l.length with
    | none => rfl
    | some f => rw [hs] at h; exact absurd h (this f hs)
end Hm
end
section
namespace Hm
open Go
set_option maxRecDepth 100000
set_option maxHeartbeats 4000000
theorem doTy_of {d : Dom} (h1 : typesFault d.types = okF) (h2 : objectsFault d.types.length d.objects = okF) : DoTy d := by
  obtain ⟨h3, h4⟩ := objectsFault_valid h2
  exact ⟨typesFault_valid h1, h3, h4⟩
def c_domain_Validate : Cmd :=
 (qS [qx 1 1792070 6 0, qq 2 (.alloc 1792130 (.agg [.int .i64 0, .int .i64 0]))]
 (qT (qS [qf 11 0 1, ql 12 1 11, qk 13 69 [12], qq 3 (.alloc 1792194 (.agg [.int .i64 0, .int .i64 0])), qs 2 3 13]
 (qS [qL 14 2 3, qq 15 (.build [.int .i64 0, .int .i64 0] []), qq 16 (.bin .neq true [.i, .i] (.t 14) (.t 15))]
 (.cond (.t 16) (.seq (.ops [qf 17 0 3, ql 18 1 17, qq 19 (.build [.int .i64 0, .int .i64 0] [(0 , 1 , .t 18), (1 , 1 , .c (.int .i64 (-1)))]), qs 2 2 19]) .ret) .skip)))
 (qT (qS [qf 20 0 1, ql 21 1 20, qf 22 1 1, ql 23 1 22, qk 24 70 [21, 23], qq 4 (.alloc 1792258 (.agg [.int .i64 0, .int .i64 0])), qs 2 4 24]
 (qS [qL 25 2 4, qq 26 (.build [.int .i64 0, .int .i64 0] []), qq 27 (.bin .neq true [.i, .i] (.t 25) (.t 26))]
 (.cond (.t 27) (.seq (.ops [qf 28 0 4, ql 29 1 28, qq 30 (.build [.int .i64 0, .int .i64 0] [(0 , 1 , .t 29), (1 , 1 , .c (.int .i64 (-2)))]), qs 2 2 30]) .ret) .skip)))
 (qT (qS [qf 31 2 1, ql 32 1 31, qn 33 32, qv 34 .gtr [] 33 8]
 (.cond (.t 34) (.seq (.ops [qq 35 (.build [.int .i64 0, .int .i64 0] [(0 , 1 , .c (.int .i64 2)), (1 , 1 , .c (.int .i64 (-3)))]), qs 2 2 35]) .ret) .skip))
 (qT (qS [qf 36 2 1, ql 37 1 36, qn 38 37, qc 39 0]
 (.block 0 (.loop (qS [qu 40 .lss [] 39 38]
 (qT (.cond (.t 40) .skip (.exit 0))
 (qT (.block 1 (qS [qm 41 39, qm 5 41]
 (qS [qL 42 6 1, qm 43 5, qk 44 71 [42, 43], qm 6 44]
 (qS [qm 45 6, qv 46 .neq [.i] 45 0]
 (.cond (.t 46) (.seq (.ops [qm 47 6, qq 48 (.build [.int .i64 0, .int .i64 0] [(0 , 1 , .t 47), (1 , 1 , .c (.int .i64 (-3)))]), qs 2 2 48]) .ret) .skip)))))
 (.ops [qv 49 .add [] 39 1, qm 39 49])))))))
 (qT (qS [qf 50 3 1, ql 51 1 50, qn 52 51, qv 53 .gtr [] 52 8]
 (.cond (.t 53) (.seq (.ops [qq 54 (.build [.int .i64 0, .int .i64 0] [(0 , 1 , .c (.int .i64 2)), (1 , 1 , .c (.int .i64 (-4)))]), qs 2 2 54]) .ret) .skip))
 (qT (qS [qf 55 3 1, ql 56 1 55, qn 57 56, qc 58 0]
 (.block 2 (.loop (qS [qu 59 .lss [] 58 57]
 (qT (.cond (.t 59) .skip (.exit 2))
 (qT (.block 3 (qS [qm 60 58, qm 7 60]
 (qS [qL 61 6 1, qm 62 7, qk 63 72 [61, 62], qm 8 63]
 (qS [qm 64 8, qv 65 .neq [.i] 64 0]
 (.cond (.t 65) (.seq (.ops [qm 66 8, qm 67 7, qq 68 (.build [.int .i64 0, .int .i64 0] [(0 , 1 , .t 66), (1 , 1 , .t 67)]), qs 2 2 68]) .ret) .skip)))))
 (.ops [qv 69 .add [] 58 1, qm 58 69])))))))
 (qT (qS [qL 70 6 1, qk 71 73 [70], qm 9 71]
 (qS [qm 72 9, qv 73 .neq [.i] 72 0]
 (.cond (.t 73) (.seq (.ops [qm 74 9, qq 75 (.build [.int .i64 0, .int .i64 0] [(0 , 1 , .t 74), (1 , 1 , .c (.int .i64 (-5)))]), qs 2 2 75]) .ret) .skip)))
 (qT (qS [qL 76 6 1, qf 77 5 1, ql 78 1 77, qq 79 (.call .f (.c (.fn 74 [])) [.t 76, .c (.sl .nil []), .t 78]), qm 10 79]
 (qS [qm 80 10, qv 81 .neq [.i] 80 0]
 (.cond (.t 81) (.seq (.ops [qm 82 10, qq 83 (.build [.int .i64 0, .int .i64 0] [(0 , 1 , .t 82), (1 , 1 , .c (.int .i64 (-6)))]), qs 2 2 83]) .ret) .skip)))
 (.seq (.ops [qq 84 (.build [.int .i64 0, .int .i64 0] []), qs 2 2 84]) .ret))))))))))
def r_domain_Validate : List RVar := [.cell true 2 2]
def n_domain_Validate : Nat := 85
theorem k_domain_Validate : chkFn Go.Proofs.Tryz.prog 28 n_domain_Validate r_domain_Validate c_domain_Validate = true := by kernel_rfl
theorem f_domain_Validate (d : Dom) (ho : DoOk d) : Fc Go.Proofs.Tryz.prog 28 [domV d] (ftV (domFault d)) := by
  have hT := f_types_Validate d.types ho.types
  have hO := f_types_Objects d.types ho.types.1 d.objects ho.objects
  unfold domFault
  by_cases t1 : typesFault d.types = okF
  · rw [if_neg (by simp [t1])]
    rw [t1] at hT
    by_cases t2 : objectsFault d.types.length d.objects = okF
    · rw [if_neg (by simp [t2])]
      rw [t2] at hO
      have hd := doTy_of t1 t2
      have hpl := ho.preds.1
      have hsl := ho.schemas.1
      by_cases t3 : d.preds.length > 8
      · rw [if_pos t3]
        refine Fn.step mixed k_domain_Validate ?_
        repeat' (first | refine i_len rfl ?_ | refine i_s rfl ?_ | refine sw ?_ | refine c_f rfl ?_ | refine i_stb rfl ?_ | refine i_alloc rfl ?_ | refine i_box rfl rfl ?_ | refine c_cond rfl (fun h => ?_) (fun h => ?_) | refine sf rfl rfl hT ?_ | refine sf rfl rfl hO ?_ | fail)
        all_goals first
          | exact e_ret ⟨rfl, _, rfl, rfl⟩
          | (exfalso; clear hT hO; simp at *; omega)
          | (exfalso; clear hT hO; simp_all; done)
      · rw [if_neg t3]
        refine Fn.step mixed k_domain_Validate ?_
        repeat' (first | refine i_len rfl ?_ | refine i_s rfl ?_ | refine sw ?_ | refine c_f rfl ?_ | refine i_stb rfl ?_ | refine i_alloc rfl ?_ | refine i_box rfl rfl ?_ | refine c_cond rfl (fun h => ?_) (fun h => ?_) | refine sf rfl rfl hT ?_ | refine sf rfl rfl hO ?_ | fail)
        all_goals first
          | (exfalso; clear hT hO; simp at *; omega)
          | (exfalso; clear hT hO; simp [okF] at *; done)
          | skip
        clear hT hO
        refine c_for d.preds.length (fun k => [(1, .bptr 1792070 0), (2, .bptr 1792130 0), (38, .int .i64 d.preds.length), (39, .int .i64 k)]) (fun _ => [(1792070, .box (domV d)), (1792130, .box (ftV okF))]) (fun k => ∀ j, j < k → nzF (prdCode d) (fun _ => -3) j = none) all_zero ft fun k hk hi => ?_
        by_cases hlt : k < d.preds.length
        · obtain ⟨p, hp⟩ := get_some hlt
          have hP := f_domain_predicate d ho k p hp
          by_cases z : prdCode d k = 0
          · have hn : nzF (prdCode d) (fun _ => -3) k = none := by unfold nzF; rw [if_pos z]
            rw [z] at hP
            clear ho
            repeat' (first | refine i_len rfl ?_ | refine i_s rfl ?_ | refine sw ?_ | refine c_f rfl ?_ | refine ja rfl rfl ?_ | refine i_stb rfl ?_ | refine c_cond rfl (fun h => ?_) (fun h => ?_) | refine sf rfl rfl hP ?_ | fail)
            all_goals first
              | (exact e_for hlt (all_succ hi hn) ft)
              | (exfalso; clear hP; simp at *; omega)
          · rw [scan0_hit hi hlt (show nzF (prdCode d) (fun _ => -3) k = some ⟨prdCode d k, -3⟩ by unfold nzF; rw [if_neg z])]
            clear hi ho
            generalize prdCode d k = c at *
            repeat' (first | refine i_len rfl ?_ | refine i_s rfl ?_ | refine sw ?_ | refine ja rfl rfl ?_ | refine i_stb rfl ?_ | refine c_cond rfl (fun h => ?_) (fun h => ?_) | refine sf rfl rfl hP ?_ | fail)
            all_goals first
              | exact e_ret ⟨rfl, _, rfl, rfl⟩
              | (exfalso; clear hP; simp at *; omega)
        · rw [scan0_none fun j hj => hi j (by omega)]
          clear hi
          by_cases t4 : d.schemas.length > 8
          · simp only
            rw [if_pos t4]
            clear ho
            repeat' (first | refine i_len rfl ?_ | refine i_s rfl ?_ | refine sw ?_ | refine i_stb rfl ?_ | refine c_cond rfl (fun h => ?_) (fun h => ?_))
            all_goals first
              | exact e_ret ⟨rfl, _, rfl, rfl⟩
              | (exfalso; simp at *; omega)
          · simp only
            rw [if_neg t4]
            repeat' (first | refine i_len rfl ?_ | refine i_s rfl ?_ | refine sw ?_ | refine i_stb rfl ?_ | refine c_cond rfl (fun h => ?_) (fun h => ?_))
            all_goals first
              | (exfalso; simp at *; omega)
              | skip
            refine c_for d.schemas.length (fun k => [(1, .bptr 1792070 0), (2, .bptr 1792130 0), (57, .int .i64 d.schemas.length), (58, .int .i64 k)]) (fun _ => [(1792070, .box (domV d)), (1792130, .box (ftV okF))]) (fun k => ∀ j, j < k → nzF (schCode d) (fun i => i) j = none) all_zero ft fun k hk hi => ?_
            by_cases hlt : k < d.schemas.length
            · obtain ⟨s, hs⟩ := get_some hlt
              have hP := f_domain_schema d hd ho k s hs
              by_cases z : schCode d k = 0
              · have hn : nzF (schCode d) (fun i => i) k = none := by unfold nzF; rw [if_pos z]
                rw [z] at hP
                clear ho
                repeat' (first | refine i_s rfl ?_ | refine sw ?_ | refine c_f rfl ?_ | refine ja rfl rfl ?_ | refine c_cond rfl (fun h => ?_) (fun h => ?_) | refine sf rfl rfl hP ?_ | fail)
                all_goals first
                  | (exact e_for hlt (all_succ hi hn) ft)
                  | (exfalso; clear hP; simp at *; omega)
              · rw [scan0_hit hi hlt (show nzF (schCode d) (fun i => i) k = some ⟨schCode d k, k⟩ by unfold nzF; rw [if_neg z])]
                clear hi ho
                generalize schCode d k = c at *
                repeat' (first | refine i_s rfl ?_ | refine sw ?_ | refine ja rfl rfl ?_ | refine i_stb rfl ?_ | refine c_cond rfl (fun h => ?_) (fun h => ?_) | refine sf rfl rfl hP ?_ | fail)
                all_goals first
                  | exact e_ret ⟨rfl, _, rfl, rfl⟩
                  | (exfalso; clear hP; simp at *; omega)
            · rw [scan0_none fun j hj => hi j (by omega)]
              clear hi
              simp only
              have hS := f_domain_start d hd ho
              have hG := f_domain_literals d hd [] ⟨by simp, by simp⟩ d.goal ho.goal.1 ho.goal.2
              clear ho
              generalize startCode d = c1 at *
              generalize atomsCode d [] (d.goal.map Lit.at_) 8 = c2 at *
              by_cases z1 : c1 = 0
              · subst z1
                rw [if_neg (by simp)]
                by_cases z2 : c2 = 0
                · subst z2
                  rw [if_neg (by simp)]
                  repeat' (first | refine i_s rfl ?_ | refine sw ?_ | refine c_f rfl ?_ | refine i_stb rfl ?_ | refine c_cond rfl (fun h => ?_) (fun h => ?_) | refine sf rfl rfl hS ?_ | refine sf rfl rfl hG ?_ | fail)
                  all_goals first
                    | exact e_ret ⟨rfl, _, rfl, rfl⟩
                    | (exfalso; clear hS hG; simp at *; omega)
                · rw [if_pos z2]
                  repeat' (first | refine i_s rfl ?_ | refine sw ?_ | refine c_f rfl ?_ | refine i_stb rfl ?_ | refine c_cond rfl (fun h => ?_) (fun h => ?_) | refine sf rfl rfl hS ?_ | refine sf rfl rfl hG ?_ | fail)
                  all_goals first
                    | exact e_ret ⟨rfl, _, rfl, rfl⟩
                    | (exfalso; clear hS hG; simp at *; omega)
              · rw [if_pos z1]
                repeat' (first | refine i_s rfl ?_ | refine sw ?_ | refine i_stb rfl ?_ | refine c_cond rfl (fun h => ?_) (fun h => ?_) | refine sf rfl rfl hS ?_ | refine sf rfl rfl hG ?_ | fail)
                all_goals first
                  | exact e_ret ⟨rfl, _, rfl, rfl⟩
                  | (exfalso; clear hS hG; simp at *; omega)
    · rw [if_pos t2]
      have ht2 : (objectsFault d.types.length d.objects).code ≠ 0 := fun h => t2 ((objectsFault_code _ _).1 h)
      clear ho
      generalize objectsFault d.types.length d.objects = F at *
      refine Fn.step mixed k_domain_Validate ?_
      repeat' (first | refine i_len rfl ?_ | refine i_s rfl ?_ | refine sw ?_ | refine c_f rfl ?_ | refine i_stb rfl ?_ | refine i_alloc rfl ?_ | refine i_box rfl rfl ?_ | refine c_cond rfl (fun h => ?_) (fun h => ?_) | refine sf rfl rfl hT ?_ | refine sf rfl rfl hO ?_ | fail)
      all_goals first
        | exact e_ret ⟨rfl, _, rfl, rfl⟩
        | (exfalso; clear hT hO; simp at *; omega)
        | (exfalso; clear hT hO; simp_all; done)
        | (exfalso; clear hT hO; simp [okF] at *; done)
  · rw [if_pos t1]
    have ht1 : (typesFault d.types).code ≠ 0 := fun h => t1 ((typesFault_code _).1 h)
    clear ho hO
    generalize typesFault d.types = F at *
    refine Fn.step mixed k_domain_Validate ?_
    repeat' (first | refine i_s rfl ?_ | refine sw ?_ | refine i_stb rfl ?_ | refine i_alloc rfl ?_ | refine i_box rfl rfl ?_ | refine c_cond rfl (fun h => ?_) (fun h => ?_) | refine sf rfl rfl hT ?_ | fail)
    all_goals first
      | exact e_ret ⟨rfl, _, rfl, rfl⟩
      | (exfalso; clear hT; simp at *; omega)
      | (exfalso; clear hT; simp_all; done)
      | (exfalso; clear hT; simp [okF] at *; done)
theorem YL_upto {G : Type} {H : HT G} (hM : MonoH H) {α : Type} {f : α → List V} (st : Nat → G) (s1 : G) {K : G → Prop} (lim : Nat) : ∀ (l : List α) (n : Nat), n ≤ lim →
    (∀ (i : Nat) (c : α), l[i]? = some c → n + i ≤ lim → ∀ K' : V → G → Prop, (n + i < lim → K' (.bool true) (st (n + i + 1))) → (n + i = lim → K' (.bool false) s1) → H (f c) (st (n + i)) K') →
    (n + l.length ≤ lim → K (st (n + l.length))) → (lim < n + l.length → K s1) → YL H (l.map f) (st n) K
  | [], n, hn, _, h1, _ => h1 (by simpa using hn)
  | c :: r, n, hn, hH, h1, h2 => by
    refine hH 0 c rfl hn _ (fun hlt => .inl ⟨rfl, ?_⟩) (fun he => .inr ⟨rfl, h2 (by simp only [List.length_cons]; omega)⟩)
    refine YL_upto hM st s1 lim r (n + 1) (by omega) (fun i c' hc hle K' hk1 hk2 => ?_) (fun h => ?_) (fun h => h2 (by simp only [List.length_cons]; omega))
    · rw [show n + 1 + i = n + (i + 1) from by omega] at hle hk1 hk2 ⊢
      exact hH (i + 1) c' (by simpa using hc) hle K' hk1 hk2
    · have := h1 (by simp only [List.length_cons]; omega)
      rw [List.length_cons] at this
      rw [show n + 1 + r.length = n + (r.length + 1) from by omega]
      exact this
def atR (d : Dom) : List At := if atF d = okF then allAt d else []
theorem atF_bad {d : Dom} (h : domFault d ≠ okF) : atF d = domFault d ∧ atR d = [] := by
  have e : atF d = domFault d := by unfold atF; rw [if_pos h]
  exact ⟨e, by unfold atR; rw [e, if_neg h]⟩
theorem atF_big {d : Dom} (h : domFault d = okF) (hb : (allAt d).length > 400) : atF d = ⟨10, -8⟩ ∧ atR d = [] := by
  have e : atF d = ⟨10, -8⟩ := by unfold atF; rw [if_neg (fun h' => h' h), if_pos hb]
  exact ⟨e, by unfold atR; rw [e, if_neg (by decide)]⟩
theorem atF_ok {d : Dom} (h : domFault d = okF) (hb : (allAt d).length ≤ 400) : atF d = okF ∧ atR d = allAt d := by
  have e : atF d = okF := by unfold atF; rw [if_neg (fun h' => h' h), if_neg (by omega)]
  exact ⟨e, by unfold atR; rw [e, if_pos rfl]⟩
theorem atF_dom {d : Dom} (h : atF d = okF) : domFault d = okF ∧ (allAt d).length ≤ 400 := by
  by_cases h1 : domFault d = okF
  · refine ⟨h1, ?_⟩
    by_cases h2 : (allAt d).length > 400
    · rw [(atF_big h1 h2).1] at h; exact absurd h (by decide)
    · omega
  · rw [(atF_bad h1).1] at h; exact absurd h h1
def c_ground_Atoms : Cmd :=
 (qS [qx 1 576070 6 0, qq 2 (.alloc 576129 (.sl .nil [])), qq 3 (.alloc 576194 (.agg [.int .i64 0, .int .i64 0]))]
 (qT (qS [qL 9 6 1, qk 10 28 [9], qq 4 (.alloc 576258 (.agg [.int .i64 0, .int .i64 0])), qs 2 4 10]
 (qS [qL 11 2 4, qq 12 (.build [.int .i64 0, .int .i64 0] []), qq 13 (.bin .neq true [.i, .i] (.t 11) (.t 12))]
 (.cond (.t 13) (.seq (.opsT (.node 0 1 (.leaf [0, 1, 2]) (.leaf [1, 0, 2])) [qL 14 2 4, .op none none (.store 1 (.t 2) (.c (.sl .nil []))), qs 2 3 14]) .ret) .skip)))
 (.seq (.ops [qq 5 (.alloc 576321 (.sl .nil []))]) (.nvs 5 579202 (.cut (qT (qS [qf 15 2 1, ql 16 1 15, qn 17 16, qc 18 0]
 (.block 0 (.loop (qS [qu 19 .lss [] 18 17]
 (qT (.cond (.t 19) .skip (.exit 0))
 (qT (.block 1 (qS [qm 20 18, qi 21 2 16 18, qL 22 2 21, qq 6 (.alloc 576385 (.int .i64 0)), qq 7 (.alloc 576450 (.agg [.str [], .sl .nil []])), qs 1 6 20, qs 2 7 22]
 (qS [qL 23 6 1, qf 24 1 7, ql 25 1 24, qk 26 29 [23, 25]]
 (.block 2 (.rangeF [] (.t 26) [27] (.ops [qm 8 27]) (.block 3 (qT (qS [ql 28 1 5, qn 29 28, qv 30 .eql [.i] 29 400]
 (.cond (.t 30) (.seq (.ops [qq 31 (.build [.int .i64 0, .int .i64 0] [(0 , 1 , .c (.int .i64 10)), (1 , 1 , .c (.int .i64 (-8)))]), .op none none (.store 1 (.t 2) (.c (.sl .nil []))), qs 2 3 31]) .ret) .skip))
 (.ops [ql 32 1 5, ql 33 1 6, qm 34 8, qq 35 (.build [.int .i64 0, .sl .nil []] [(0 , 1 , .t 33), (1 , 1 , .t 34)]), qq 36 (.bsl 2 [.t 35]), qq 37 (.append 2 32 52 (.t 32) (.t 36)), qs 1 5 37]))))))))
 (.ops [qv 38 .add [] 18 1, qm 18 38])))))))
 (.seq (.ops [ql 39 1 5, qq 40 (.build [.int .i64 0, .int .i64 0] []), qs 1 2 39, qs 2 3 40]) .ret)))))))
def r_ground_Atoms : List RVar := [.cell false 1 2, .cell true 2 3]
def n_ground_Atoms : Nat := 41
theorem k_ground_Atoms : chkFn Go.Proofs.Tryz.prog 9 n_ground_Atoms r_ground_Atoms c_ground_Atoms = true := by kernel_rfl
abbrev taS (d : Dom) (A : List At) : List (Nat × Blk) := [(576070, .box (domV d)), (576129, .box (.sl .nil [])), (576194, .box (ftV okF)), (576321, .box (.sl (.own 579202) (A.map atV))), (579202, .vec A.length)]
abbrev taS2 (d : Dom) (k : Nat) (x : Prd) (f : Flt) (A : List At) : List (Nat × Blk) := [(576070, .box (domV d)), (576129, .box (.sl .nil [])), (576194, .box (ftV f)), (576321, .box (.sl (.own 579202) (A.map atV))), (576385, .box (.int .i64 k)), (576450, .box (prdV x)), (579202, .vec A.length)]
abbrev taE (d : Dom) (k : Nat) : List (Nat × V) := [(1, .bptr 576070 0), (2, .bptr 576129 0), (3, .bptr 576194 0), (5, .bptr 576321 0), (16, .sl .p (d.preds.map prdV)), (17, .int .i64 d.preds.length), (18, .int .i64 k)]
abbrev taE2 (d : Dom) (k : Nat) : List (Nat × V) := [(1, .bptr 576070 0), (2, .bptr 576129 0), (3, .bptr 576194 0), (5, .bptr 576321 0), (6, .bptr 576385 0), (7, .bptr 576450 0), (16, .sl .p (d.preds.map prdV)), (17, .int .i64 d.preds.length), (18, .int .i64 k)]
theorem f_Atoms (d : Dom) (ho : DoOk d) : Fc Go.Proofs.Tryz.prog 9 [domV d] (.tup [.sl .p ((atR d).map atV), ftV (atF d)]) := by
  have hV := f_domain_Validate d ho
  by_cases hdf : domFault d = okF
  · rw [hdf] at hV
    have hd := domV_of hdf
    have hpl := hd.pl
    refine Fn.step mixed k_ground_Atoms ?_
    repeat' (first | refine i_s rfl ?_ | refine sw ?_ | refine c_f rfl ?_ | refine i_stb rfl ?_ | refine i_alloc rfl ?_ | refine i_box rfl rfl ?_ | refine sf rfl rfl hV ?_ | fail)
    all_goals first
      | (exfalso; clear hV; simp at *; done)
      | skip
    clear hV
    refine c_nvs rfl rfl rfl ?_
    repeat (first | refine i_len rfl ?_ | refine i_s rfl ?_ | refine sw ?_)
    refine c_lp (ι := Nat) (fun k => taE d k) (fun k => taS d (atomsK d k)) (fun k => k ≤ d.preds.length ∧ (atomsK d k).length ≤ 400) (fun k => d.preds.length - k) 0 ⟨Nat.zero_le _, Nat.zero_le _⟩ ft fun k hi => ?_
    obtain ⟨hk, h400⟩ := hi
    by_cases hlt : k < d.preds.length
    · obtain ⟨x, hx⟩ := get_some hlt
      have hv := prdVal_of hd hx
      have hxt := hv.types.1
      have hCh := f_ground_choices d x.types
      have e1 : atomsK d (k + 1) = atomsK d k ++ (argL d x.types).map fun a => ⟨k, a⟩ := by rw [atomsK_succ, predAt_some hx]
      have hle := atomsK_le d (Nat.succ_le_of_lt hlt)
      rw [Nat.succ_eq_add_one, e1, List.length_append, List.length_map] at hle
      have hle : (atomsK d k).length + (argL d x.types).length ≤ (allAt d).length := hle
      repeat' (first | refine i_s rfl ?_ | refine sw ?_ | refine jd rfl rfl ?_ | refine i_stb rfl ?_ | refine i_alloc rfl ?_ | refine c_cond rfl (fun h => ?_) (fun h => ?_) | refine sf rfl rfl hCh ?_ | fail)
      all_goals first
        | (exfalso; clear hCh; simp at *; done)
        | (exfalso; clear hCh; simp at *; omega)
        | skip
      refine c_rangeS (taE2 d k) (taS2 d k x okF (atomsK d k)) [576070, 576129, 576194, 576321, 576385, 576450, 579202]
        [] (taS2 d k x okF (atomsK d k)) rfl ft rfl rfl rfl rfl ?_
      clear hCh
      refine Cc_mono ?_ (ct_choices_1 d hd.ty x.types (by omega) _ (fun st => ((atomsK d (k + 1)).length ≤ 400 ∧ st = (stOf (taS2 d k x okF (atomsK d (k + 1))), (), none)) ∨ (400 < (allAt d).length ∧ ∃ A, st = (stOf (taS2 d k x ⟨10, -8⟩ A), (), some .ret))) ?_)
      · rintro _ σ' st ⟨rfl, ⟨h4, rfl⟩ | ⟨h4, A, rfl⟩⟩
        · refine ⟨rfl, ?_⟩
          show WE _ _ _ _ _ .normal _ _ _
          repeat (first | refine i_s rfl ?_ | refine sw ?_ | refine ja rfl rfl ?_)
          exact e_lp (k + 1) ⟨hlt, h4⟩ (by omega) ft
        · refine ⟨rfl, ?_⟩
          show WE _ _ _ _ _ .ret _ _ _
          rw [(atF_big hdf h4).1, (atF_big hdf h4).2]
          exact e_ret ⟨rfl, _, rfl, rfl⟩
      · have e0 : atomsK d k = atomsK d k ++ ((argL d x.types).take 0).map (fun a => (⟨k, a⟩ : At)) := by simp
        rw [show taS2 d k x okF (atomsK d k) = taS2 d k x okF (atomsK d k ++ ((argL d x.types).take 0).map (fun a => (⟨k, a⟩ : At))) from congrArg _ e0]
        refine YL_upto (f := fun a : List Int => [V.sl .p (a.map i64V)]) (RHm noH_mono) (fun j => (stOf (taS2 d k x okF (atomsK d k ++ ((argL d x.types).take j).map (fun a => (⟨k, a⟩ : At)))), (), none))
          (stOf (taS2 d k x ⟨10, -8⟩ (atomsK d k ++ ((argL d x.types).take (400 - (atomsK d k).length)).map (fun a => (⟨k, a⟩ : At)))), (), some .ret) (400 - (atomsK d k).length) (argL d x.types) 0 (Nat.zero_le _) (fun i c hc hil K' hk1 hk2 => ?_) (fun h => ?_) (fun h => ?_)
        · rw [Nat.zero_add] at hil hk1 hk2 ⊢
          have hcl := get_lt hc
          have ht := take_succ_get hc
          obtain ⟨A, hA⟩ : ∃ A, A = atomsK d k ++ ((argL d x.types).take i).map (fun a => (⟨k, a⟩ : At)) := ⟨_, rfl⟩
          have hAl : A.length = (atomsK d k).length + i := by rw [hA]; simp; omega
          have eA : atomsK d k ++ ((argL d x.types).take (i + 1)).map (fun a => (⟨k, a⟩ : At)) = A ++ [⟨k, c⟩] := by rw [ht, List.map_append, ← List.append_assoc, ← hA]; rfl
          have lA : (A ++ [(⟨k, c⟩ : At)]).length = A.length + 1 := by simp
          simp only [eA] at hk1
          simp only [← hA]
          by_cases h4 : i < 400 - (atomsK d k).length
          · have hk1 := hk1 h4
            clear ht hA eA e1 e0 hc hk2 hle
            refine rh_intro noH_mono rfl ?_
            repeat (first | refine i_s rfl ?_ | refine sw ?_)
            refine e_end ?_
            show WC _ _ _ _ [] _ _ _ _
            repeat' (first | refine i_len rfl ?_ | refine i_s rfl ?_ | refine sw ?_ | refine i_stb rfl ?_ | refine c_cond rfl (fun h => ?_) (fun h => ?_))
            all_goals first
              | (exfalso; clear hk1; simp at *; done)
              | (exfalso; clear hk1; simp at *; omega)
              | skip
            refine i_appM (c := (⟨k, c⟩ : At)) rfl rfl rfl rfl rfl (by omega) (by omega) ?_
            repeat' (first | refine sw ?_ | refine i_stb rfl ?_)
            refine e_end ?_
            refine rhq_n rfl rfl ?_
            simp only [taS2, lA] at hk1
            exact hk1
          · have h5 : i = 400 - (atomsK d k).length := by omega
            have hk2 := hk2 h5
            rw [← h5] at hk2
            simp only [← hA] at hk2
            clear ht hA eA e1 e0 hc hk1 hle
            refine rh_intro noH_mono rfl ?_
            repeat (first | refine i_s rfl ?_ | refine sw ?_)
            refine e_end ?_
            show WC _ _ _ _ [] _ _ _ _
            repeat' (first | refine i_len rfl ?_ | refine i_s rfl ?_ | refine sw ?_ | refine i_stb rfl ?_ | refine c_cond rfl (fun h => ?_) (fun h => ?_))
            all_goals first
              | (exfalso; clear hk2; simp at *; done)
              | (exfalso; clear hk2; simp at *; omega)
              | skip
            refine e_ret ?_
            refine rhq_r rfl rfl ?_
            exact hk2
        · left
          rw [Nat.zero_add] at h
          refine ⟨by rw [e1]; simp; omega, ?_⟩
          rw [Nat.zero_add, List.take_length, e1]
        · right
          exact ⟨by omega, _, rfl⟩
    · have hge : k = d.preds.length := by omega
      subst hge
      have h4 : (allAt d).length ≤ 400 := h400
      rw [(atF_ok hdf h4).1, (atF_ok hdf h4).2]
      repeat' (first | refine i_s rfl ?_ | refine sw ?_ | refine i_stb rfl ?_ | refine c_cond rfl (fun h => ?_) (fun h => ?_))
      all_goals first
        | (exfalso; simp at *; done)
        | (exfalso; simp at *; omega)
        | skip
      exact e_ret ⟨rfl, _, rfl, rfl⟩
  · rw [(atF_bad hdf).1, (atF_bad hdf).2]
    refine Fn.step mixed k_ground_Atoms ?_
    repeat' (first | refine i_s rfl ?_ | refine sw ?_ | refine i_stb rfl ?_ | refine i_alloc rfl ?_ | refine i_box rfl rfl ?_ | (refine sp ?_ ?_ <;> try intro h) | refine sf rfl rfl hV ?_ | fail)
    all_goals first
      | exact e_ret ⟨rfl, _, rfl, rfl⟩
      | exact absurd (eq_ok h) hdf
def c_ground_start : Cmd :=
 (qS [qx 1 2176070 6 0, qq 2 (.mov (.c (.nilptr))), qq 3 (.alloc 2176194 (.agg [.int .i64 0, .int .i64 0]))]
 (qT (qS [qL 8 6 1, qk 9 9 [8], qm 7 9, qq 10 (.extract (.t 7) 0), qq 11 (.extract (.t 7) 1), qq 5 (.alloc 2176322 (.agg [.int .i64 0, .int .i64 0])), qm 4 10, qs 2 5 11]
 (qS [qL 12 2 5, qq 13 (.build [.int .i64 0, .int .i64 0] []), qq 14 (.bin .neq true [.i, .i] (.t 12) (.t 13))]
 (.cond (.t 14) (.seq (.ops [qL 15 2 5, qq 2 (.mov (.c (.nilptr))), qs 2 3 15]) .ret) .skip)))
 (qS [qL 16 6 1, qq 17 (.build [.sl .nil [], .sl .nil [], .sl .nil [], .sl .nil [], .sl .nil [], .sl .nil [], .sl .nil [], .sl .nil []] [(0 , 6 , .t 16)]), qx 18 2177160 8 17, qm 6 18]
 (qS [qm 20 6, qm 21 6, qL 22 6 1, qk 23 81 [22], qm 19 23, qq 24 (.extract (.t 19) 0), qq 25 (.extract (.t 19) 1), qq 26 (.nilck (.t 20)), qf 27 6 26, qs 1 27 24, qq 28 (.nilck (.t 21)), qf 29 7 28, qs 1 29 25]
 (.seq (.ops [qm 30 6, qq 31 (.build [.int .i64 0, .int .i64 0] []), qm 2 30, qs 2 3 31]) .ret)))))
def r_ground_start : List RVar := [.tmp 2, .cell true 2 3]
def n_ground_start : Nat := 32
theorem k_ground_start : chkFn Go.Proofs.Tryz.prog 34 n_ground_start r_ground_start c_ground_start = true := by kernel_rfl
theorem f_start_bad (d : Dom) (ho : DoOk d) (h : atF d ≠ okF) : Fc Go.Proofs.Tryz.prog 34 [domV d] (.tup [.nilptr, ftV (atF d)]) := by
  have hA := f_Atoms d ho
  refine Fn.step mixed k_ground_start ?_
  repeat' (first | refine i_s rfl ?_ | refine sw ?_ | refine i_stb rfl ?_ | refine i_alloc rfl ?_ | refine i_box rfl rfl ?_ | refine c_cond rfl (fun h => ?_) (fun h => ?_) | refine sf rfl rfl hA ?_ | fail)
  all_goals first
    | exact e_ret ⟨rfl, _, rfl, rfl⟩
    | exact absurd (eq_ok h) (by assumption)
theorem f_start_ok (d : Dom) (ho : DoOk d) (h : atF d = okF) : Fc Go.Proofs.Tryz.prog 34 [domV d] (.tup [grP d (fluL d) (denL d), ftV okF]) := by
  have hA := f_Atoms d ho
  have hd := domV_of (atF_dom h).1
  have hF := f_fluents d hd
  rw [h] at hA
  refine Fn.step mixed k_ground_start ?_
  repeat' (first | refine i_s rfl ?_ | refine sw ?_ | refine c_f rfl ?_ | refine i_stb rfl ?_ | refine i_alloc rfl ?_ | refine i_box rfl rfl ?_ | refine sf rfl rfl hA ?_ | refine sf rfl rfl hF ?_ | fail)
  all_goals first
    | exact e_ret ⟨rfl, _, rfl, rfl⟩
    | (exfalso; clear hA hF; simp at *; done)
def c_ground_grounder_literals : Cmd :=
 (qS [qx 1 2304065 1 0, qq 2 (.mov (.c (.sl .nil [])))]
 (.seq (.ops [qq 3 (.alloc 2304193 (.sl .nil [])), qq 4 (.alloc 2304257 (.sl .nil []))]) (.nvs 4 2306563 (.nvs 3 2305923 (.cut (qT (qS [ql 9 1 1, qq 10 (.nilck (.t 9)), qf 11 0 10, qf 12 2 11, ql 13 1 12, qn 14 13, qc 15 0]
 (.block 0 (.loop (qS [qu 16 .lss [] 15 14]
 (qT (.cond (.t 16) .skip (.exit 0))
 (qT (.block 1 (qS [qm 17 15, qi 18 2 13 15, qL 19 2 18, qq 5 (.alloc 2304321 (.int .i64 0)), qq 6 (.alloc 2304386 (.agg [.str [], .sl .nil []])), qs 1 5 17, qs 2 6 19]
 (qT (qS [ql 20 1 1, qq 21 (.nilck (.t 20)), qf 22 6 21, ql 23 1 22, ql 24 1 5, qi 25 1 23 24, ql 26 1 25, qq 27 (.not (.t 26))]
 (.cond (.t 27) (.exit 1) .skip))
 (qS [ql 28 1 1, qq 29 (.nilck (.t 28)), qf 30 0 29, qL 31 6 30, qf 32 1 6, ql 33 1 32, qk 34 29 [31, 33]]
 (.block 2 (.rangeF [] (.t 34) [35] (.ops [qm 7 35]) (.block 3 (qS [ql 36 1 5, qm 37 7, qq 38 (.build [.int .i64 0, .sl .nil []] [(0 , 1 , .t 36), (1 , 1 , .t 37)]), qq 8 (.alloc 2304514 (.agg [.int .i64 0, .sl .nil []])), qs 2 8 38]
 (qS [ql 39 1 3, qL 40 2 8, qq 41 (.build [.bool false, .int .i64 0, .sl .nil []] [(1 , 2 , .t 40)]), qq 42 (.bsl 3 [.t 41]), qq 43 (.append 3 40 54 (.t 39) (.t 42)), qs 1 3 43]
 (qS [ql 44 1 1, qq 45 (.nilck (.t 44)), qf 46 7 45, ql 47 1 46, ql 48 1 5, qi 49 1 47 48, ql 50 1 49]
 (.cond (.t 50) (.ops [ql 51 1 4, qL 52 2 8, qq 53 (.build [.bool false, .int .i64 0, .sl .nil []] [(0 , 1 , .c (.bool true)), (1 , 2 , .t 52)]), qq 54 (.bsl 3 [.t 53]), qq 55 (.append 3 40 54 (.t 51) (.t 54)), qs 1 4 55]) .skip)))))))))))
 (.ops [qv 56 .add [] 15 1, qm 15 56])))))))
 (.seq (.ops [ql 57 1 3, ql 58 1 4, qq 59 (.append 3 40 54 (.t 57) (.t 58)), qm 2 59]) .ret)))))))
def r_ground_grounder_literals : List RVar := [.tmp 2]
def n_ground_grounder_literals : Nat := 60
theorem k_ground_grounder_literals : chkFn Go.Proofs.Tryz.prog 36 n_ground_grounder_literals r_ground_grounder_literals c_ground_grounder_literals = true := by kernel_rfl
abbrev liS (d : Dom) (P M : List Lit) : List (Nat × Blk) := [(2304065, .box (grP d (fluL d) (denL d))), (2304193, .box (.sl (.own 2305923) (P.map litV))), (2304257, .box (.sl (.own 2306563) (M.map litV))), (2305923, .vec P.length), (2306563, .vec M.length)]
abbrev liS2 (d : Dom) (k : Nat) (x : Prd) (P M : List Lit) : List (Nat × Blk) := [(2304065, .box (grP d (fluL d) (denL d))), (2304193, .box (.sl (.own 2305923) (P.map litV))), (2304257, .box (.sl (.own 2306563) (M.map litV))), (2304321, .box (.int .i64 k)), (2304386, .box (prdV x)), (2305923, .vec P.length), (2306563, .vec M.length)]
abbrev liE (d : Dom) (k : Nat) : List (Nat × V) := [(1, .bptr 2304065 0), (3, .bptr 2304193 0), (4, .bptr 2304257 0), (13, .sl .p (d.preds.map prdV)), (14, .int .i64 d.preds.length), (15, .int .i64 k)]
abbrev liE2 (d : Dom) (k : Nat) : List (Nat × V) := [(1, .bptr 2304065 0), (3, .bptr 2304193 0), (4, .bptr 2304257 0), (5, .bptr 2304321 0), (6, .bptr 2304386 0), (13, .sl .p (d.preds.map prdV)), (14, .int .i64 d.preds.length), (15, .int .i64 k)]
theorem f_literals (d : Dom) (hd : DomV d) : Fc Go.Proofs.Tryz.prog 36 [grP d (fluL d) (denL d)] (.sl .p ((factL d).map litV)) := by
  have hpl := hd.pl
  refine Fn.step mixed k_ground_grounder_literals ?_
  repeat (first | refine i_s rfl ?_ | refine sw ?_ | refine i_alloc rfl ?_ | refine i_box rfl rfl ?_)
  refine c_nvs rfl rfl rfl ?_
  refine c_nvs rfl rfl rfl ?_
  repeat (first | refine i_len rfl ?_ | refine i_s rfl ?_ | refine sw ?_)
  refine c_for d.preds.length (fun k => liE d k) (fun k => liS d (posK d k) (negK d k)) (fun _ => True) trivial ft fun k hk _ => ?_
  by_cases hlt : k < d.preds.length
  · obtain ⟨x, hx⟩ := get_some hlt
    have hv := prdVal_of hd hx
    have hxt := hv.types.1
    have hCh := f_ground_choices d x.types
    have hfl : (fluL d)[(k : Int).toNat]? = some (fluB d (k : Int)) := by rw [Int.toNat_natCast, flags_get hlt]; rfl
    have hdn : (denL d)[(k : Int).toNat]? = some (denB d (k : Int)) := by rw [Int.toNat_natCast, flags_get hlt]; rfl
    have hp0 := Nat.le_trans (posK_len d k) (atomsK_4096 hd hk)
    have hm0 := Nat.le_trans (negK_len d k) (atomsK_4096 hd hk)
    cases hfb : fluB d (k : Int) with
    | false =>
      rw [hfb] at hfl
      have e1 : posK d (k + 1) = posK d k := by rw [posK_succ, hfb]; simp
      have e2 : negK d (k + 1) = negK d k := by rw [negK_succ, hfb]; simp
      clear hdn hCh
      repeat' (first | refine i_s rfl ?_ | refine sw ?_ | refine c_t rfl ?_ | refine ja rfl rfl ?_ | refine jd rfl rfl ?_ | refine i_stb rfl ?_ | refine i_alloc rfl ?_ | refine c_cond rfl (fun h => ?_) (fun h => ?_))
      all_goals first
        | (exfalso; simp at *; done)
        | (exfalso; simp at *; omega)
        | skip
      refine e_for hlt trivial ⟨⟨rfl, rfl, rfl, rfl, rfl, rfl, trivial⟩, ⟨rfl, ?_, ?_, ?_, ?_, trivial⟩, rfl⟩
      · rw [e1]; rfl
      · rw [e2]; rfl
      · rw [e1]; rfl
      · rw [e2]; rfl
    | true =>
      rw [hfb] at hfl
      have hal := argL_512 hd.ty.ol hxt
      have e1 : posK d (k + 1) = posK d k ++ (argL d x.types).map fun a => ⟨false, ⟨k, a⟩⟩ := by
        rw [posK_succ, hfb, if_pos rfl, predAt_some hx, List.map_map]; rfl
      have e2 : negK d (k + 1) = negK d k ++ if denB d (k : Int) = true then (argL d x.types).map (fun a => ⟨true, ⟨k, a⟩⟩) else [] := by
        rw [negK_succ, hfb, predAt_some hx, List.map_map]
        congr 1
        simp only [true_and]
        rfl
      repeat' (first | refine i_s rfl ?_ | refine sw ?_ | refine c_f rfl ?_ | refine jd rfl rfl ?_ | refine i_stb rfl ?_ | refine i_alloc rfl ?_ | refine c_cond rfl (fun h => ?_) (fun h => ?_) | refine sf rfl rfl hCh ?_ | fail)
      all_goals first
        | (exfalso; simp at *; done)
        | (exfalso; simp at *; omega)
        | skip
      refine c_rangeS (liE2 d k) (liS2 d k x (posK d k) (negK d k)) [2304065, 2304193, 2304257, 2304321, 2304386, 2305923, 2306563]
        [] (liS2 d k x (posK d k) (negK d k)) rfl ft rfl rfl rfl rfl ?_
      clear hCh
      refine Cc_mono ?_ (ct_choices_1 d hd.ty x.types (by omega) _ (fun st => st = (stOf (liS2 d k x (posK d k ++ (argL d x.types).map fun a => ⟨false, ⟨k, a⟩⟩) (negK d k ++ if denB d (k : Int) = true then (argL d x.types).map (fun a => ⟨true, ⟨k, a⟩⟩) else [])), (), none)) ?_)
      · rintro _ σ' st ⟨rfl, rfl⟩
        refine ⟨rfl, ?_⟩
        show WE _ _ _ _ _ .normal _ _ _
        repeat (first | refine i_s rfl ?_ | refine sw ?_ | refine ja rfl rfl ?_)
        refine e_for hlt trivial ⟨⟨rfl, rfl, rfl, rfl, rfl, rfl, trivial⟩, ⟨rfl, ?_, ?_, ?_, ?_, trivial⟩, rfl⟩
        · rw [e1]; rfl
        · rw [e2]; rfl
        · rw [e1]; rfl
        · rw [e2]; rfl
      · have e0 : liS2 d k x (posK d k) (negK d k) = liS2 d k x (posK d k ++ ((argL d x.types).take 0).map (fun a => (⟨false, ⟨k, a⟩⟩ : Lit))) (negK d k ++ if denB d (k : Int) = true then ((argL d x.types).take 0).map (fun a => (⟨true, ⟨k, a⟩⟩ : Lit)) else []) := by
          have h1 : posK d k ++ ((argL d x.types).take 0).map (fun a => (⟨false, ⟨k, a⟩⟩ : Lit)) = posK d k := by simp
          have h2 : (negK d k ++ if denB d (k : Int) = true then ((argL d x.types).take 0).map (fun a => (⟨true, ⟨k, a⟩⟩ : Lit)) else []) = negK d k := by simp
          rw [h1, h2]
        rw [e0]
        refine YL_walk (f := fun a : List Int => [V.sl .p (a.map i64V)]) (RHm noH_mono) (fun j => (stOf (liS2 d k x (posK d k ++ ((argL d x.types).take j).map (fun a => (⟨false, ⟨k, a⟩⟩ : Lit))) (negK d k ++ if denB d (k : Int) = true then ((argL d x.types).take j).map (fun a => (⟨true, ⟨k, a⟩⟩ : Lit)) else [])), (), none)) (argL d x.types) 0 (fun i c hc K' hk => ?_) ?_
        · rw [Nat.zero_add] at hk ⊢
          have hil := get_lt hc
          have ht := take_succ_get hc
          obtain ⟨P, hP⟩ : ∃ P, P = posK d k ++ ((argL d x.types).take i).map (fun a => (⟨false, ⟨k, a⟩⟩ : Lit)) := ⟨_, rfl⟩
          have hPl : P.length ≤ 5000 := by rw [hP]; simp; omega
          have eP : posK d k ++ ((argL d x.types).take (i + 1)).map (fun a => (⟨false, ⟨k, a⟩⟩ : Lit)) = P ++ [⟨false, ⟨k, c⟩⟩] := by rw [ht, List.map_append, ← List.append_assoc, ← hP]; rfl
          have lP : (P ++ [(⟨false, ⟨k, c⟩⟩ : Lit)]).length = P.length + 1 := by simp
          simp only [eP] at hk
          simp only [← hP]
          cases hdb : denB d (k : Int) with
          | false =>
            rw [hdb] at hdn
            simp only [hdb, Bool.false_eq_true, if_false, List.append_nil] at hk ⊢
            clear ht hP eP e1 e2 e0 hc
            generalize negK d k = M at *
            refine rh_intro noH_mono rfl ?_
            repeat (first | refine i_s rfl ?_ | refine sw ?_)
            refine e_end ?_
            show WC _ _ _ _ [] _ _ _ _
            repeat (first | refine i_s rfl ?_ | refine sw ?_ | refine i_stb rfl ?_ | refine i_alloc rfl ?_)
            refine i_appM (c := (⟨false, ⟨k, c⟩⟩ : Lit)) rfl rfl rfl rfl rfl (by omega) (by omega) ?_
            repeat' (first | refine i_s rfl ?_ | refine sw ?_ | refine c_f rfl ?_ | refine jd rfl rfl ?_ | refine i_stb rfl ?_)
            all_goals first
              | (exfalso; simp at *; done)
              | skip
            refine e_end ?_
            refine rhq_n rfl rfl ?_
            simp only [liS2, lP] at hk
            exact hk
          | true =>
            rw [hdb] at hdn
            simp only [hdb, if_true] at hk ⊢
            obtain ⟨M, hM⟩ : ∃ M, M = negK d k ++ ((argL d x.types).take i).map (fun a => (⟨true, ⟨k, a⟩⟩ : Lit)) := ⟨_, rfl⟩
            have hMl : M.length ≤ 5000 := by rw [hM]; simp; omega
            have eM : negK d k ++ ((argL d x.types).take (i + 1)).map (fun a => (⟨true, ⟨k, a⟩⟩ : Lit)) = M ++ [⟨true, ⟨k, c⟩⟩] := by rw [ht, List.map_append, ← List.append_assoc, ← hM]; rfl
            have lM : (M ++ [(⟨true, ⟨k, c⟩⟩ : Lit)]).length = M.length + 1 := by simp
            simp only [eM] at hk
            simp only [← hM]
            clear ht hP eP hM eM e1 e2 e0 hc
            refine rh_intro noH_mono rfl ?_
            repeat (first | refine i_s rfl ?_ | refine sw ?_)
            refine e_end ?_
            show WC _ _ _ _ [] _ _ _ _
            repeat (first | refine i_s rfl ?_ | refine sw ?_ | refine i_stb rfl ?_ | refine i_alloc rfl ?_)
            refine i_appM (c := (⟨false, ⟨k, c⟩⟩ : Lit)) rfl rfl rfl rfl rfl (by omega) (by omega) ?_
            repeat' (first | refine i_s rfl ?_ | refine sw ?_ | refine c_t rfl ?_ | refine jd rfl rfl ?_ | refine i_stb rfl ?_)
            all_goals first
              | (exfalso; simp at *; done)
              | skip
            refine i_appM (c := (⟨true, ⟨k, c⟩⟩ : Lit)) rfl rfl rfl rfl rfl (by omega) (by omega) ?_
            repeat' (first | refine sw ?_ | refine i_stb rfl ?_)
            refine e_end ?_
            refine rhq_n rfl rfl ?_
            simp only [liS2, lP, lM] at hk
            exact hk
        · rw [Nat.zero_add, List.take_length]
  have hge : k = d.preds.length := by omega
  subst hge
  have hp0 := Nat.le_trans (posK_len d d.preds.length) (atomsK_4096 hd (Nat.le_refl _))
  have hm0 := Nat.le_trans (negK_len d d.preds.length) (atomsK_4096 hd (Nat.le_refl _))
  repeat' (first | refine i_s rfl ?_ | refine sw ?_ | refine c_cond rfl (fun h => ?_) (fun h => ?_))
  all_goals first
    | (exfalso; simp at *; done)
    | (exfalso; simp at *; omega)
    | skip
  refine i_app rfl rfl rfl (by simp) rfl (fun row hrow => ?_) (by simp; omega) (by simp; omega) ?_
  · obtain ⟨y, _, rfl⟩ := List.mem_map.1 hrow
    exact ⟨rfl, rfl⟩
  repeat (first | refine i_s rfl ?_ | refine sw ?_)
  refine e_ret ⟨rfl, _, rfl, ?_⟩
  unfold factL
  rw [List.map_append]
  rfl
abbrev gZn : V := .agg [.int .i64 0, .sl .nil [], .sl .nil [], .sl .nil [], .sl .nil [], .sl .nil []]
def c_ground_copied : Cmd :=
 (qS [qx 1 5248070 6 0, qq 2 (.alloc 5248134 (.agg [.int .i64 0, .sl .nil [], .sl .nil [], .sl .nil [], .sl .nil [], .sl .nil []]))]
 (qS [qq 3 (.newVec 5248195)]
 (.seq (qS [qf 6 4 1, ql 7 1 6, qn 8 7, qc 9 0]
 (.block 0 (.loop (qS [qu 10 .lss [] 9 8]
 (qT (.cond (.t 10) .skip (.exit 0))
 (qT (.block 1 (qS [qi 11 3 7 9, qL 12 3 11, qq 5 (.alloc 5248323 (.agg [.bool false, .int .i64 0, .sl .nil []])), qs 3 5 12]
 (.ops [qm 13 3, qf 14 0 5, ql 15 1 14, qf 16 1 5, qf 17 0 16, ql 18 1 17, qf 19 1 5, qf 20 1 19, ql 21 1 20, qk 22 77 [21], qq 23 (.build [.int .i64 0, .sl .nil []] [(0 , 1 , .t 18), (1 , 1 , .t 22)]), qq 24 (.build [.bool false, .int .i64 0, .sl .nil []] [(0 , 1 , .t 15), (1 , 2 , .t 23)]), qq 25 (.bsl 3 [.t 24]), qq 26 (.append 3 40 54 (.t 13) (.t 25)), qm 3 26])))
 (.ops [qv 27 .add [] 9 1, qm 9 27]))))))) (qT (.frz 3)
 (qS [qm 28 3, qf 29 4 1, qs 1 29 28]
 (.seq (.ops [qL 30 6 1, qs 6 2 30]) .ret))))))
def r_ground_copied : List RVar := [.cell true 6 2]
def n_ground_copied : Nat := 31
theorem k_ground_copied : chkFn Go.Proofs.Tryz.prog 82 n_ground_copied r_ground_copied c_ground_copied = true := by kernel_rfl
theorem f_copied (g : Grd) (hf : GFOk g.facts) : Fc Go.Proofs.Tryz.prog 82 [grdV g] (grdV g) := by
  have hfl := hf.len
  refine Fn.step mixed k_ground_copied ?_
  repeat (first | refine i_len rfl ?_ | refine i_s rfl ?_ | refine sw ?_ | refine i_alloc rfl ?_ | refine i_box rfl rfl ?_ | refine i_nv rfl ?_)
  refine c_for g.facts.length (fun k => [(1, .bptr 5248070 0), (2, .bptr 5248134 0), (3, .sl (.own 5248195) ((g.facts.take k).map litV)), (7, .sl .p (g.facts.map litV)), (8, .int .i64 g.facts.length), (9, .int .i64 k)])
    (fun k => [(5248070, .box (grdV g)), (5248134, .box gZn), (5248195, .vec (g.facts.take k).length)]) (fun _ => True) trivial ft fun k hk _ => ?_
  by_cases hlt : k < g.facts.length
  · obtain ⟨x, hx⟩ := get_some hlt
    have hC := f_slices_Clone_int x.at_.args (hf.ok x (mem_get hx)).len
    have l1 : (g.facts.take k).length = k := by simp; omega
    have e1 : g.facts.take (k + 1) = g.facts.take k ++ [x] := take_succ_get hx
    repeat' (first | refine i_s rfl ?_ | refine sw ?_ | refine jd rfl rfl ?_ | refine i_stb rfl ?_ | refine i_alloc rfl ?_ | refine c_cond rfl (fun h => ?_) (fun h => ?_) | refine sf rfl rfl hC ?_ | fail)
    all_goals first
      | (exfalso; clear hC; simp at *; done)
      | (exfalso; clear hC; simp at *; omega)
      | skip
    refine i_appM (c := x) rfl rfl rfl rfl rfl (by omega) (by omega) ?_
    repeat (first | refine i_s rfl ?_ | refine sw ?_ | refine ja rfl rfl ?_)
    refine e_for hlt trivial ⟨⟨rfl, rfl, ?_, rfl, rfl, rfl, trivial⟩, ⟨rfl, rfl, ?_, trivial⟩, rfl⟩
    · rw [e1]; rfl
    · rw [e1]; simp; rfl
  have hge : k = g.facts.length := by omega
  subst hge
  rw [List.take_length]
  repeat' (first | refine i_s rfl ?_ | refine sw ?_ | refine c_cond rfl (fun h => ?_) (fun h => ?_))
  all_goals first
    | (exfalso; simp at *; done)
    | (exfalso; simp at *; omega)
    | skip
  refine c_frzv rfl rfl ?_
  repeat' (first | refine i_s rfl ?_ | refine sw ?_ | refine i_stb rfl ?_)
  all_goals exact e_ret ⟨rfl, _, rfl, rfl⟩
def c_ground_grounder_build : Cmd :=
 (qS [qq 6 (.alloc 2240390 (.agg [.int .i64 0, .sl .nil [], .sl .nil [], .sl .nil [], .sl .nil [], .sl .nil []])), qq 7 (.alloc 2240450 (.agg [.int .i64 0, .int .i64 0]))]
 (qT (qS [qm 14 1, qn 15 14, qv 16 .gtr [] 15 24, qm 17 16, qg 18 17 false (.mov (.t 2)), qg 19 17 false (.len false (.t 18)), qg 20 17 false (.bin .gtr false [] (.t 19) (.c (.int .i64 40))), qq 21 (.pick (.t 17) (.c (.bool true)) (.t 20))]
 (.cond (.t 21) (.seq (.ops [qq 22 (.build [.int .i64 0, .sl .nil [], .sl .nil [], .sl .nil [], .sl .nil [], .sl .nil []] []), qq 23 (.build [.int .i64 0, .int .i64 0] [(0 , 1 , .c (.int .i64 10)), (1 , 1 , .c (.int .i64 (-8)))]), qs 6 6 22, qs 2 7 23]) .ret) .skip))
 (.seq (.ops [qm 24 1, qn 25 24, qm 26 1, qm 27 0, qq 28 (.nilck (.t 27)), qf 29 0 28, qf 30 5 29, ql 31 1 30, qk 32 43 [26, 31], qq 33 (.build [.int .i64 0, .sl .nil [], .sl .nil [], .sl .nil []] [(0 , 1 , .t 25), (2 , 1 , .t 32)]), qm 34 1, qq 35 (.build [.int .i64 0, .sl .nil [], .sl .nil [], .sl .nil [], .sl .nil [], .sl .nil []] [(0 , 4 , .t 33), (4 , 1 , .t 34)]), qq 8 (.alloc 2240518 (.agg [.int .i64 0, .sl .nil [], .sl .nil [], .sl .nil [], .sl .nil [], .sl .nil []])), qs 6 8 35]) (.nvb 8 5 2245442 (.nvb 8 3 2245316 (.nvb 8 1 2245185 (.cut (qT (qS [qm 36 1, qn 37 36, qc 38 0]
 (.block 0 (.loop (qS [qu 39 .lss [] 38 37]
 (qT (.cond (.t 39) .skip (.exit 0))
 (qT (.block 1 (qS [qm 40 38, qi 41 3 36 38, qL 42 3 41, qq 10 (.alloc 2240643 (.agg [.bool false, .int .i64 0, .sl .nil []])), qm 9 40, qs 3 10 42]
 (qS [qm 43 0, qL 44 3 10, qk 45 42 [43, 44]]
 (.cond (.t 45) (.ops [qf 46 0 8, qf 47 1 46, ql 48 1 47, qm 49 9, qq 50 (.bsl 1 [.t 49]), qq 51 (.append 1 8 3 (.t 48) (.t 50)), qf 52 0 8, qf 53 1 52, qs 1 53 51]) .skip))))
 (.ops [qv 54 .add [] 38 1, qm 38 54])))))))
 (.seq (qS [qm 55 2, qn 56 55, qc 57 0]
 (.block 2 (.loop (qS [qu 58 .lss [] 57 56]
 (qT (.cond (.t 58) .skip (.exit 2))
 (qT (.block 3 (qS [qi 59 6 55 57, qL 60 6 59, qq 12 (.alloc 2240774 (.agg [.int .i64 0, .sl .nil [], .sl .nil [], .sl .nil [], .sl .nil [], .int .i64 0])), qs 6 12 60]
 (qS [qm 61 1, qf 62 2 12, ql 63 1 62, qk 64 43 [61, 63], qm 65 1, qf 66 3 12, ql 67 1 66, qk 68 43 [65, 67], qm 69 1, qf 70 4 12, ql 71 1 70, qk 72 43 [69, 71], qf 73 5 12, ql 74 1 73, qq 75 (.build [.sl .nil [], .sl .nil [], .sl .nil [], .int .i64 0] [(0 , 1 , .t 64), (1 , 1 , .t 68), (2 , 1 , .t 72), (3 , 1 , .t 74)]), qq 13 (.alloc 2240836 (.agg [.sl .nil [], .sl .nil [], .sl .nil [], .int .i64 0])), qs 4 13 75]
 (qS [qf 76 0 8, qf 77 3 76, ql 78 1 77, qL 79 4 13, qq 80 (.bsl 4 [.t 79]), qq 81 (.append 4 80 75 (.t 78) (.t 80)), qf 82 0 8, qf 83 3 82, qs 1 83 81]
 (.ops [qf 84 5 8, ql 85 1 84, qf 86 0 12, qL 87 2 86, qq 88 (.bsl 2 [.t 87]), qq 89 (.append 2 32 86 (.t 85) (.t 88)), qf 90 5 8, qs 1 90 89])))))
 (.ops [qv 91 .add [] 57 1, qm 57 91]))))))) (.fzb 8 5 (.fzb 8 3 (.fzb 8 1 (.cut (.seq (.ops [qL 92 6 8, qk 93 82 [92], qq 94 (.build [.int .i64 0, .int .i64 0] []), qs 6 6 93, qs 2 7 94]) .ret))))))))))))))
def r_ground_grounder_build : List RVar := [.cell true 6 6, .cell true 2 7]
def n_ground_grounder_build : Nat := 95
theorem k_ground_grounder_build : chkFn Go.Proofs.Tryz.prog 35 n_ground_grounder_build r_ground_grounder_build c_ground_grounder_build = true := by kernel_rfl
abbrev buR (d : Dom) (F : List Lit) (I : List Int) (O : List SOp) (N : List (Nat × List Int)) : V := .agg [.int .i64 F.length, .sl (.own 2245185) (I.map i64V), .sl .p ((nums F d.goal).map i64V), .sl (.own 2245316) (O.map soV), .sl .p (F.map litV), .sl (.own 2245442) (N.map insV)]
abbrev buS (d : Dom) (F : List Lit) (I : List Int) (O : List SOp) (N : List (Nat × List Int)) : List (Nat × Blk) := [(2240390, .box gZn), (2240450, .box (ftV okF)), (2240518, .box (buR d F I O N)), (2245185, .vec I.length), (2245316, .vec O.length), (2245442, .vec N.length)]
theorem f_build (d : Dom) (hd : DomV d) (ho : DoOk d) (F : List Lit) (L : List Ac) (hF : GFOk F) (hLl : L.length ≤ 1000000) (hL : ∀ a ∈ L, ActOk a) :
    Fc Go.Proofs.Tryz.prog 35 [grP d (fluL d) (denL d), .sl .p (F.map litV), .sl .p (L.map acV)] (.tup [grdV (buildG d F L), ftV (buildF F L)]) := by
  have hFl := hF.len
  cases hb : bigG F L with
  | true =>
    have e1 : buildG d F L = grZ := by unfold buildG; rw [if_pos hb]
    have e2 : buildF F L = ⟨10, -8⟩ := by unfold buildF; rw [if_pos hb]
    rw [e1, e2]
    have hbig := bigG_yes hb
    clear e1 e2 hb
    refine Fn.step mixed k_ground_grounder_build ?_
    repeat' (first | refine i_len rfl ?_ | refine i_s rfl ?_ | refine sw ?_ | refine i_gt rfl ?_ | refine i_gf rfl ?_ | refine c_t rfl ?_ | refine i_stb rfl ?_ | refine i_alloc rfl ?_ | (refine sp ?_ ?_ <;> try intro h) | fail)
    all_goals first
      | exact e_ret ⟨rfl, _, rfl, rfl⟩
      | (exfalso; simp at *; done)
      | (exfalso; simp at *; omega)
  | false =>
    have e1 : buildG d F L = grdOf d F L := by unfold buildG; rw [if_neg (by rw [hb]; simp)]
    have e2 : buildF F L = okF := by unfold buildF; rw [if_neg (by rw [hb]; simp)]
    rw [e1, e2]
    obtain ⟨n24, n40⟩ := bigG_no hb
    clear e1 e2 hb
    have hG := f_index F d.goal hFl (by have := ho.goal.1; omega) hF.ok ho.goal.2
    refine Fn.step mixed k_ground_grounder_build ?_
    repeat' (first | refine i_len rfl ?_ | refine i_s rfl ?_ | refine sw ?_ | refine i_gt rfl ?_ | refine i_gf rfl ?_ | refine c_t rfl ?_ | refine i_stb rfl ?_ | refine i_alloc rfl ?_ | (refine sp ?_ ?_ <;> try intro h) | refine sf rfl rfl hG ?_ | fail)
    all_goals first
      | (exfalso; clear hG; simp at *; done)
      | (exfalso; clear hG; simp at *; omega)
      | skip
    refine c_nvb rfl rfl rfl rfl ?_
    refine c_nvb rfl rfl rfl rfl ?_
    refine c_nvb rfl rfl rfl rfl ?_
    clear hG
    repeat' (first | refine i_len rfl ?_ | refine i_s rfl ?_ | refine sw ?_ | fail)
    refine c_for F.length (fun k => [(0, grP d (fluL d) (denL d)), (1, .sl .p (F.map litV)), (2, .sl .p (L.map acV)), (6, .bptr 2240390 0), (7, .bptr 2240450 0), (8, .bptr 2240518 0), (36, .sl .p (F.map litV)), (37, .int .i64 F.length), (38, .int .i64 k)])
      (fun k => buS d F (selK (trueAt d F) k) [] []) (fun _ => True) trivial ft fun k hk _ => ?_
    have hkl := selK_len (trueAt d F) k
    by_cases hlt : k < F.length
    · obtain ⟨x, hx⟩ := get_some hlt
      have hI := f_initially d (fluL d) (denL d) (by have := ho.init.1; omega) ho.init.2 x (hF.ok x (mem_get hx))
      have hin : trueAt d F k = trueL d x := by unfold trueAt; rw [hx]
      have hs := selK_succ (trueAt d F) k
      rw [hin] at hs
      cases ht : trueL d x with
      | true =>
        rw [ht] at hI hs
        rw [if_pos rfl] at hs
        repeat' (first | refine i_len rfl ?_ | refine i_s rfl ?_ | refine sw ?_ | refine c_t rfl ?_ | refine jd rfl rfl ?_ | refine i_stb rfl ?_ | refine i_alloc rfl ?_ | refine c_cond rfl (fun h => ?_) (fun h => ?_) | refine sf rfl rfl hI ?_ | fail)
        all_goals first
          | (exfalso; clear hI; simp at *; done)
          | (exfalso; clear hI; simp at *; omega)
          | skip
        refine i_appM (c := (k : Int)) rfl rfl rfl rfl rfl (by omega) (by omega) ?_
        repeat' (first | refine i_s rfl ?_ | refine sw ?_ | refine ja rfl rfl ?_ | refine i_stb rfl ?_)
        refine e_for hlt trivial ⟨⟨rfl, rfl, rfl, rfl, rfl, rfl, rfl, rfl, rfl, trivial⟩, ⟨rfl, rfl, ?_, ?_, rfl, rfl, trivial⟩, rfl⟩
        · rw [hs]; rfl
        · rw [hs]; simp; rfl
      | false =>
        rw [ht] at hI hs
        rw [if_neg (by simp), List.append_nil] at hs
        repeat' (first | refine i_len rfl ?_ | refine i_s rfl ?_ | refine sw ?_ | refine c_f rfl ?_ | refine ja rfl rfl ?_ | refine jd rfl rfl ?_ | refine i_stb rfl ?_ | refine i_alloc rfl ?_ | refine c_cond rfl (fun h => ?_) (fun h => ?_) | refine sf rfl rfl hI ?_ | fail)
        all_goals first
          | (exfalso; clear hI; simp at *; done)
          | (exfalso; clear hI; simp at *; omega)
          | skip
        refine e_for hlt trivial ⟨⟨rfl, rfl, rfl, rfl, rfl, rfl, rfl, rfl, rfl, trivial⟩, ⟨rfl, rfl, ?_, ?_, rfl, rfl, trivial⟩, rfl⟩
        · rw [hs]; rfl
        · rw [hs]; rfl
    have hge : k = F.length := by omega
    subst hge
    clear hkl
    repeat' (first | refine i_len rfl ?_ | refine i_s rfl ?_ | refine sw ?_ | refine c_cond rfl (fun h => ?_) (fun h => ?_))
    all_goals first
      | (exfalso; simp at *; done)
      | (exfalso; simp at *; omega)
      | skip
    refine c_for L.length (fun k => [(1, .sl .p (F.map litV)), (6, .bptr 2240390 0), (7, .bptr 2240450 0), (8, .bptr 2240518 0), (55, .sl .p (L.map acV)), (56, .int .i64 L.length), (57, .int .i64 k)])
      (fun k => buS d F (initOf d F) ((L.take k).map (opOf F)) ((L.take k).map fun a => (a.sch, a.args))) (fun _ => True) trivial ft fun k hk _ => ?_
    by_cases hlt : k < L.length
    · obtain ⟨a, hx⟩ := get_some hlt
      have hao := hL a (mem_get hx)
      have hP := f_index F a.pre hFl (by have := hao.pre.len; omega) hF.ok hao.pre.ok
      have hA := f_index F a.add hFl (by have := hao.add.len; omega) hF.ok hao.add.ok
      have hD := f_index F a.del hFl (by have := hao.del.len; omega) hF.ok hao.del.ok
      have l1 : ((L.take k).map (opOf F)).length ≤ k := by simp; omega
      have l2 : ((L.take k).map fun a => (a.sch, a.args)).length ≤ k := by simp; omega
      have e1 : (L.take (k + 1)).map (opOf F) = (L.take k).map (opOf F) ++ [opOf F a] := by rw [take_succ_get hx, List.map_append]; rfl
      have e2 : (L.take (k + 1)).map (fun a => (a.sch, a.args)) = (L.take k).map (fun a => (a.sch, a.args)) ++ [(a.sch, a.args)] := by rw [take_succ_get hx, List.map_append]; rfl
      clear hao
      repeat' (first | refine i_s rfl ?_ | refine sw ?_ | refine jd rfl rfl ?_ | refine i_stb rfl ?_ | refine i_alloc rfl ?_ | refine c_cond rfl (fun h => ?_) (fun h => ?_) | refine sf rfl rfl hP ?_ | refine sf rfl rfl hA ?_ | refine sf rfl rfl hD ?_ | fail)
      all_goals first
        | (exfalso; clear hP hA hD; simp at *; done)
        | (exfalso; clear hP hA hD; simp at *; omega)
        | skip
      refine i_appM (c := opOf F a) rfl rfl rfl rfl rfl (by omega) (by omega) ?_
      repeat' (first | refine i_s rfl ?_ | refine sw ?_ | refine i_stb rfl ?_)
      refine i_appM (c := (a.sch, a.args)) rfl rfl rfl rfl rfl (by omega) (by omega) ?_
      repeat' (first | refine i_s rfl ?_ | refine sw ?_ | refine ja rfl rfl ?_ | refine i_stb rfl ?_)
      refine e_for hlt trivial ⟨⟨rfl, rfl, rfl, rfl, rfl, rfl, rfl, trivial⟩, ⟨rfl, rfl, ?_, rfl, ?_, ?_, trivial⟩, rfl⟩
      · rw [e1, e2]; rfl
      · rw [e1]; simp; rfl
      · rw [e2]; simp; rfl
    have hge : k = L.length := by omega
    subst hge
    rw [List.take_length]
    have hC := f_copied (grdOf d F L) hF
    repeat' (first | refine i_s rfl ?_ | refine sw ?_ | refine c_cond rfl (fun h => ?_) (fun h => ?_))
    all_goals first
      | (exfalso; clear hC; simp at *; done)
      | (exfalso; clear hC; simp at *; omega)
      | skip
    refine c_fzb rfl rfl rfl rfl ?_
    refine c_fzb rfl rfl rfl rfl ?_
    refine c_fzb rfl rfl rfl rfl ?_
    repeat' (first | refine i_s rfl ?_ | refine sw ?_ | refine i_stb rfl ?_ | refine sf rfl rfl hC ?_ | fail)
    exact e_ret ⟨rfl, _, rfl, rfl⟩
end Hm
end
section
namespace Hm
open Go
theorem f_Ints_eq (xs : List Int) (hl : xs.length ≤ 140737488355328) : Fc Go.Proofs.Tryz.prog 50 [.sl .p (xs.map i64V), .sl .p (xs.map i64V)] (.bool true) := by
  have := f_R1_Ints xs xs hl
  simpa using this
end Hm
end
