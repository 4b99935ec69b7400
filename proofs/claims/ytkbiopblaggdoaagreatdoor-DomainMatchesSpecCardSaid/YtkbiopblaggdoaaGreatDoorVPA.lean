/- Part VPA of the proof. -/
import Derived.Test.YtkbiopblaggdoaaGreatDoorVC
import Derived.Test.YtkbiopblaggdoaaGreatDoorProg
import Derived.ProofKit
set_option linter.unusedVariables false
set_option linter.unusedSimpArgs false
section
namespace Hm
open Go
noncomputable abbrev PG : Program := Go.Proofs.Tryz.prog
theorem mixed : Go.Proofs.Tryz.prog.follows .mixedOrders = true := by kernel_rfl
end Hm
end
section
namespace Hm
open Go
set_option maxRecDepth 100000
set_option maxHeartbeats 1000000
def c_R1_In : Cmd :=
 (qS [qb 6 false]
 (.seq (.ops [qm 7 0, qm 8 1, qu 9 .geq [] 7 8, qm 10 9, qg 11 10 true (.mov (.t 0)), qg 12 10 true (.mov (.t 2)), qg 13 10 true (.bin .leq false [] (.t 11) (.t 12)), qq 14 (.pick (.t 10) (.t 13) (.c (.bool false))), qm 6 14]) .ret))
def r_R1_In : List RVar := [.tmp 6]
def n_R1_In : Nat := 15
theorem k_R1_In : chkFn PG 17 n_R1_In r_R1_In c_R1_In = true := by kernel_rfl
theorem f_R1_In (x lo hi : Int) : Fc PG 17 [.int .i64 x, .int .i64 lo, .int .i64 hi] (.bool (decide (lo ≤ x) && decide (x ≤ hi))) := by
 refine Fn.step mixed k_R1_In ?_
 repeat' (first | refine i_s rfl ?_ | refine sw ?_ | refine i_gt rfl ?_ | refine i_gf rfl ?_ | refine i_g rfl (fun h => ?_) (fun h => ?_))
 all_goals refine e_ret ⟨rfl, _, rfl, congrArg V.bool ?_⟩
 · have := of_decide_eq_true h; simp; omega
 · have := of_decide_eq_false h; simp; omega
def c_R1_At : Cmd :=
 (qS [qq 4 (.alloc 1280258 (.agg [.int .i64 0, .int .i64 0]))]
 (.seq (.ops [qm 5 0, qm 6 1, qq 7 (.build [.int .i64 0, .int .i64 0] [(0 , 1 , .t 5), (1 , 1 , .t 6)]), qs 2 4 7]) .ret))
def r_R1_At : List RVar := [.cell true 2 4]
def n_R1_At : Nat := 8
theorem k_R1_At : chkFn PG 20 n_R1_At r_R1_At c_R1_At = true := by kernel_rfl
theorem f_R1_At (c i : Int) : Fc PG 20 [.int .i64 c, .int .i64 i] (.agg [.int .i64 c, .int .i64 i]) := by
 refine Fn.step mixed k_R1_At ?_
 repeat' (first | refine i_s rfl ?_ | refine sw ?_ | refine i_stb rfl ?_ | refine i_alloc rfl ?_)
 exact e_ret ⟨rfl, _, rfl, rfl⟩
def c_R1_Has : Cmd :=
 (qS [qb 4 false]
 (qT (qS [qc 5 0]
 (.block 0 (.loop (qT (qS [qm 6 5, qm 7 0, qn 8 7, qu 9 .lss [] 6 8]
 (.cond (.t 9) .skip (.exit 0)))
 (qT (.block 1 (qS [qm 12 0, qm 13 5, qi 14 1 12 13, ql 15 1 14, qm 16 1, qu 17 .eql [.i] 15 16]
 (.cond (.t 17) (.seq (.ops [qb 4 true]) .ret) .skip)))
 (.ops [qm 10 5, qv 11 .add [] 10 1, qm 5 11]))))))
 (.seq (.ops [qb 4 false]) .ret)))
def r_R1_Has : List RVar := [.tmp 4]
def n_R1_Has : Nat := 18
theorem k_R1_Has : chkFn PG 156 n_R1_Has r_R1_Has c_R1_Has = true := by kernel_rfl
theorem f_R1_Has (xs : List Int) (n : Int) (hl : xs.length ≤ 140737488355328) : Fc PG 156 [.sl .p (xs.map i64V), .int .i64 n] (.bool (decide (n ∈ xs))) := by
 refine Fn.step mixed k_R1_Has ?_
 repeat (first | refine i_s rfl ?_ | refine sw ?_)
 refine c_for xs.length (fun k => [(0, .sl .p (xs.map i64V)), (1, .int .i64 n), (5, .int .i64 k)]) (fun _ => []) (fun k => n ∉ xs.take k) (by simp) ft fun k hk hi => ?_
 repeat (first | refine i_len rfl ?_ | refine i_s rfl ?_ | refine sw ?_)
 refine c_cond rfl (fun h => ?_) (fun h => ?_)
 · have hlt : k < xs.length := by simpa using h
   obtain ⟨c, hc⟩ := get_some hlt
   repeat' (first | refine i_s rfl ?_ | refine sw ?_ | refine ja rfl rfl ?_ | refine jd rfl rfl ?_ | refine c_cond rfl (fun h => ?_) (fun h => ?_))
   · refine e_ret ⟨rfl, _, rfl, congrArg V.bool ?_⟩
     have e : c = n := by simpa using h
     exact decide_eq_true (e ▸ mem_get hc)
   · refine e_for hlt ?_ ft
     have e : c ≠ n := by simpa using h
     rw [take_succ_get hc, List.mem_append]
     simp [hi, Ne.symm e]
 · have hge : ¬ k < xs.length := by simpa using h
   rw [List.take_of_length_le (by omega)] at hi
   repeat' (first | refine i_s rfl ?_ | refine sw ?_ | fail)
   exact e_ret ⟨rfl, _, rfl, congrArg V.bool (decide_eq_false hi)⟩
def c_R1_Ints : Cmd :=
 (qS [qb 4 false]
 (qT (qS [qm 6 0, qn 7 6, qm 8 1, qn 9 8, qu 10 .neq [.i] 7 9]
 (.cond (.t 10) (.seq (.ops [qb 4 false]) .ret) .skip))
 (qT (qS [qc 5 0]
 (.block 0 (.loop (qT (qS [qm 11 5, qm 12 0, qn 13 12, qu 14 .lss [] 11 13]
 (.cond (.t 14) .skip (.exit 0)))
 (qT (.block 1 (qS [qm 17 0, qm 18 5, qi 19 1 17 18, ql 20 1 19, qm 21 1, qm 22 5, qi 23 1 21 22, ql 24 1 23, qu 25 .neq [.i] 20 24]
 (.cond (.t 25) (.seq (.ops [qb 4 false]) .ret) .skip)))
 (.ops [qm 15 5, qv 16 .add [] 15 1, qm 5 16]))))))
 (.seq (.ops [qb 4 true]) .ret))))
def r_R1_Ints : List RVar := [.tmp 4]
def n_R1_Ints : Nat := 26
theorem k_R1_Ints : chkFn PG 59 n_R1_Ints r_R1_Ints c_R1_Ints = true := by kernel_rfl
theorem f_R1_Ints (xs ys : List Int) (hl : xs.length ≤ 140737488355328) : Fc PG 59 [.sl .p (xs.map i64V), .sl .p (ys.map i64V)] (.bool (decide (xs = ys))) := by
 refine Fn.step mixed k_R1_Ints ?_
 repeat' (first | refine i_len rfl ?_ | refine i_s rfl ?_ | refine sw ?_ | refine c_cond rfl (fun h => ?_) (fun h => ?_))
 · have e : xs.length ≠ ys.length := by simp at h; omega
   refine e_ret ⟨rfl, _, rfl, congrArg V.bool (decide_eq_false fun e' => e (by rw [e']))⟩
 have e : xs.length = ys.length := by simp at h; omega
 refine c_for xs.length (fun k => [(0, .sl .p (xs.map i64V)), (1, .sl .p (ys.map i64V)), (5, .int .i64 k)]) (fun _ => []) (fun k => xs.take k = ys.take k) (by simp) ft fun k hk hi => ?_
 repeat (first | refine i_len rfl ?_ | refine i_s rfl ?_ | refine sw ?_)
 refine c_cond rfl (fun h => ?_) (fun h => ?_)
 · have hlt : k < xs.length := by simpa using h
   obtain ⟨c, hc⟩ := get_some hlt
   obtain ⟨c', hc'⟩ := get_some (e ▸ hlt)
   repeat' (first | refine i_s rfl ?_ | refine sw ?_ | refine ja rfl rfl ?_ | refine jd rfl rfl ?_ | refine c_cond rfl (fun h => ?_) (fun h => ?_))
   · refine e_ret ⟨rfl, _, rfl, congrArg V.bool (decide_eq_false fun e' => ?_)⟩
     subst e'
     rw [hc] at hc'
     cases hc'
     simp at h
   · refine e_for hlt ?_ ft
     have e : c = c' := by simpa using h
     rw [take_succ_get hc, take_succ_get hc', hi, e]
 · have hge : ¬ k < xs.length := by simpa using h
   rw [List.take_of_length_le (by omega), List.take_of_length_le (by omega)] at hi
   repeat' (first | refine i_s rfl ?_ | refine sw ?_ | fail)
   exact e_ret ⟨rfl, _, rfl, congrArg V.bool (decide_eq_true hi)⟩
end Hm
end
section
namespace Hm
open Go
set_option maxRecDepth 100000
set_option maxHeartbeats 4000000
theorem c_frzall {G : Type} {P : Program} {H : HT G} {pn : List Nat} {Q : Exit → Env → Store → G → Prop} {fs : List (Frm G)} {ρ : Env} {σ : Store} {g : G} {t nm gen gen' len : Nat} {rows : List V} (ht : ρ t = .msl nm gen 0 len) (hs : σ nm = .arr gen' rows) (hg : gen = gen') (hl : rows.length = len)
  (h : WE P H pn Q fs .normal (upd ρ t (.sl .p rows)) (ups σ nm .dead) g) : WC P H pn Q fs (.frz t) ρ σ g :=
 c_frza ht hs hg (by rw [List.drop_zero, List.take_of_length_le (by omega)]; exact h)
def c_cmp_isNaN_int : Cmd :=
 (qS [qb 2 false]
 (.seq (.ops [qm 3 0, qm 4 0, qu 5 .neq [.i] 3 4, qm 2 5]) .ret))
def r_cmp_isNaN_int : List RVar := [.tmp 2]
def n_cmp_isNaN_int : Nat := 6
theorem k_cmp_isNaN_int : chkFn PG 155 n_cmp_isNaN_int r_cmp_isNaN_int c_cmp_isNaN_int = true := by kernel_rfl
theorem f_isNaN_int (a : Int) : Fc PG 155 [.int .i64 a] (.bool false) := by
 refine Fn.step mixed k_cmp_isNaN_int ?_
 repeat' (first | refine i_s rfl ?_ | refine sw ?_ | fail)
 all_goals first
  | exact e_ret ⟨rfl, _, rfl, congrArg V.bool (by simp)⟩
def c_cmp_Compare_int : Cmd :=
 (qS [qc 4 0]
 (qS [qm 7 0, qk 8 155 [7], qm 5 8]
 (qS [qm 9 1, qk 10 155 [9], qm 6 10]
 (qT (qS [qm 11 5]
 (.cond (.t 11) (qT (qS [qm 12 6]
 (.cond (.t 12) (.seq (.ops [qc 4 0]) .ret) .skip))
 (.seq (.ops [qc 4 (-1)]) .ret)) .skip))
 (qT (qS [qm 13 6]
 (.cond (.t 13) (.seq (.ops [qc 4 1]) .ret) .skip))
 (qT (qS [qm 14 0, qm 15 1, qu 16 .lss [] 14 15]
 (.cond (.t 16) (.seq (.ops [qc 4 (-1)]) .ret) .skip))
 (qT (qS [qm 17 0, qm 18 1, qu 19 .gtr [] 17 18]
 (.cond (.t 19) (.seq (.ops [qc 4 1]) .ret) .skip))
 (.seq (.ops [qc 4 0]) .ret))))))))
def r_cmp_Compare_int : List RVar := [.tmp 4]
def n_cmp_Compare_int : Nat := 20
theorem k_cmp_Compare_int : chkFn PG 136 n_cmp_Compare_int r_cmp_Compare_int c_cmp_Compare_int = true := by kernel_rfl
theorem f_Compare_int (a b : Int) : Fc PG 136 [.int .i64 a, .int .i64 b] (.int .i64 (signI a b)) := by
 refine Fn.step mixed k_cmp_Compare_int ?_
 repeat' (first | refine i_s rfl ?_ | refine sw ?_ | refine c_f rfl ?_ | refine c_cond rfl (fun h => ?_) (fun h => ?_) | refine sf rfl rfl (f_isNaN_int a) ?_ | refine sf rfl rfl (f_isNaN_int b) ?_ | fail)
 all_goals first
  | (exfalso; simp at *; done)
  | (refine e_ret ⟨rfl, _, rfl, congrArg (V.int .i64) ?_⟩; unfold signI; simp at *; (repeat' split) <;> omega)
def c_cmp_Or_int : Cmd :=
 (qS [qc 2 0]
 (qS [qc 3 0]
 (qT (qS [qm 6 0, qn 7 6, qc 8 0]
 (.block 0 (.loop (qS [qu 9 .lss [] 8 7]
 (qT (.cond (.t 9) .skip (.exit 0))
 (qT (.block 1 (qS [qi 10 1 6 8, ql 11 1 10, qm 5 11]
 (qS [qm 12 5, qm 13 3, qu 14 .neq [.i] 12 13]
 (.cond (.t 14) (.seq (.ops [qm 15 5, qm 2 15]) .ret) .skip))))
 (.ops [qv 16 .add [] 8 1, qm 8 16])))))))
 (.seq (.ops [qm 17 3, qm 2 17]) .ret))))
def r_cmp_Or_int : List RVar := [.tmp 2]
def n_cmp_Or_int : Nat := 18
theorem k_cmp_Or_int : chkFn PG 135 n_cmp_Or_int r_cmp_Or_int c_cmp_Or_int = true := by kernel_rfl
theorem f_Or2 (a b : Int) : Fc PG 135 [.sl .p ([a, b].map i64V)] (.int .i64 (if a ≠ 0 then a else b)) := by
 refine Fn.step mixed k_cmp_Or_int ?_
 repeat' (first | refine i_len rfl ?_ | refine i_s rfl ?_ | refine sw ?_ | fail)
 refine c_for 2 (fun k => [(6, .sl .p ([a, b].map i64V)), (7, .int .i64 2), (3, .int .i64 0), (8, .int .i64 k)]) (fun _ => []) (fun k => 0 < k → a = 0 ∧ (1 < k → b = 0)) (by simp) ft fun k hk hi => ?_
 have ha : ([a, b] : List Int)[0]? = some a := rfl
 have hb : ([a, b] : List Int)[1]? = some b := rfl
 have hk3 : k = 0 ∨ k = 1 ∨ k = 2 := by omega
 rcases hk3 with rfl | rfl | rfl
 · clear hi
   by_cases h0 : a = 0
   · repeat' (first | refine i_s rfl ?_ | refine sw ?_ | refine c_t rfl ?_ | refine ja rfl rfl ?_ | refine jd rfl rfl ?_ | refine c_cond rfl (fun h => ?_) (fun h => ?_))
     all_goals first
      | (exfalso; simp_all; done)
      | (exact e_for (by omega) (fun _ => ⟨h0, fun h => by omega⟩) ft)
   · rw [if_pos h0]
     repeat' (first | refine i_s rfl ?_ | refine sw ?_ | refine c_t rfl ?_ | refine ja rfl rfl ?_ | refine jd rfl rfl ?_ | refine c_cond rfl (fun h => ?_) (fun h => ?_))
     all_goals first
      | exact e_ret ⟨rfl, _, rfl, rfl⟩
      | (exfalso; simp_all; done)
 · obtain ⟨h0, _⟩ := hi (by omega)
   rw [if_neg (by simp [h0])]
   clear hi
   by_cases h1 : b = 0
   · repeat' (first | refine i_s rfl ?_ | refine sw ?_ | refine c_t rfl ?_ | refine ja rfl rfl ?_ | refine jd rfl rfl ?_ | refine c_cond rfl (fun h => ?_) (fun h => ?_))
     all_goals first
      | (exfalso; simp_all; done)
      | (exact e_for (by omega) (fun _ => ⟨h0, fun h => h1⟩) ft)
   · repeat' (first | refine i_s rfl ?_ | refine sw ?_ | refine c_t rfl ?_ | refine ja rfl rfl ?_ | refine jd rfl rfl ?_ | refine c_cond rfl (fun h => ?_) (fun h => ?_))
     all_goals first
      | exact e_ret ⟨rfl, _, rfl, rfl⟩
      | (exfalso; simp_all; done)
 · obtain ⟨h0, h1⟩ := hi (by omega)
   have h1 := h1 (by omega)
   subst h0
   subst h1
   clear hi
   repeat' (first | refine i_s rfl ?_ | refine sw ?_ | refine c_f rfl ?_)
   all_goals first
    | exact e_ret ⟨rfl, _, rfl, rfl⟩
    | (exfalso; simp_all; done)
def c_slices_Compare_int : Cmd :=
 (qS [qc 4 0]
 (qT (qS [qm 9 0, qn 10 9, qc 11 0]
 (.block 0 (.loop (qS [qu 12 .lss [] 11 10]
 (qT (.cond (.t 12) .skip (.exit 0))
 (qT (.block 1 (qS [qm 13 11, qi 14 1 9 11, ql 15 1 14, qm 5 13, qm 6 15]
 (qT (qS [qm 16 5, qm 17 1, qn 18 17, qu 19 .geq [] 16 18]
 (.cond (.t 19) (.seq (.ops [qc 4 1]) .ret) .skip))
 (qS [qm 20 1, qm 21 5, qi 22 1 20 21, ql 23 1 22, qm 7 23]
 (qS [qm 24 6, qm 25 7, qk 26 136 [24, 25], qm 8 26]
 (qS [qm 27 8, qv 28 .neq [.i] 27 0]
 (.cond (.t 28) (.seq (.ops [qm 29 8, qm 4 29]) .ret) .skip)))))))
 (.ops [qv 30 .add [] 11 1, qm 11 30])))))))
 (qT (qS [qm 31 0, qn 32 31, qm 33 1, qn 34 33, qu 35 .lss [] 32 34]
 (.cond (.t 35) (.seq (.ops [qc 4 (-1)]) .ret) .skip))
 (.seq (.ops [qc 4 0]) .ret))))
def r_slices_Compare_int : List RVar := [.tmp 4]
def n_slices_Compare_int : Nat := 36
theorem k_slices_Compare_int : chkFn PG 137 n_slices_Compare_int r_slices_Compare_int c_slices_Compare_int = true := by kernel_rfl
theorem f_slices_Compare (a b : List Int) (ha : a.length ≤ 140737488355328) (hb : b.length ≤ 140737488355328) : Fc PG 137 [.sl .p (a.map i64V), .sl .p (b.map i64V)] (.int .i64 (cmpL a b)) := by
 refine Fn.step mixed k_slices_Compare_int ?_
 repeat (first | refine i_len rfl ?_ | refine i_s rfl ?_ | refine sw ?_)
 refine c_for a.length (fun k => [(0, .sl .p (a.map i64V)), (1, .sl .p (b.map i64V)), (9, .sl .p (a.map i64V)), (10, .int .i64 a.length), (11, .int .i64 k)]) (fun _ => []) (fun k => k ≤ b.length ∧ a.take k = b.take k) (by simp) ft fun k hk hi => ?_
 obtain ⟨hkb, hi⟩ := hi
 repeat (first | refine i_s rfl ?_ | refine sw ?_)
 refine c_cond rfl (fun h => ?_) (fun h => ?_)
 · have hlt : k < a.length := by simpa using h
   obtain ⟨x, hx⟩ := get_some hlt
   clear h
   by_cases hk2 : k < b.length
   · obtain ⟨y, hy⟩ := get_some hk2
     by_cases hxy : x = y
     · have hz : signI x y = 0 := signI_zero.2 hxy
       have hs := f_Compare_int x y
       rw [hz] at hs
       repeat' (first | refine i_len rfl ?_ | refine i_s rfl ?_ | refine sw ?_ | refine c_f rfl ?_ | refine ja rfl rfl ?_ | refine jd rfl rfl ?_ | refine c_cond rfl (fun h => ?_) (fun h => ?_) | refine sf rfl rfl hs ?_ | fail)
       all_goals first
        | (exact e_for hlt ⟨hk2, by rw [take_succ_get hx, take_succ_get hy, hi, hxy]⟩ ft)
        | (exfalso; clear hs; simp at *; omega)
     · have hz : signI x y ≠ 0 := fun h => hxy (signI_zero.1 h)
       rw [cmpL_at hi hx hy hxy]
       have hs := f_Compare_int x y
       generalize signI x y = z at *
       repeat' (first | refine i_len rfl ?_ | refine i_s rfl ?_ | refine sw ?_ | refine ja rfl rfl ?_ | refine jd rfl rfl ?_ | refine c_cond rfl (fun h => ?_) (fun h => ?_) | refine sf rfl rfl hs ?_ | fail)
       all_goals first
        | exact e_ret ⟨rfl, _, rfl, rfl⟩
        | (exfalso; clear hs; simp at *; omega)
   · rw [cmpL_end hi (by omega) hkb (.inr (by omega))]
     have hz : signI a.length b.length = 1 := by unfold signI; rw [if_neg (by omega), if_pos (by omega)]
     rw [hz]
     repeat' (first | refine i_len rfl ?_ | refine i_s rfl ?_ | refine sw ?_ | refine jd rfl rfl ?_ | refine c_cond rfl (fun h => ?_) (fun h => ?_))
     all_goals first
      | exact e_ret ⟨rfl, _, rfl, rfl⟩
      | (exfalso; simp at *; omega)
 · have hge : ¬ k < a.length := by simpa using h
   clear h
   rw [cmpL_end hi (by omega) hkb (.inl (by omega))]
   repeat' (first | refine i_len rfl ?_ | refine i_s rfl ?_ | refine sw ?_ | refine c_cond rfl (fun h => ?_) (fun h => ?_))
   all_goals first
    | (refine e_ret ⟨rfl, _, rfl, congrArg (V.int .i64) ?_⟩; unfold signI; simp at *; (repeat' split) <;> omega)
def c_domain_Compare : Cmd :=
 (qS [qx 2 5504130 2 0, qx 3 5504194 2 1, qc 4 0]
 (.seq (.ops [qf 5 0 2, ql 6 1 5, qf 7 0 3, ql 8 1 7, qk 9 136 [6, 8], qf 10 1 2, ql 11 1 10, qf 12 1 3, ql 13 1 12, qk 14 137 [11, 13], qq 15 (.bsl 1 [.t 9, .t 14]), qk 16 135 [15], qm 4 16]) .ret))
def r_domain_Compare : List RVar := [.tmp 4]
def n_domain_Compare : Nat := 17
theorem k_domain_Compare : chkFn PG 86 n_domain_Compare r_domain_Compare c_domain_Compare = true := by kernel_rfl
theorem f_domain_Compare (a b : At) (ha : AtOk a) (hb : AtOk b) : Fc PG 86 [atV a, atV b] (.int .i64 (atomOrd a b)) := by
 have h1 := f_Compare_int a.pred b.pred
 have h2 := f_slices_Compare a.args b.args (by have := ha.len; omega) (by have := hb.len; omega)
 have h3 := f_Or2 (signI a.pred b.pred) (cmpL a.args b.args)
 have e : atomOrd a b = if signI a.pred b.pred ≠ 0 then signI a.pred b.pred else cmpL a.args b.args := by
  unfold atomOrd
  by_cases h : a.pred = b.pred
  · rw [if_pos h, if_neg (by simp [signI_zero.2 h])]
  · rw [if_neg h, if_pos (fun e => h (signI_zero.1 e))]
 rw [e]
 refine Fn.step mixed k_domain_Compare ?_
 repeat' (first | refine i_s rfl ?_ | refine sw ?_ | refine i_box rfl rfl ?_ | refine sf rfl rfl h1 ?_ | refine sf rfl rfl h2 ?_ | refine sf rfl rfl h3 ?_ | fail)
 exact e_ret ⟨rfl, _, rfl, rfl⟩
def c_R1_Sign : Cmd :=
 (qS [qc 4 0]
 (qT (qS [qm 5 0, qm 6 1, qu 7 .lss [] 5 6]
 (.cond (.t 7) (.seq (.ops [qc 4 (-1)]) .ret) .skip))
 (qT (qS [qm 8 0, qm 9 1, qu 10 .gtr [] 8 9]
 (.cond (.t 10) (.seq (.ops [qc 4 1]) .ret) .skip))
 (.seq (.ops [qc 4 0]) .ret))))
def r_R1_Sign : List RVar := [.tmp 4]
def n_R1_Sign : Nat := 11
theorem k_R1_Sign : chkFn PG 158 n_R1_Sign r_R1_Sign c_R1_Sign = true := by kernel_rfl
theorem f_R1_Sign (a b : Int) : Fc PG 158 [.int .i64 a, .int .i64 b] (.int .i64 (signI a b)) := by
 refine Fn.step mixed k_R1_Sign ?_
 repeat' (first | refine i_s rfl ?_ | refine sw ?_ | refine c_cond rfl (fun h => ?_) (fun h => ?_))
 all_goals first
  | (refine e_ret ⟨rfl, _, rfl, congrArg (V.int .i64) ?_⟩; unfold signI; simp at *; (repeat' split) <;> omega)
def c_R1_AtomOrder : Cmd :=
 (qS [qx 2 8896130 2 0, qx 3 8896194 2 1, qc 4 0]
 (qT (qS [qf 6 0 2, ql 7 1 6, qf 8 0 3, ql 9 1 8, qu 10 .neq [.i] 7 9]
 (.cond (.t 10) (.seq (.ops [qf 11 0 2, ql 12 1 11, qf 13 0 3, ql 14 1 13, qk 15 158 [12, 14], qm 4 15]) .ret) .skip))
 (qT (qS [qc 5 0]
 (.block 0 (.loop (qT (qS [qm 16 5, qf 17 1 2, ql 18 1 17, qn 19 18, qu 20 .lss [] 16 19, qm 21 20, qg 22 21 true (.mov (.t 5)), qg 23 21 true (.faddr 1 (.t 3)), qg 24 21 true (.load false 1 (.t 23)), qg 25 21 true (.len false (.t 24)), qg 26 21 true (.bin .lss false [] (.t 22) (.t 25)), qq 27 (.pick (.t 21) (.t 26) (.c (.bool false)))]
 (.cond (.t 27) .skip (.exit 0)))
 (qT (.block 1 (qS [qf 30 1 2, ql 31 1 30, qm 32 5, qi 33 1 31 32, ql 34 1 33, qf 35 1 3, ql 36 1 35, qm 37 5, qi 38 1 36 37, ql 39 1 38, qu 40 .neq [.i] 34 39]
 (.cond (.t 40) (.seq (.ops [qf 41 1 2, ql 42 1 41, qm 43 5, qi 44 1 42 43, ql 45 1 44, qf 46 1 3, ql 47 1 46, qm 48 5, qi 49 1 47 48, ql 50 1 49, qk 51 158 [45, 50], qm 4 51]) .ret) .skip)))
 (.ops [qm 28 5, qv 29 .add [] 28 1, qm 5 29]))))))
 (.seq (.ops [qf 52 1 2, ql 53 1 52, qn 54 53, qf 55 1 3, ql 56 1 55, qn 57 56, qk 58 158 [54, 57], qm 4 58]) .ret))))
def r_R1_AtomOrder : List RVar := [.tmp 4]
def n_R1_AtomOrder : Nat := 59
theorem k_R1_AtomOrder : chkFn PG 139 n_R1_AtomOrder r_R1_AtomOrder c_R1_AtomOrder = true := by kernel_rfl
theorem f_R1_AtomOrder (a b : At) (ha : AtOk a) (hb : AtOk b) : Fc PG 139 [atV a, atV b] (.int .i64 (atomOrd a b)) := by
 have hal := ha.len
 have hbl := hb.len
 by_cases hp : a.pred = b.pred
 · unfold atomOrd
   rw [if_pos hp]
   have hS := f_R1_Sign a.args.length b.args.length
   refine Fn.step mixed k_R1_AtomOrder ?_
   repeat' (first | refine i_s rfl ?_ | refine sw ?_ | refine i_box rfl rfl ?_ | refine c_cond rfl (fun h => ?_) (fun h => ?_))
   all_goals first
    | (exfalso; simp_all; done)
    | skip
   refine c_for (min a.args.length b.args.length) (fun k => [(2, .bptr 8896130 0), (3, .bptr 8896194 0), (5, .int .i64 k)]) (fun _ => [(8896130, .box (atV a)), (8896194, .box (atV b))]) (fun k => a.args.take k = b.args.take k) (by simp) ft fun k hk hi => ?_
   by_cases hlt : k < a.args.length ∧ k < b.args.length
   · obtain ⟨x, hx⟩ := get_some hlt.1
     obtain ⟨y, hy⟩ := get_some hlt.2
     obtain ⟨hl1, hl2⟩ := hlt
     by_cases hxy : x = y
     · clear hS
       repeat' (first | refine i_len rfl ?_ | refine i_s rfl ?_ | refine sw ?_ | refine i_gt rfl ?_ | refine i_gf rfl ?_ | refine c_f rfl ?_ | refine ja rfl rfl ?_ | refine jd rfl rfl ?_ | (refine sp ?_ ?_ <;> try intro h) | fail)
       all_goals first
        | (exact e_for (by omega) (by rw [take_succ_get hx, take_succ_get hy, hi, hxy]) ft)
        | (exfalso; simp at *; omega)
     · rw [cmpL_at hi hx hy hxy]
       have hS2 := f_R1_Sign x y
       repeat' (first | refine i_len rfl ?_ | refine i_s rfl ?_ | refine sw ?_ | refine i_gt rfl ?_ | refine i_gf rfl ?_ | refine c_f rfl ?_ | refine ja rfl rfl ?_ | refine jd rfl rfl ?_ | (refine sp ?_ ?_ <;> try intro h) | refine sf rfl rfl hS2 ?_ | fail)
       all_goals first
        | exact e_ret ⟨rfl, _, rfl, rfl⟩
        | (exfalso; clear hS hS2; simp at *; omega)
   · rw [cmpL_end hi (by omega) (by omega) (by omega)]
     repeat' (first | refine i_len rfl ?_ | refine i_s rfl ?_ | refine sw ?_ | refine i_gt rfl ?_ | refine i_gf rfl ?_ | refine c_f rfl ?_ | (refine sp ?_ ?_ <;> try intro h) | refine sf rfl rfl hS ?_ | fail)
     all_goals first
      | exact e_ret ⟨rfl, _, rfl, rfl⟩
      | (exfalso; clear hS; simp at *; omega)
 · unfold atomOrd
   rw [if_neg hp]
   have hS := f_R1_Sign a.pred b.pred
   refine Fn.step mixed k_R1_AtomOrder ?_
   repeat' (first | refine i_s rfl ?_ | refine sw ?_ | refine i_box rfl rfl ?_ | refine c_cond rfl (fun h => ?_) (fun h => ?_) | refine sf rfl rfl hS ?_ | fail)
   all_goals first
    | exact e_ret ⟨rfl, _, rfl, rfl⟩
    | (exfalso; clear hS; simp_all; done)
def c_R1_SameAtom : Cmd :=
 (qS [qx 2 5632130 2 0, qx 3 5632194 2 1, qb 4 false]
 (.seq (.ops [qL 5 2 2, qL 6 2 3, qk 7 139 [5, 6], qv 8 .eql [.i] 7 0, qm 4 8]) .ret))
def r_R1_SameAtom : List RVar := [.tmp 4]
def n_R1_SameAtom : Nat := 9
theorem k_R1_SameAtom : chkFn PG 88 n_R1_SameAtom r_R1_SameAtom c_R1_SameAtom = true := by kernel_rfl
theorem f_R1_SameAtom (a b : At) (ha : AtOk a) (hb : AtOk b) : Fc PG 88 [atV a, atV b] (.bool (decide (a = b))) := by
 have h := f_R1_AtomOrder a b ha hb
 refine Fn.step mixed k_R1_SameAtom ?_
 repeat' (first | refine i_s rfl ?_ | refine sw ?_ | refine i_box rfl rfl ?_ | refine sf rfl rfl h ?_ | fail)
 refine e_ret ⟨rfl, _, rfl, congrArg V.bool ?_⟩
 by_cases e : a = b
 · rw [atomOrd_zero.2 e, decide_eq_true e]; rfl
 · have : atomOrd a b ≠ 0 := fun h => e (atomOrd_zero.1 h)
   rw [decide_eq_false e]
   simpa using this
def c_R1_HasAtom : Cmd :=
 (qS [qx 3 2240194 2 1, qb 4 false]
 (qT (qS [qc 5 0]
 (.block 0 (.loop (qT (qS [qm 6 5, qm 7 0, qn 8 7, qu 9 .lss [] 6 8]
 (.cond (.t 9) .skip (.exit 0)))
 (qT (.block 1 (qS [qm 12 0, qm 13 5, qi 14 2 12 13, qL 15 2 14, qL 16 2 3, qk 17 88 [15, 16]]
 (.cond (.t 17) (.seq (.ops [qb 4 true]) .ret) .skip)))
 (.ops [qm 10 5, qv 11 .add [] 10 1, qm 5 11]))))))
 (.seq (.ops [qb 4 false]) .ret)))
def r_R1_HasAtom : List RVar := [.tmp 4]
def n_R1_HasAtom : Nat := 18
theorem k_R1_HasAtom : chkFn PG 35 n_R1_HasAtom r_R1_HasAtom c_R1_HasAtom = true := by kernel_rfl
theorem f_R1_HasAtom (l : List At) (a : At) (hl : l.length ≤ 140737488355328) (ho : ∀ x ∈ l, AtOk x) (ha : AtOk a) : Fc PG 35 [.sl .p (l.map atV), atV a] (.bool (decide (a ∈ l))) := by
 refine Fn.step mixed k_R1_HasAtom ?_
 repeat' (first | refine i_s rfl ?_ | refine sw ?_ | refine i_box rfl rfl ?_)
 refine c_for l.length (fun k => [(0, .sl .p (l.map atV)), (3, .bptr 2240194 0), (5, .int .i64 k)]) (fun _ => [(2240194, .box (atV a))]) (fun k => a ∉ l.take k) (by simp) ft fun k hk hi => ?_
 by_cases hlt : k < l.length
 · obtain ⟨x, hx⟩ := get_some hlt
   have hS := f_R1_SameAtom x a (ho x (mem_get hx)) ha
   by_cases e : x = a
   · rw [decide_eq_true (e ▸ mem_get hx : a ∈ l)]
     rw [decide_eq_true e] at hS
     repeat' (first | refine i_len rfl ?_ | refine i_s rfl ?_ | refine sw ?_ | refine c_t rfl ?_ | refine jd rfl rfl ?_ | refine c_cond rfl (fun h => ?_) (fun h => ?_) | refine sf rfl rfl hS ?_ | fail)
     all_goals first
      | exact e_ret ⟨rfl, _, rfl, rfl⟩
      | (exfalso; clear hS; simp at *; omega)
   · rw [decide_eq_false e] at hS
     repeat' (first | refine i_len rfl ?_ | refine i_s rfl ?_ | refine sw ?_ | refine c_f rfl ?_ | refine ja rfl rfl ?_ | refine jd rfl rfl ?_ | refine c_cond rfl (fun h => ?_) (fun h => ?_) | refine sf rfl rfl hS ?_ | fail)
     all_goals first
      | (exact e_for hlt (by rw [take_succ_get hx]; simp only [List.mem_append, List.mem_singleton, not_or]; exact ⟨hi, fun h => e h.symm⟩) ft)
      | (exfalso; clear hS; simp at *; omega)
 · rw [List.take_of_length_le (by omega)] at hi
   rw [decide_eq_false hi]
   repeat' (first | refine i_len rfl ?_ | refine i_s rfl ?_ | refine sw ?_ | refine c_cond rfl (fun h => ?_) (fun h => ?_))
   all_goals first
    | exact e_ret ⟨rfl, _, rfl, rfl⟩
    | (exfalso; simp at *; omega)
def c_slices_IndexFunc_int : Cmd :=
 (qS [qc 4 0]
 (qT (qS [qm 6 0, qn 7 6, qc 8 0]
 (.block 0 (.loop (qS [qu 9 .lss [] 8 7]
 (qT (.cond (.t 9) .skip (.exit 0))
 (qT (.block 1 (qS [qm 10 8, qm 5 10]
 (qS [qm 11 1, qm 12 0, qm 13 5, qi 14 1 12 13, ql 15 1 14, qq 16 (.call .f (.t 11) [.t 15])]
 (.cond (.t 16) (.seq (.ops [qm 17 5, qm 4 17]) .ret) .skip))))
 (.ops [qv 18 .add [] 8 1, qm 8 18])))))))
 (.seq (.ops [qc 4 (-1)]) .ret)))
def r_slices_IndexFunc_int : List RVar := [.tmp 4]
def n_slices_IndexFunc_int : Nat := 19
theorem k_slices_IndexFunc_int : chkFn PG 153 n_slices_IndexFunc_int r_slices_IndexFunc_int c_slices_IndexFunc_int = true := by kernel_rfl
theorem f_IndexFunc_int (l : List (Int)) (p : Int → Bool) (fid : Nat) (caps : List V) (hl : l.length ≤ 140737488355328) (he : ∀ σ n, caps.map (er σ (n + 1)) = caps) (hc : closedL [] caps = true) (hp : ∀ t ∈ l, Fc PG fid (i64V t :: caps) (.bool (p t))) :
  Fc PG 153 [.sl .p (l.map i64V), .fn fid caps] (.int .i64 (fidx p l)) := by
 refine Fn.step mixed k_slices_IndexFunc_int ?_
 repeat (first | refine i_len rfl ?_ | refine i_s rfl ?_ | refine sw ?_)
 refine c_for l.length (fun k => [(0, .sl .p (l.map i64V)), (1, .fn fid caps), (7, .int .i64 l.length), (8, .int .i64 k)]) (fun _ => []) (fun k => ∀ j, j < k → ∀ c, l[j]? = some c → p c = false) all_zero ?_ fun k hk hi => ?_
 · exact ⟨⟨rfl, rfl, rfl, rfl, trivial⟩, trivial, by simp [fitB, closedE, closedB, hc, closedSt, hasAll]⟩
 repeat (first | refine i_s rfl ?_ | refine sw ?_)
 refine c_cond rfl (fun h => ?_) (fun h => ?_)
 · have hlt : k < l.length := by simpa using h
   obtain ⟨c, hget⟩ := get_some hlt
   repeat (first | refine i_s rfl ?_ | refine sw ?_ | refine jd rfl rfl ?_)
   refine i_f rfl (congrArg (i64V c :: ·) (he _ 5)) (hp c (mem_get hget)) rfl ?_
   repeat' (first | refine i_s rfl ?_ | refine sw ?_ | refine ja rfl rfl ?_ | refine c_cond rfl (fun h => ?_) (fun h => ?_))
   · refine e_ret ⟨rfl, _, rfl, congrArg (V.int .i64) (fidx_hit hi hget h)⟩
   · refine e_for hlt (all_succ hi fun c' hc' => ?_) ⟨⟨rfl, rfl, rfl, rfl, trivial⟩, trivial, by simp [fitB, closedE, closedB, hc, closedSt, hasAll]⟩
     rw [hget] at hc'; cases hc'; exact h
 · have hge : ¬ k < l.length := by simpa using h
   repeat' (first | refine i_s rfl ?_ | refine sw ?_ | fail)
   refine e_ret ⟨rfl, _, rfl, congrArg (V.int .i64) (fidx_none fun j hj => hi j (by omega))⟩
def c_slices_ContainsFunc_int : Cmd :=
 (qS [qb 4 false]
 (.seq (.ops [qm 5 0, qm 6 1, qk 7 153 [5, 6], qv 8 .geq [] 7 0, qm 4 8]) .ret))
def r_slices_ContainsFunc_int : List RVar := [.tmp 4]
def n_slices_ContainsFunc_int : Nat := 9
theorem k_slices_ContainsFunc_int : chkFn PG 129 n_slices_ContainsFunc_int r_slices_ContainsFunc_int c_slices_ContainsFunc_int = true := by kernel_rfl
theorem f_ContainsFunc_int (l : List (Int)) (p : Int → Bool) (fid : Nat) (caps : List V) (hl : l.length ≤ 140737488355328) (he : ∀ σ n, caps.map (er σ (n + 1)) = caps) (hc : closedL [] caps = true) (hp : ∀ t ∈ l, Fc PG fid (i64V t :: caps) (.bool (p t))) :
  Fc PG 129 [.sl .p (l.map i64V), .fn fid caps] (.bool (l.any p)) := by
 refine Fn.step mixed k_slices_ContainsFunc_int ?_
 repeat (first | refine i_s rfl ?_ | refine sw ?_)
 refine i_f rfl (congrArg (fun x => [V.sl .p (l.map i64V), .fn fid x]) (he _ 4)) (f_IndexFunc_int l p fid caps hl he hc hp) rfl ?_
 repeat' (first | refine i_s rfl ?_ | refine sw ?_ | fail)
 refine e_ret ⟨rfl, _, rfl, congrArg V.bool (fidx_any p l).symm⟩
def c_slices_IndexFunc_Predicate : Cmd :=
 (qS [qc 4 0]
 (qT (qS [qm 6 0, qn 7 6, qc 8 0]
 (.block 0 (.loop (qS [qu 9 .lss [] 8 7]
 (qT (.cond (.t 9) .skip (.exit 0))
 (qT (.block 1 (qS [qm 10 8, qm 5 10]
 (qS [qm 11 1, qm 12 0, qm 13 5, qi 14 2 12 13, qL 15 2 14, qq 16 (.call .f (.t 11) [.t 15])]
 (.cond (.t 16) (.seq (.ops [qm 17 5, qm 4 17]) .ret) .skip))))
 (.ops [qv 18 .add [] 8 1, qm 8 18])))))))
 (.seq (.ops [qc 4 (-1)]) .ret)))
def r_slices_IndexFunc_Predicate : List RVar := [.tmp 4]
def n_slices_IndexFunc_Predicate : Nat := 19
theorem k_slices_IndexFunc_Predicate : chkFn PG 128 n_slices_IndexFunc_Predicate r_slices_IndexFunc_Predicate c_slices_IndexFunc_Predicate = true := by kernel_rfl
theorem f_IndexFunc_Predicate (l : List (Prd)) (p : Prd → Bool) (fid : Nat) (caps : List V) (hl : l.length ≤ 140737488355328) (he : ∀ σ n, caps.map (er σ (n + 1)) = caps) (hc : closedL [] caps = true) (hp : ∀ t ∈ l, Fc PG fid (prdV t :: caps) (.bool (p t))) :
  Fc PG 128 [.sl .p (l.map prdV), .fn fid caps] (.int .i64 (fidx p l)) := by
 refine Fn.step mixed k_slices_IndexFunc_Predicate ?_
 repeat (first | refine i_len rfl ?_ | refine i_s rfl ?_ | refine sw ?_)
 refine c_for l.length (fun k => [(0, .sl .p (l.map prdV)), (1, .fn fid caps), (7, .int .i64 l.length), (8, .int .i64 k)]) (fun _ => []) (fun k => ∀ j, j < k → ∀ c, l[j]? = some c → p c = false) all_zero ?_ fun k hk hi => ?_
 · exact ⟨⟨rfl, rfl, rfl, rfl, trivial⟩, trivial, by simp [fitB, closedE, closedB, hc, closedSt, hasAll]⟩
 repeat (first | refine i_s rfl ?_ | refine sw ?_)
 refine c_cond rfl (fun h => ?_) (fun h => ?_)
 · have hlt : k < l.length := by simpa using h
   obtain ⟨c, hget⟩ := get_some hlt
   repeat (first | refine i_s rfl ?_ | refine sw ?_ | refine jd rfl rfl ?_)
   refine i_f rfl (congrArg (prdV c :: ·) (he _ 5)) (hp c (mem_get hget)) rfl ?_
   repeat' (first | refine i_s rfl ?_ | refine sw ?_ | refine ja rfl rfl ?_ | refine c_cond rfl (fun h => ?_) (fun h => ?_))
   · refine e_ret ⟨rfl, _, rfl, congrArg (V.int .i64) (fidx_hit hi hget h)⟩
   · refine e_for hlt (all_succ hi fun c' hc' => ?_) ⟨⟨rfl, rfl, rfl, rfl, trivial⟩, trivial, by simp [fitB, closedE, closedB, hc, closedSt, hasAll]⟩
     rw [hget] at hc'; cases hc'; exact h
 · have hge : ¬ k < l.length := by simpa using h
   repeat' (first | refine i_s rfl ?_ | refine sw ?_ | fail)
   refine e_ret ⟨rfl, _, rfl, congrArg (V.int .i64) (fidx_none fun j hj => hi j (by omega))⟩
def c_slices_ContainsFunc_Predicate : Cmd :=
 (qS [qb 4 false]
 (.seq (.ops [qm 5 0, qm 6 1, qk 7 128 [5, 6], qv 8 .geq [] 7 0, qm 4 8]) .ret))
def r_slices_ContainsFunc_Predicate : List RVar := [.tmp 4]
def n_slices_ContainsFunc_Predicate : Nat := 9
theorem k_slices_ContainsFunc_Predicate : chkFn PG 76 n_slices_ContainsFunc_Predicate r_slices_ContainsFunc_Predicate c_slices_ContainsFunc_Predicate = true := by kernel_rfl
theorem f_ContainsFunc_Predicate (l : List (Prd)) (p : Prd → Bool) (fid : Nat) (caps : List V) (hl : l.length ≤ 140737488355328) (he : ∀ σ n, caps.map (er σ (n + 1)) = caps) (hc : closedL [] caps = true) (hp : ∀ t ∈ l, Fc PG fid (prdV t :: caps) (.bool (p t))) :
  Fc PG 76 [.sl .p (l.map prdV), .fn fid caps] (.bool (l.any p)) := by
 refine Fn.step mixed k_slices_ContainsFunc_Predicate ?_
 repeat (first | refine i_s rfl ?_ | refine sw ?_)
 refine i_f rfl (congrArg (fun x => [V.sl .p (l.map prdV), .fn fid x]) (he _ 4)) (f_IndexFunc_Predicate l p fid caps hl he hc hp) rfl ?_
 repeat' (first | refine i_s rfl ?_ | refine sw ?_ | fail)
 refine e_ret ⟨rfl, _, rfl, congrArg V.bool (fidx_any p l).symm⟩
def c_slices_IndexFunc_Schema : Cmd :=
 (qS [qc 4 0]
 (qT (qS [qm 6 0, qn 7 6, qc 8 0]
 (.block 0 (.loop (qS [qu 9 .lss [] 8 7]
 (qT (.cond (.t 9) .skip (.exit 0))
 (qT (.block 1 (qS [qm 10 8, qm 5 10]
 (qS [qm 11 1, qm 12 0, qm 13 5, qi 14 7 12 13, qL 15 7 14, qq 16 (.call .f (.t 11) [.t 15])]
 (.cond (.t 16) (.seq (.ops [qm 17 5, qm 4 17]) .ret) .skip))))
 (.ops [qv 18 .add [] 8 1, qm 8 18])))))))
 (.seq (.ops [qc 4 (-1)]) .ret)))
def r_slices_IndexFunc_Schema : List RVar := [.tmp 4]
def n_slices_IndexFunc_Schema : Nat := 19
theorem k_slices_IndexFunc_Schema : chkFn PG 131 n_slices_IndexFunc_Schema r_slices_IndexFunc_Schema c_slices_IndexFunc_Schema = true := by kernel_rfl
theorem f_IndexFunc_Schema (l : List (Sch)) (p : Sch → Bool) (fid : Nat) (caps : List V) (hl : l.length ≤ 140737488355328) (he : ∀ σ n, caps.map (er σ (n + 1)) = caps) (hc : closedL [] caps = true) (hp : ∀ t ∈ l, Fc PG fid (schV t :: caps) (.bool (p t))) :
  Fc PG 131 [.sl .p (l.map schV), .fn fid caps] (.int .i64 (fidx p l)) := by
 refine Fn.step mixed k_slices_IndexFunc_Schema ?_
 repeat (first | refine i_len rfl ?_ | refine i_s rfl ?_ | refine sw ?_)
 refine c_for l.length (fun k => [(0, .sl .p (l.map schV)), (1, .fn fid caps), (7, .int .i64 l.length), (8, .int .i64 k)]) (fun _ => []) (fun k => ∀ j, j < k → ∀ c, l[j]? = some c → p c = false) all_zero ?_ fun k hk hi => ?_
 · exact ⟨⟨rfl, rfl, rfl, rfl, trivial⟩, trivial, by simp [fitB, closedE, closedB, hc, closedSt, hasAll]⟩
 repeat (first | refine i_s rfl ?_ | refine sw ?_)
 refine c_cond rfl (fun h => ?_) (fun h => ?_)
 · have hlt : k < l.length := by simpa using h
   obtain ⟨c, hget⟩ := get_some hlt
   repeat (first | refine i_s rfl ?_ | refine sw ?_ | refine jd rfl rfl ?_)
   refine i_f rfl (congrArg (schV c :: ·) (he _ 5)) (hp c (mem_get hget)) rfl ?_
   repeat' (first | refine i_s rfl ?_ | refine sw ?_ | refine ja rfl rfl ?_ | refine c_cond rfl (fun h => ?_) (fun h => ?_))
   · refine e_ret ⟨rfl, _, rfl, congrArg (V.int .i64) (fidx_hit hi hget h)⟩
   · refine e_for hlt (all_succ hi fun c' hc' => ?_) ⟨⟨rfl, rfl, rfl, rfl, trivial⟩, trivial, by simp [fitB, closedE, closedB, hc, closedSt, hasAll]⟩
     rw [hget] at hc'; cases hc'; exact h
 · have hge : ¬ k < l.length := by simpa using h
   repeat' (first | refine i_s rfl ?_ | refine sw ?_ | fail)
   refine e_ret ⟨rfl, _, rfl, congrArg (V.int .i64) (fidx_none fun j hj => hi j (by omega))⟩
def c_slices_ContainsFunc_Schema : Cmd :=
 (qS [qb 4 false]
 (.seq (.ops [qm 5 0, qm 6 1, qk 7 131 [5, 6], qv 8 .geq [] 7 0, qm 4 8]) .ret))
def r_slices_ContainsFunc_Schema : List RVar := [.tmp 4]
def n_slices_ContainsFunc_Schema : Nat := 9
theorem k_slices_ContainsFunc_Schema : chkFn PG 79 n_slices_ContainsFunc_Schema r_slices_ContainsFunc_Schema c_slices_ContainsFunc_Schema = true := by kernel_rfl
theorem f_ContainsFunc_Schema (l : List (Sch)) (p : Sch → Bool) (fid : Nat) (caps : List V) (hl : l.length ≤ 140737488355328) (he : ∀ σ n, caps.map (er σ (n + 1)) = caps) (hc : closedL [] caps = true) (hp : ∀ t ∈ l, Fc PG fid (schV t :: caps) (.bool (p t))) :
  Fc PG 79 [.sl .p (l.map schV), .fn fid caps] (.bool (l.any p)) := by
 refine Fn.step mixed k_slices_ContainsFunc_Schema ?_
 repeat (first | refine i_s rfl ?_ | refine sw ?_)
 refine i_f rfl (congrArg (fun x => [V.sl .p (l.map schV), .fn fid x]) (he _ 4)) (f_IndexFunc_Schema l p fid caps hl he hc hp) rfl ?_
 repeat' (first | refine i_s rfl ?_ | refine sw ?_ | fail)
 refine e_ret ⟨rfl, _, rfl, congrArg V.bool (fidx_any p l).symm⟩
def c_slices_IndexFunc_2_int : Cmd :=
 (qS [qc 4 0]
 (qT (qS [qm 6 0, qn 7 6, qc 8 0]
 (.block 0 (.loop (qS [qu 9 .lss [] 8 7]
 (qT (.cond (.t 9) .skip (.exit 0))
 (qT (.block 1 (qS [qm 10 8, qm 5 10]
 (qS [qm 11 1, qm 12 0, qm 13 5, qi 14 2 12 13, qL 15 2 14, qq 16 (.call .f (.t 11) [.t 15])]
 (.cond (.t 16) (.seq (.ops [qm 17 5, qm 4 17]) .ret) .skip))))
 (.ops [qv 18 .add [] 8 1, qm 8 18])))))))
 (.seq (.ops [qc 4 (-1)]) .ret)))
def r_slices_IndexFunc_2_int : List RVar := [.tmp 4]
def n_slices_IndexFunc_2_int : Nat := 19
theorem k_slices_IndexFunc_2_int : chkFn PG 132 n_slices_IndexFunc_2_int r_slices_IndexFunc_2_int c_slices_IndexFunc_2_int = true := by kernel_rfl
theorem f_IndexFunc_2_int (l : List (Int × Int)) (p : (Int × Int) → Bool) (fid : Nat) (caps : List V) (hl : l.length ≤ 140737488355328) (he : ∀ σ n, caps.map (er σ (n + 1)) = caps) (hc : closedL [] caps = true) (hp : ∀ t ∈ l, Fc PG fid (pairV t :: caps) (.bool (p t))) :
  Fc PG 132 [.sl .p (l.map pairV), .fn fid caps] (.int .i64 (fidx p l)) := by
 refine Fn.step mixed k_slices_IndexFunc_2_int ?_
 repeat (first | refine i_len rfl ?_ | refine i_s rfl ?_ | refine sw ?_)
 refine c_for l.length (fun k => [(0, .sl .p (l.map pairV)), (1, .fn fid caps), (7, .int .i64 l.length), (8, .int .i64 k)]) (fun _ => []) (fun k => ∀ j, j < k → ∀ c, l[j]? = some c → p c = false) all_zero ?_ fun k hk hi => ?_
 · exact ⟨⟨rfl, rfl, rfl, rfl, trivial⟩, trivial, by simp [fitB, closedE, closedB, hc, closedSt, hasAll]⟩
 repeat (first | refine i_s rfl ?_ | refine sw ?_)
 refine c_cond rfl (fun h => ?_) (fun h => ?_)
 · have hlt : k < l.length := by simpa using h
   obtain ⟨c, hget⟩ := get_some hlt
   repeat (first | refine i_s rfl ?_ | refine sw ?_ | refine jd rfl rfl ?_)
   refine i_f rfl (congrArg (pairV c :: ·) (he _ 5)) (hp c (mem_get hget)) rfl ?_
   repeat' (first | refine i_s rfl ?_ | refine sw ?_ | refine ja rfl rfl ?_ | refine c_cond rfl (fun h => ?_) (fun h => ?_))
   · refine e_ret ⟨rfl, _, rfl, congrArg (V.int .i64) (fidx_hit hi hget h)⟩
   · refine e_for hlt (all_succ hi fun c' hc' => ?_) ⟨⟨rfl, rfl, rfl, rfl, trivial⟩, trivial, by simp [fitB, closedE, closedB, hc, closedSt, hasAll]⟩
     rw [hget] at hc'; cases hc'; exact h
 · have hge : ¬ k < l.length := by simpa using h
   repeat' (first | refine i_s rfl ?_ | refine sw ?_ | fail)
   refine e_ret ⟨rfl, _, rfl, congrArg (V.int .i64) (fidx_none fun j hj => hi j (by omega))⟩
def c_slices_ContainsFunc_2_int : Cmd :=
 (qS [qb 4 false]
 (.seq (.ops [qm 5 0, qm 6 1, qk 7 132 [5, 6], qv 8 .geq [] 7 0, qm 4 8]) .ret))
def r_slices_ContainsFunc_2_int : List RVar := [.tmp 4]
def n_slices_ContainsFunc_2_int : Nat := 9
theorem k_slices_ContainsFunc_2_int : chkFn PG 82 n_slices_ContainsFunc_2_int r_slices_ContainsFunc_2_int c_slices_ContainsFunc_2_int = true := by kernel_rfl
theorem f_ContainsFunc_2_int (l : List (Int × Int)) (p : (Int × Int) → Bool) (fid : Nat) (caps : List V) (hl : l.length ≤ 140737488355328) (he : ∀ σ n, caps.map (er σ (n + 1)) = caps) (hc : closedL [] caps = true) (hp : ∀ t ∈ l, Fc PG fid (pairV t :: caps) (.bool (p t))) :
  Fc PG 82 [.sl .p (l.map pairV), .fn fid caps] (.bool (l.any p)) := by
 refine Fn.step mixed k_slices_ContainsFunc_2_int ?_
 repeat (first | refine i_s rfl ?_ | refine sw ?_)
 refine i_f rfl (congrArg (fun x => [V.sl .p (l.map pairV), .fn fid x]) (he _ 4)) (f_IndexFunc_2_int l p fid caps hl he hc hp) rfl ?_
 repeat' (first | refine i_s rfl ?_ | refine sw ?_ | fail)
 refine e_ret ⟨rfl, _, rfl, congrArg V.bool (fidx_any p l).symm⟩
def c_slices_IndexFunc_Atom : Cmd :=
 (qS [qc 4 0]
 (qT (qS [qm 6 0, qn 7 6, qc 8 0]
 (.block 0 (.loop (qS [qu 9 .lss [] 8 7]
 (qT (.cond (.t 9) .skip (.exit 0))
 (qT (.block 1 (qS [qm 10 8, qm 5 10]
 (qS [qm 11 1, qm 12 0, qm 13 5, qi 14 2 12 13, qL 15 2 14, qq 16 (.call .f (.t 11) [.t 15])]
 (.cond (.t 16) (.seq (.ops [qm 17 5, qm 4 17]) .ret) .skip))))
 (.ops [qv 18 .add [] 8 1, qm 8 18])))))))
 (.seq (.ops [qc 4 (-1)]) .ret)))
def r_slices_IndexFunc_Atom : List RVar := [.tmp 4]
def n_slices_IndexFunc_Atom : Nat := 19
theorem k_slices_IndexFunc_Atom : chkFn PG 134 n_slices_IndexFunc_Atom r_slices_IndexFunc_Atom c_slices_IndexFunc_Atom = true := by kernel_rfl
theorem f_IndexFunc_Atom (l : List (At)) (p : At → Bool) (fid : Nat) (caps : List V) (hl : l.length ≤ 140737488355328) (he : ∀ σ n, caps.map (er σ (n + 1)) = caps) (hc : closedL [] caps = true) (hp : ∀ t ∈ l, Fc PG fid (atV t :: caps) (.bool (p t))) :
  Fc PG 134 [.sl .p (l.map atV), .fn fid caps] (.int .i64 (fidx p l)) := by
 refine Fn.step mixed k_slices_IndexFunc_Atom ?_
 repeat (first | refine i_len rfl ?_ | refine i_s rfl ?_ | refine sw ?_)
 refine c_for l.length (fun k => [(0, .sl .p (l.map atV)), (1, .fn fid caps), (7, .int .i64 l.length), (8, .int .i64 k)]) (fun _ => []) (fun k => ∀ j, j < k → ∀ c, l[j]? = some c → p c = false) all_zero ?_ fun k hk hi => ?_
 · exact ⟨⟨rfl, rfl, rfl, rfl, trivial⟩, trivial, by simp [fitB, closedE, closedB, hc, closedSt, hasAll]⟩
 repeat (first | refine i_s rfl ?_ | refine sw ?_)
 refine c_cond rfl (fun h => ?_) (fun h => ?_)
 · have hlt : k < l.length := by simpa using h
   obtain ⟨c, hget⟩ := get_some hlt
   repeat (first | refine i_s rfl ?_ | refine sw ?_ | refine jd rfl rfl ?_)
   refine i_f rfl (congrArg (atV c :: ·) (he _ 5)) (hp c (mem_get hget)) rfl ?_
   repeat' (first | refine i_s rfl ?_ | refine sw ?_ | refine ja rfl rfl ?_ | refine c_cond rfl (fun h => ?_) (fun h => ?_))
   · refine e_ret ⟨rfl, _, rfl, congrArg (V.int .i64) (fidx_hit hi hget h)⟩
   · refine e_for hlt (all_succ hi fun c' hc' => ?_) ⟨⟨rfl, rfl, rfl, rfl, trivial⟩, trivial, by simp [fitB, closedE, closedB, hc, closedSt, hasAll]⟩
     rw [hget] at hc'; cases hc'; exact h
 · have hge : ¬ k < l.length := by simpa using h
   repeat' (first | refine i_s rfl ?_ | refine sw ?_ | fail)
   refine e_ret ⟨rfl, _, rfl, congrArg (V.int .i64) (fidx_none fun j hj => hi j (by omega))⟩
def c_slices_ContainsFunc_Atom : Cmd :=
 (qS [qb 4 false]
 (.seq (.ops [qm 5 0, qm 6 1, qk 7 134 [5, 6], qv 8 .geq [] 7 0, qm 4 8]) .ret))
def r_slices_ContainsFunc_Atom : List RVar := [.tmp 4]
def n_slices_ContainsFunc_Atom : Nat := 9
theorem k_slices_ContainsFunc_Atom : chkFn PG 84 n_slices_ContainsFunc_Atom r_slices_ContainsFunc_Atom c_slices_ContainsFunc_Atom = true := by kernel_rfl
theorem f_ContainsFunc_Atom (l : List (At)) (p : At → Bool) (fid : Nat) (caps : List V) (hl : l.length ≤ 140737488355328) (he : ∀ σ n, caps.map (er σ (n + 1)) = caps) (hc : closedL [] caps = true) (hp : ∀ t ∈ l, Fc PG fid (atV t :: caps) (.bool (p t))) :
  Fc PG 84 [.sl .p (l.map atV), .fn fid caps] (.bool (l.any p)) := by
 refine Fn.step mixed k_slices_ContainsFunc_Atom ?_
 repeat (first | refine i_s rfl ?_ | refine sw ?_)
 refine i_f rfl (congrArg (fun x => [V.sl .p (l.map atV), .fn fid x]) (he _ 4)) (f_IndexFunc_Atom l p fid caps hl he hc hp) rfl ?_
 repeat' (first | refine i_s rfl ?_ | refine sw ?_ | fail)
 refine e_ret ⟨rfl, _, rfl, congrArg V.bool (fidx_any p l).symm⟩
end Hm
end
section
namespace Hm
open Go
set_option maxRecDepth 100000
set_option maxHeartbeats 1000000
theorem u8le (c : UInt8) : c.toNat ≤ 255 := by have := c.toNat_lt; omega
def c_R1_Name : Cmd :=
 (qS [qb 2 false]
 (qT (qS [qc 3 0]
 (.block 0 (.loop (qT (qS [qm 5 3, qm 6 0, qq 7 (.len true (.t 6)), qu 8 .lss [] 5 7]
 (.cond (.t 8) .skip (.exit 0)))
 (qT (.block 1 (qS [qm 11 0, qm 12 3, qq 13 (.index (.t 11) (.t 12)), qq 14 (.conv .i64 (.t 13)), qm 4 14]
 (qS [qm 15 4, qq 16 (.call .f (.c (.fn 17 [])) [.t 15, .c (.int .i64 97), .c (.int .i64 122)]), qq 17 (.not (.t 16)), qm 18 17, qg 19 18 true (.mov (.t 3)), qg 20 18 true (.bin .eql false [.i] (.t 19) (.c (.int .i64 0))), qg 21 18 true (.mov (.t 20)), qg 22 21 false (.mov (.t 4)), qg 23 21 false (.call .f (.c (.fn 17 [])) [.t 22, .c (.int .i64 48), .c (.int .i64 57)]), qg 24 21 false (.not (.t 23)), qg 25 21 false (.mov (.t 24)), qg 26 25 true (.mov (.t 4)), qg 27 25 true (.bin .neq false [.i] (.t 26) (.c (.int .i64 45))), qg 28 21 false (.pick (.t 25) (.t 27) (.c (.bool false))), qg 29 18 true (.pick (.t 21) (.c (.bool true)) (.t 28)), qq 30 (.pick (.t 18) (.t 29) (.c (.bool false)))]
 (.cond (.t 30) (.seq (.ops [qb 2 false]) .ret) .skip))))
 (.ops [qm 9 3, qv 10 .add [] 9 1, qm 3 10]))))))
 (.seq (.ops [qm 31 0, qq 32 (.len true (.t 31)), qq 33 (.call .f (.c (.fn 17 [])) [.t 32, .c (.int .i64 1), .c (.int .i64 12)]), qm 2 33]) .ret)))
def r_R1_Name : List RVar := [.tmp 2]
def n_R1_Name : Nat := 34
theorem k_R1_Name : chkFn PG 31 n_R1_Name r_R1_Name c_R1_Name = true := by kernel_rfl
theorem f_R1_Name (s : List UInt8) (hl : s.length ≤ 140737488355328) : Fc PG 31 [.str s] (.bool (nameB s)) := by
 refine Fn.step mixed k_R1_Name ?_
 repeat (first | refine i_s rfl ?_ | refine sw ?_)
 refine c_for s.length (fun k => [(0, .str s), (3, .int .i64 k)]) (fun _ => []) (fun k => ∀ j, j < k → ∀ c, s[j]? = some c → nameAt j c = true) all_zero ft fun k hk hi => ?_
 repeat (first | refine i_s rfl ?_ | refine sw ?_)
 refine c_cond rfl (fun h => ?_) (fun h => ?_)
 · have hlt : k < s.length := by simpa using h
   obtain ⟨c, hc⟩ := get_some hlt
   have hb := u8le c
   have next : nameAt k c = true → ∀ j, j < k + 1 → ∀ c, s[j]? = some c → nameAt j c = true := fun hn => all_succ hi fun c' hc' => by
    rw [hc] at hc'; injection hc' with hc'; rw [← hc']; exact hn
   have bad : nameAt k c = false → V.bool (nameB s) = V.bool false := fun hn => by simp [nameB, namesFrom_false hc hn]
   clear hi h
   repeat' (first | refine i_s rfl ?_ | refine sw ?_ | refine i_gt rfl ?_ | refine i_gf rfl ?_ | refine i_gd rfl ?_ | refine c_t rfl ?_ | refine c_f rfl ?_ | refine jc rfl ?_ | refine ja rfl rfl ?_ | refine jf rfl rfl ?_ | (refine sp ?_ ?_ <;> try intro h) | refine sf rfl rfl (f_R1_In _ _ _) ?_ | fail)
   all_goals first
    | refine e_for hlt (next (by simp [nameAt] at *; omega)) ft
    | refine e_ret ⟨rfl, _, rfl, bad (by simp [nameAt] at *; omega)⟩
 · have hge : ¬ k < s.length := by simpa using h
   have hall := namesFrom_take s k hi (by omega)
   clear hi
   repeat (first | refine i_s rfl ?_ | refine sw ?_ | refine sf rfl rfl (f_R1_In _ _ _) ?_)
   refine e_ret ⟨rfl, _, rfl, congrArg V.bool ?_⟩
   simp only [nameB, hall, Bool.true_and]
   congr 1 <;> exact decide_eq_decide.2 (by omega)
def c_types_IsName : Cmd :=
 (qS [qb 2 false]
 (qT (qS [qm 5 0, qq 6 (.len true (.t 5)), qc 7 0]
 (.block 0 (.loop (qS [qu 8 .lss [] 7 6]
 (qT (.cond (.t 8) .skip (.exit 0))
 (qT (.block 1 (qS [qm 9 7, qm 3 9]
 (qS [qm 10 0, qm 11 3, qq 12 (.index (.t 10) (.t 11)), qm 4 12]
 (qS [qm 13 4, qq 14 (.bin .geq false [] (.t 13) (.c (.int .u8 97))), qm 15 14, qg 16 15 true (.mov (.t 4)), qg 17 15 true (.bin .leq false [] (.t 16) (.c (.int .u8 122))), qq 18 (.pick (.t 15) (.t 17) (.c (.bool false))), qm 19 18, qg 20 19 false (.mov (.t 3)), qg 21 19 false (.bin .gtr false [] (.t 20) (.c (.int .i64 0))), qg 22 19 false (.mov (.t 21)), qg 23 22 true (.mov (.t 4)), qg 24 22 true (.bin .geq false [] (.t 23) (.c (.int .u8 48))), qg 25 22 true (.mov (.t 24)), qg 26 25 true (.mov (.t 4)), qg 27 25 true (.bin .leq false [] (.t 26) (.c (.int .u8 57))), qg 28 22 true (.pick (.t 25) (.t 27) (.c (.bool false))), qg 29 22 true (.mov (.t 28)), qg 30 29 false (.mov (.t 4)), qg 31 29 false (.bin .eql false [.i] (.t 30) (.c (.int .u8 45))), qg 32 22 true (.pick (.t 29) (.c (.bool true)) (.t 31)), qg 33 19 false (.pick (.t 22) (.t 32) (.c (.bool false))), qq 34 (.pick (.t 19) (.c (.bool true)) (.t 33)), qq 35 (.not (.t 34))]
 (.cond (.t 35) (.seq (.ops [qb 2 false]) .ret) .skip)))))
 (.ops [qv 36 .add [] 7 1, qm 7 36])))))))
 (.seq (.ops [qm 37 0, qq 38 (.len true (.t 37)), qv 39 .geq [] 38 1, qm 40 39, qg 41 40 true (.mov (.t 0)), qg 42 40 true (.len true (.t 41)), qg 43 40 true (.bin .leq false [] (.t 42) (.c (.int .i64 12))), qq 44 (.pick (.t 40) (.t 43) (.c (.bool false))), qm 2 44]) .ret)))
def r_types_IsName : List RVar := [.tmp 2]
def n_types_IsName : Nat := 45
theorem k_types_IsName : chkFn PG 71 n_types_IsName r_types_IsName c_types_IsName = true := by kernel_rfl
theorem f_types_IsName (s : List UInt8) (hl : s.length ≤ 140737488355328) : Fc PG 71 [.str s] (.bool (nameB s)) := by
 refine Fn.step mixed k_types_IsName ?_
 repeat (first | refine i_s rfl ?_ | refine sw ?_)
 refine c_for s.length (fun k => [(0, .str s), (6, .int .i64 s.length), (7, .int .i64 k)]) (fun _ => []) (fun k => ∀ j, j < k → ∀ c, s[j]? = some c → nameAt j c = true) all_zero ft fun k hk hi => ?_
 repeat (first | refine i_s rfl ?_ | refine sw ?_)
 refine c_cond rfl (fun h => ?_) (fun h => ?_)
 · have hlt : k < s.length := by simpa using h
   obtain ⟨c, hc⟩ := get_some hlt
   have next : nameAt k c = true → ∀ j, j < k + 1 → ∀ c, s[j]? = some c → nameAt j c = true := fun hn => all_succ hi fun c' hc' => by
    rw [hc] at hc'; injection hc' with hc'; rw [← hc']; exact hn
   have bad : nameAt k c = false → V.bool (nameB s) = V.bool false := fun hn => by simp [nameB, namesFrom_false hc hn]
   clear hi h
   repeat' (first | refine i_s rfl ?_ | refine sw ?_ | refine i_gt rfl ?_ | refine i_gf rfl ?_ | refine i_gd rfl ?_ | refine c_t rfl ?_ | refine c_f rfl ?_ | refine ja rfl rfl ?_ | refine jf rfl rfl ?_ | (refine sp ?_ ?_ <;> try intro h) | fail)
   all_goals first
    | refine e_for hlt (next (by simp [nameAt] at *; omega)) ft
    | refine e_ret ⟨rfl, _, rfl, bad (by simp [nameAt] at *; omega)⟩
 · have hge : ¬ k < s.length := by simpa using h
   have hall := namesFrom_take s k hi (by omega)
   clear hi
   repeat' (first | refine i_s rfl ?_ | refine sw ?_ | refine i_gt rfl ?_ | refine i_gf rfl ?_ | refine i_g rfl (fun h => ?_) (fun h => ?_))
   all_goals refine e_ret ⟨rfl, _, rfl, congrArg V.bool ?_⟩
   · have h' := of_decide_eq_true h
     have e : decide (1 ≤ s.length) = true := decide_eq_true (by omega)
     simp only [nameB, hall, e, Bool.true_and]
     exact decide_eq_decide.2 (by omega)
   · have h' := of_decide_eq_false h
     have : decide (1 ≤ s.length) = false := decide_eq_false (by omega)
     simp [nameB, this]
def c_slices_IndexFunc_Type : Cmd :=
 (qS [qc 4 0]
 (qT (qS [qm 6 0, qn 7 6, qc 8 0]
 (.block 0 (.loop (qS [qu 9 .lss [] 8 7]
 (qT (.cond (.t 9) .skip (.exit 0))
 (qT (.block 1 (qS [qm 10 8, qm 5 10]
 (qS [qm 11 1, qm 12 0, qm 13 5, qi 14 2 12 13, qL 15 2 14, qq 16 (.call .f (.t 11) [.t 15])]
 (.cond (.t 16) (.seq (.ops [qm 17 5, qm 4 17]) .ret) .skip))))
 (.ops [qv 18 .add [] 8 1, qm 8 18])))))))
 (.seq (.ops [qc 4 (-1)]) .ret)))
def r_slices_IndexFunc_Type : List RVar := [.tmp 4]
def n_slices_IndexFunc_Type : Nat := 19
theorem k_slices_IndexFunc_Type : chkFn PG 126 n_slices_IndexFunc_Type r_slices_IndexFunc_Type c_slices_IndexFunc_Type = true := by kernel_rfl
theorem f_IndexFunc_Type (l : List Typ) (p : Typ → Bool) (fid : Nat) (caps : List V) (hl : l.length ≤ 140737488355328) (he : ∀ σ n, caps.map (er σ (n + 1)) = caps) (hc : closedL [] caps = true) (hp : ∀ t ∈ l, Fc PG fid (tyV t :: caps) (.bool (p t))) :
  Fc PG 126 [.sl .p (l.map tyV), .fn fid caps] (.int .i64 (fidx p l)) := by
 refine Fn.step mixed k_slices_IndexFunc_Type ?_
 repeat (first | refine i_len rfl ?_ | refine i_s rfl ?_ | refine sw ?_)
 refine c_for l.length (fun k => [(0, .sl .p (l.map tyV)), (1, .fn fid caps), (7, .int .i64 l.length), (8, .int .i64 k)]) (fun _ => []) (fun k => ∀ j, j < k → ∀ c, l[j]? = some c → p c = false) all_zero ?_ fun k hk hi => ?_
 · exact ⟨⟨rfl, rfl, rfl, rfl, trivial⟩, trivial, by simp [fitB, closedE, closedB, hc, closedSt, hasAll]⟩
 repeat (first | refine i_s rfl ?_ | refine sw ?_)
 refine c_cond rfl (fun h => ?_) (fun h => ?_)
 · have hlt : k < l.length := by simpa using h
   obtain ⟨c, hget⟩ := get_some hlt
   repeat (first | refine i_s rfl ?_ | refine sw ?_ | refine jd rfl rfl ?_)
   refine i_f rfl (congrArg (tyV c :: ·) (he _ 5)) (hp c (mem_get hget)) rfl ?_
   repeat' (first | refine i_s rfl ?_ | refine sw ?_ | refine ja rfl rfl ?_ | refine c_cond rfl (fun h => ?_) (fun h => ?_))
   · refine e_ret ⟨rfl, _, rfl, congrArg (V.int .i64) (fidx_hit hi hget h)⟩
   · refine e_for hlt (all_succ hi fun c' hc' => ?_) ⟨⟨rfl, rfl, rfl, rfl, trivial⟩, trivial, by simp [fitB, closedE, closedB, hc, closedSt, hasAll]⟩
     rw [hget] at hc'; cases hc'; exact h
 · have hge : ¬ k < l.length := by simpa using h
   repeat' (first | refine i_s rfl ?_ | refine sw ?_ | fail)
   refine e_ret ⟨rfl, _, rfl, congrArg (V.int .i64) (fidx_none fun j hj => hi j (by omega))⟩
def c_slices_ContainsFunc_Type : Cmd :=
 (qS [qb 4 false]
 (.seq (.ops [qm 5 0, qm 6 1, qk 7 126 [5, 6], qv 8 .geq [] 7 0, qm 4 8]) .ret))
def r_slices_ContainsFunc_Type : List RVar := [.tmp 4]
def n_slices_ContainsFunc_Type : Nat := 9
theorem k_slices_ContainsFunc_Type : chkFn PG 72 n_slices_ContainsFunc_Type r_slices_ContainsFunc_Type c_slices_ContainsFunc_Type = true := by kernel_rfl
theorem f_ContainsFunc_Type (l : List Typ) (p : Typ → Bool) (fid : Nat) (caps : List V) (hl : l.length ≤ 140737488355328) (he : ∀ σ n, caps.map (er σ (n + 1)) = caps) (hc : closedL [] caps = true) (hp : ∀ t ∈ l, Fc PG fid (tyV t :: caps) (.bool (p t))) :
  Fc PG 72 [.sl .p (l.map tyV), .fn fid caps] (.bool (l.any p)) := by
 refine Fn.step mixed k_slices_ContainsFunc_Type ?_
 repeat (first | refine i_s rfl ?_ | refine sw ?_)
 refine i_f rfl (congrArg (fun x => [V.sl .p (l.map tyV), .fn fid x]) (he _ 4)) (f_IndexFunc_Type l p fid caps hl he hc hp) rfl ?_
 repeat' (first | refine i_s rfl ?_ | refine sw ?_ | fail)
 refine e_ret ⟨rfl, _, rfl, congrArg V.bool (fidx_any p l).symm⟩
def TyOk (l : List Typ) : Prop := l.length ≤ 140737488355328 ∧ ∀ t ∈ l, t.name.length ≤ 140737488355328
def c_types_Validate_1 : Cmd :=
 (qS [qx 2 4672130 2 0, qb 3 false]
 (.seq (.ops [qf 4 0 2, ql 5 1 4, qf 6 0 1, ql 7 1 6, qu 8 .eql [.s] 5 7, qm 3 8]) .ret))
def r_types_Validate_1 : List RVar := [.tmp 3]
def n_types_Validate_1 : Nat := 9
theorem k_types_Validate_1 : chkFn PG 73 n_types_Validate_1 r_types_Validate_1 c_types_Validate_1 = true := by kernel_rfl
theorem f_types_Validate_1 (u t : Typ) : Fc PG 73 [tyV u, .cptr .p (tyV t) 0] (.bool (u.name == t.name)) := by
 refine Fn.step mixed k_types_Validate_1 ?_
 repeat' (first | refine i_s rfl ?_ | refine sw ?_ | refine i_box rfl rfl ?_)
 exact e_ret ⟨rfl, _, rfl, rfl⟩
theorem typesFault_big {l : List Typ} (h : 8 < l.length) : typesFault l = ⟨2, -1⟩ := by unfold typesFault; rw [if_pos h]
theorem typesFault_hit {l : List Typ} (h : ¬ 8 < l.length) {k : Nat} {f : Flt} (hi : ∀ j, j < k → tyBad l j = none) (hk : k < l.length) (hf : tyBad l k = some f) : typesFault l = f := by
 unfold typesFault; rw [if_neg h, scan0_hit hi hk hf]; rfl
theorem typesFault_ok {l : List Typ} (h : ¬ 8 < l.length) (hi : ∀ j, j < l.length → tyBad l j = none) : typesFault l = okF := by
 unfold typesFault; rw [if_neg h, scan0_none hi]; rfl
def c_types_Validate : Cmd :=
 (qS [qq 2 (.alloc 1472130 (.agg [.int .i64 0, .int .i64 0]))]
 (qT (qS [qm 5 0, qn 6 5, qv 7 .gtr [] 6 8]
 (.cond (.t 7) (.seq (.ops [qq 8 (.build [.int .i64 0, .int .i64 0] [(0 , 1 , .c (.int .i64 2)), (1 , 1 , .c (.int .i64 (-1)))]), qs 2 2 8]) .ret) .skip))
 (qT (qS [qm 9 0, qn 10 9, qc 11 0]
 (.block 0 (.loop (qS [qu 12 .lss [] 11 10]
 (qT (.cond (.t 12) .skip (.exit 0))
 (qT (.block 1 (qS [qm 13 11, qi 14 2 9 11, qL 15 2 14, qq 4 (.alloc 1472258 (.agg [.str [], .int .i64 0])), qm 3 13, qs 2 4 15]
 (.block 2 (qS [qf 17 0 4, ql 18 1 17, qk 19 71 [18], qq 20 (.not (.t 19)), qm 21 20, qg 22 21 false (.faddr 0 (.t 4)), qg 23 21 false (.load false 1 (.t 22)), qg 24 21 false (.bin .eql false [.s] (.t 23) (.c (.str [111, 98, 106, 101, 99, 116]))), qq 25 (.pick (.t 21) (.c (.bool true)) (.t 24)), qm 16 25]
 (.cond (.t 16) (.seq (.ops [qm 26 3, qq 27 (.build [.int .i64 0, .int .i64 0] [(0 , 1 , .c (.int .i64 12)), (1 , 1 , .t 26)]), qs 2 2 27]) .ret) (qS [qm 29 0, qm 30 3, qq 31 (.slice false 2 (.t 29) none (some (.t 30))), qq 32 (.mkfn 73 [.t 4]), qk 33 72 [31, 32], qm 28 33]
 (.cond (.t 28) (.seq (.ops [qm 34 3, qq 35 (.build [.int .i64 0, .int .i64 0] [(0 , 1 , .c (.int .i64 7)), (1 , 1 , .t 34)]), qs 2 2 35]) .ret) (qS [qf 37 1 4, ql 38 1 37, qv 39 .lss [] 38 (-1), qm 40 39, qg 41 40 false (.faddr 1 (.t 4)), qg 42 40 false (.load false 1 (.t 41)), qg 43 40 false (.mov (.t 3)), qg 44 40 false (.bin .geq false [] (.t 42) (.t 43)), qq 45 (.pick (.t 40) (.c (.bool true)) (.t 44)), qm 36 45]
 (.cond (.t 36) (.seq (.ops [qm 46 3, qq 47 (.build [.int .i64 0, .int .i64 0] [(0 , 1 , .c (.int .i64 3)), (1 , 1 , .t 46)]), qs 2 2 47]) .ret) .skip)))))))))
 (.ops [qv 48 .add [] 11 1, qm 11 48])))))))
 (.seq (.ops [qq 49 (.build [.int .i64 0, .int .i64 0] []), qs 2 2 49]) .ret))))
def r_types_Validate : List RVar := [.cell true 2 2]
def n_types_Validate : Nat := 50
theorem k_types_Validate : chkFn PG 23 n_types_Validate r_types_Validate c_types_Validate = true := by kernel_rfl
theorem f_types_Validate (l : List Typ) (ho : TyOk l) : Fc PG 23 [.sl .p (l.map tyV)] (ftV (typesFault l)) := by
 obtain ⟨hl, hn⟩ := ho
 refine Fn.step mixed k_types_Validate ?_
 repeat' (first | refine i_len rfl ?_ | refine i_s rfl ?_ | refine sw ?_ | refine i_stb rfl ?_ | refine i_alloc rfl ?_ | refine c_cond rfl (fun h => ?_) (fun h => ?_))
 · exact e_ret ⟨rfl, _, rfl, congr_ft (typesFault_big (by have := of_decide_eq_true h; simp at this; omega))⟩
 have h8 : ¬ 8 < l.length := by have := of_decide_eq_false h; simp at this; omega
 clear h
 refine c_for l.length (fun k => [(0, .sl .p (l.map tyV)), (2, .bptr 1472130 0), (9, .sl .p (l.map tyV)), (10, .int .i64 l.length), (11, .int .i64 k)]) (fun _ => [(1472130, .box (ftV okF))]) (fun k => ∀ j, j < k → tyBad l j = none) all_zero ft fun k hk hi => ?_
 repeat (first | refine i_s rfl ?_ | refine sw ?_)
 refine c_cond rfl (fun h => ?_) (fun h => ?_)
 · have hlt : k < l.length := by simpa using h
   obtain ⟨t, ht⟩ := get_some hlt
   have hnt := hn t (mem_get ht)
   have hbad : tyBad l k = if nameB t.name = false ∨ t.name = objectS then some ⟨12, k⟩ else if (l.take k).any (fun u => u.name == t.name) = true then some ⟨7, k⟩
    else if t.parent < -1 ∨ t.parent ≥ k then some ⟨3, k⟩ else none := by simp [tyBad, ht]
   clear h
   have hC := f_ContainsFunc_Type (l.take k) (fun u => u.name == t.name) 73 [.cptr .p (tyV t) 0] (by simp; omega) (fun _ _ => rfl) rfl (fun u _ => f_types_Validate_1 u t)
   repeat' (first | refine i_s rfl ?_ | refine sw ?_ | refine i_gt rfl ?_ | refine i_gf rfl ?_ | refine c_t rfl ?_ | refine ja rfl rfl ?_ | refine jd rfl rfl ?_ | refine jh rfl rfl ?_ | refine i_stb rfl ?_ | refine i_alloc rfl ?_ | (refine sp ?_ ?_ <;> try intro h) | refine sf rfl rfl (f_types_IsName _ hnt) ?_ | refine sf rfl rfl hC ?_ | fail)
   all_goals clear hC hn ht hk
   all_goals first
    | refine e_ret ⟨rfl, _, rfl, congr_ft (typesFault_hit h8 hi hlt ?_)⟩; clear hi
    | refine e_for hlt (all_succ hi ?_) ft; clear hi
   all_goals rw [hbad]; clear hbad
   all_goals generalize (l.take k).any _ = bb at *
   all_goals grind [objectS]
 · have hge : ¬ k < l.length := by simpa using h
   repeat' (first | refine i_s rfl ?_ | refine sw ?_ | refine i_stb rfl ?_)
   exact e_ret ⟨rfl, _, rfl, congr_ft (typesFault_ok h8 fun j hj => hi j (by omega))⟩
def c_R1_TypesFault : Cmd :=
 (qS [qq 2 (.alloc 1856130 (.agg [.int .i64 0, .int .i64 0]))]
 (qT (qS [qm 5 0, qn 6 5, qv 7 .gtr [] 6 8]
 (.cond (.t 7) (.seq (.ops [qq 8 (.call .f (.c (.fn 20 [])) [.c (.int .i64 2), .c (.int .i64 (-1))]), qs 2 2 8]) .ret) .skip))
 (qT (qS [qc 3 0]
 (.block 0 (.loop (qT (qS [qm 9 3, qm 10 0, qn 11 10, qu 12 .lss [] 9 11]
 (.cond (.t 12) .skip (.exit 0)))
 (qT (.block 1 (qT (qS [qm 15 0, qm 16 3, qi 17 2 15 16, qf 18 0 17, ql 19 1 18, qk 20 31 [19], qq 21 (.not (.t 20)), qm 22 21, qg 23 22 false (.mov (.t 0)), qg 24 22 false (.mov (.t 3)), qg 25 22 false (.iaddr 2 (.t 23) (.t 24)), qg 26 22 false (.faddr 0 (.t 25)), qg 27 22 false (.load false 1 (.t 26)), qg 28 22 false (.bin .eql false [.s] (.t 27) (.c (.str [111, 98, 106, 101, 99, 116]))), qq 29 (.pick (.t 22) (.c (.bool true)) (.t 28))]
 (.cond (.t 29) (.seq (.ops [qm 30 3, qq 31 (.call .f (.c (.fn 20 [])) [.c (.int .i64 12), .t 30]), qs 2 2 31]) .ret) .skip))
 (qT (qS [qc 4 0]
 (.block 2 (.loop (qT (qS [qm 32 4, qm 33 3, qu 34 .lss [] 32 33]
 (.cond (.t 34) .skip (.exit 2)))
 (qT (.block 3 (qS [qm 37 0, qm 38 4, qi 39 2 37 38, qf 40 0 39, ql 41 1 40, qm 42 0, qm 43 3, qi 44 2 42 43, qf 45 0 44, ql 46 1 45, qu 47 .eql [.s] 41 46]
 (.cond (.t 47) (.seq (.ops [qm 48 3, qq 49 (.call .f (.c (.fn 20 [])) [.c (.int .i64 7), .t 48]), qs 2 2 49]) .ret) .skip)))
 (.ops [qm 35 4, qv 36 .add [] 35 1, qm 4 36]))))))
 (qS [qm 50 0, qm 51 3, qi 52 2 50 51, qf 53 1 52, ql 54 1 53, qm 55 3, qv 56 .sub [] 55 1, qq 57 (.call .f (.c (.fn 17 [])) [.t 54, .c (.int .i64 (-1)), .t 56]), qq 58 (.not (.t 57))]
 (.cond (.t 58) (.seq (.ops [qm 59 3, qq 60 (.call .f (.c (.fn 20 [])) [.c (.int .i64 3), .t 59]), qs 2 2 60]) .ret) .skip)))))
 (.ops [qm 13 3, qv 14 .add [] 13 1, qm 3 14]))))))
 (.seq (.ops [qq 61 (.build [.int .i64 0, .int .i64 0] []), qs 2 2 61]) .ret))))
def r_R1_TypesFault : List RVar := [.cell true 2 2]
def n_R1_TypesFault : Nat := 62
theorem k_R1_TypesFault : chkFn PG 29 n_R1_TypesFault r_R1_TypesFault c_R1_TypesFault = true := by kernel_rfl
theorem f_R1_TypesFault (l : List Typ) (ho : TyOk l) : Fc PG 29 [.sl .p (l.map tyV)] (ftV (typesFault l)) := by
 obtain ⟨hl, hn⟩ := ho
 refine Fn.step mixed k_R1_TypesFault ?_
 repeat' (first | refine i_len rfl ?_ | refine i_s rfl ?_ | refine sw ?_ | refine i_stb rfl ?_ | refine i_alloc rfl ?_ | refine c_cond rfl (fun h => ?_) (fun h => ?_) | refine sf rfl rfl (f_R1_At _ _) ?_ | fail)
 · exact e_ret ⟨rfl, _, rfl, congr_ft (typesFault_big (by have := of_decide_eq_true h; simp at this; omega))⟩
 have h8 : ¬ 8 < l.length := by have := of_decide_eq_false h; simp at this; omega
 clear h
 refine c_for l.length (fun k => [(0, .sl .p (l.map tyV)), (2, .bptr 1856130 0), (3, .int .i64 k)]) (fun _ => [(1856130, .box (ftV okF))]) (fun k => ∀ j, j < k → tyBad l j = none) all_zero ft fun k hk hi => ?_
 repeat (first | refine i_len rfl ?_ | refine i_s rfl ?_ | refine sw ?_)
 refine c_cond rfl (fun h => ?_) (fun h => ?_)
 · have hlt : k < l.length := by simpa using h
   obtain ⟨t, ht⟩ := get_some hlt
   have hnt := hn t (mem_get ht)
   have hbad : tyBad l k = if nameB t.name = false ∨ t.name = objectS then some ⟨12, k⟩ else if (l.take k).any (fun u => u.name == t.name) = true then some ⟨7, k⟩
    else if t.parent < -1 ∨ t.parent ≥ k then some ⟨3, k⟩ else none := by simp [tyBad, ht]
   clear h
   repeat' (first | refine i_s rfl ?_ | refine sw ?_ | refine i_gt rfl ?_ | refine i_gf rfl ?_ | refine c_t rfl ?_ | refine jd rfl rfl ?_ | refine i_stb rfl ?_ | (refine sp ?_ ?_ <;> try intro h) | refine sf rfl rfl (f_R1_Name _ hnt) ?_ | refine sf rfl rfl (f_R1_At _ _) ?_ | fail)
   · refine e_ret ⟨rfl, _, rfl, congr_ft (typesFault_hit h8 hi hlt ?_)⟩
     rw [hbad]; clear hbad; grind [objectS]
   · refine c_for k (fun j => [(0, .sl .p (l.map tyV)), (2, .bptr 1856130 0), (3, .int .i64 k), (4, .int .i64 j)]) (fun _ => [(1856130, .box (ftV okF))]) (fun j => ∀ i, i < j → ∀ u, l[i]? = some u → (u.name == t.name) = false) all_zero ft fun j hj hij => ?_
     repeat (first | refine i_s rfl ?_ | refine sw ?_)
     refine c_cond rfl (fun h2 => ?_) (fun h2 => ?_)
     · have hjk : j < k := by simpa using h2
       obtain ⟨u, hu⟩ := get_some (Nat.lt_trans hjk hlt)
       repeat' (first | refine i_s rfl ?_ | refine sw ?_ | refine ja rfl rfl ?_ | refine jd rfl rfl ?_ | refine i_stb rfl ?_ | refine c_cond rfl (fun h => ?_) (fun h => ?_) | refine sf rfl rfl (f_R1_At _ _) ?_ | fail)
       · refine e_ret ⟨rfl, _, rfl, congr_ft (typesFault_hit h8 hi hlt ?_)⟩
         have := any_take_hit (p := fun u => u.name == t.name) hjk hu h
         rw [hbad]; clear hbad; grind [objectS]
       · exact e_for hjk (all_succ hij fun v hv => by rw [hu] at hv; cases hv; exact h) ft
     · have hge : ¬ j < k := by simpa using h2
       have hany : (l.take k).any (fun u => u.name == t.name) = false := any_take_none fun i hik => hij i (by omega)
       clear h2 hij
       repeat' (first | refine i_s rfl ?_ | refine sw ?_ | refine ja rfl rfl ?_ | refine jb rfl rfl ?_ | refine jd rfl rfl ?_ | refine i_stb rfl ?_ | refine c_cond rfl (fun h => ?_) (fun h => ?_) | refine sf rfl rfl (f_R1_In _ _ _) ?_ | refine sf rfl rfl (f_R1_At _ _) ?_ | fail)
       · refine e_ret ⟨rfl, _, rfl, congr_ft (typesFault_hit h8 hi hlt ?_)⟩
         rw [hbad]; clear hbad; grind [objectS]
       · refine e_for hlt (all_succ hi ?_) ft
         rw [hbad]; clear hbad; grind [objectS]
   · refine e_ret ⟨rfl, _, rfl, congr_ft (typesFault_hit h8 hi hlt ?_)⟩
     rw [hbad]; clear hbad; grind [objectS]
 · have hge : ¬ k < l.length := by simpa using h
   repeat' (first | refine i_s rfl ?_ | refine sw ?_ | refine i_stb rfl ?_)
   exact e_ret ⟨rfl, _, rfl, congr_ft (typesFault_ok h8 fun j hj => hi j (by omega))⟩
def c_slices_IndexFunc_Object : Cmd :=
 (qS [qc 4 0]
 (qT (qS [qm 6 0, qn 7 6, qc 8 0]
 (.block 0 (.loop (qS [qu 9 .lss [] 8 7]
 (qT (.cond (.t 9) .skip (.exit 0))
 (qT (.block 1 (qS [qm 10 8, qm 5 10]
 (qS [qm 11 1, qm 12 0, qm 13 5, qi 14 2 12 13, qL 15 2 14, qq 16 (.call .f (.t 11) [.t 15])]
 (.cond (.t 16) (.seq (.ops [qm 17 5, qm 4 17]) .ret) .skip))))
 (.ops [qv 18 .add [] 8 1, qm 8 18])))))))
 (.seq (.ops [qc 4 (-1)]) .ret)))
def r_slices_IndexFunc_Object : List RVar := [.tmp 4]
def n_slices_IndexFunc_Object : Nat := 19
theorem k_slices_IndexFunc_Object : chkFn PG 127 n_slices_IndexFunc_Object r_slices_IndexFunc_Object c_slices_IndexFunc_Object = true := by kernel_rfl
theorem f_IndexFunc_Object (l : List Obj) (p : Obj → Bool) (fid : Nat) (caps : List V) (hl : l.length ≤ 140737488355328) (he : ∀ σ n, caps.map (er σ (n + 1)) = caps) (hc : closedL [] caps = true) (hp : ∀ t ∈ l, Fc PG fid (obV t :: caps) (.bool (p t))) :
  Fc PG 127 [.sl .p (l.map obV), .fn fid caps] (.int .i64 (fidx p l)) := by
 refine Fn.step mixed k_slices_IndexFunc_Object ?_
 repeat (first | refine i_len rfl ?_ | refine i_s rfl ?_ | refine sw ?_)
 refine c_for l.length (fun k => [(0, .sl .p (l.map obV)), (1, .fn fid caps), (7, .int .i64 l.length), (8, .int .i64 k)]) (fun _ => []) (fun k => ∀ j, j < k → ∀ c, l[j]? = some c → p c = false) all_zero ?_ fun k hk hi => ?_
 · exact ⟨⟨rfl, rfl, rfl, rfl, trivial⟩, trivial, by simp [fitB, closedE, closedB, hc, closedSt, hasAll]⟩
 repeat (first | refine i_s rfl ?_ | refine sw ?_)
 refine c_cond rfl (fun h => ?_) (fun h => ?_)
 · have hlt : k < l.length := by simpa using h
   obtain ⟨c, hget⟩ := get_some hlt
   repeat (first | refine i_s rfl ?_ | refine sw ?_ | refine jd rfl rfl ?_)
   refine i_f rfl (congrArg (obV c :: ·) (he _ 5)) (hp c (mem_get hget)) rfl ?_
   repeat' (first | refine i_s rfl ?_ | refine sw ?_ | refine ja rfl rfl ?_ | refine c_cond rfl (fun h => ?_) (fun h => ?_))
   · refine e_ret ⟨rfl, _, rfl, congrArg (V.int .i64) (fidx_hit hi hget h)⟩
   · refine e_for hlt (all_succ hi fun c' hc' => ?_) ⟨⟨rfl, rfl, rfl, rfl, trivial⟩, trivial, by simp [fitB, closedE, closedB, hc, closedSt, hasAll]⟩
     rw [hget] at hc'; cases hc'; exact h
 · have hge : ¬ k < l.length := by simpa using h
   repeat' (first | refine i_s rfl ?_ | refine sw ?_ | fail)
   refine e_ret ⟨rfl, _, rfl, congrArg (V.int .i64) (fidx_none fun j hj => hi j (by omega))⟩
def c_slices_ContainsFunc_Object : Cmd :=
 (qS [qb 4 false]
 (.seq (.ops [qm 5 0, qm 6 1, qk 7 127 [5, 6], qv 8 .geq [] 7 0, qm 4 8]) .ret))
def r_slices_ContainsFunc_Object : List RVar := [.tmp 4]
def n_slices_ContainsFunc_Object : Nat := 9
theorem k_slices_ContainsFunc_Object : chkFn PG 74 n_slices_ContainsFunc_Object r_slices_ContainsFunc_Object c_slices_ContainsFunc_Object = true := by kernel_rfl
theorem f_ContainsFunc_Object (l : List Obj) (p : Obj → Bool) (fid : Nat) (caps : List V) (hl : l.length ≤ 140737488355328) (he : ∀ σ n, caps.map (er σ (n + 1)) = caps) (hc : closedL [] caps = true) (hp : ∀ t ∈ l, Fc PG fid (obV t :: caps) (.bool (p t))) :
  Fc PG 74 [.sl .p (l.map obV), .fn fid caps] (.bool (l.any p)) := by
 refine Fn.step mixed k_slices_ContainsFunc_Object ?_
 repeat (first | refine i_s rfl ?_ | refine sw ?_)
 refine i_f rfl (congrArg (fun x => [V.sl .p (l.map obV), .fn fid x]) (he _ 4)) (f_IndexFunc_Object l p fid caps hl he hc hp) rfl ?_
 repeat' (first | refine i_s rfl ?_ | refine sw ?_ | fail)
 refine e_ret ⟨rfl, _, rfl, congrArg V.bool (fidx_any p l).symm⟩
theorem typesFault_code (l : List Typ) : (typesFault l).code = 0 ↔ typesFault l = okF := by
 refine ⟨fun h => ?_, fun h => by rw [h]; rfl⟩
 unfold typesFault at h ⊢
 split at h
 · cases h
 · rename_i h8
   rw [if_neg h8]
   have := scan_prop (bad := tyBad l) (fun o => ∀ f, o = some f → f.code ≠ 0) (by simp) (fun i => tyBad_code l i) l.length 0
   cases hs : scan (tyBad l) 0 l.length with
   | none => rfl
   | some f => rw [hs] at h; exact absurd h (this f hs)
def ObOk (l : List Obj) : Prop := l.length ≤ 140737488355328 ∧ ∀ t ∈ l, t.name.length ≤ 140737488355328
def c_types_Objects_1 : Cmd :=
 (qS [qx 2 4800130 2 0, qb 3 false]
 (.seq (.ops [qf 4 0 2, ql 5 1 4, qf 6 0 1, ql 7 1 6, qu 8 .eql [.s] 5 7, qm 3 8]) .ret))
def r_types_Objects_1 : List RVar := [.tmp 3]
def n_types_Objects_1 : Nat := 9
theorem k_types_Objects_1 : chkFn PG 75 n_types_Objects_1 r_types_Objects_1 c_types_Objects_1 = true := by kernel_rfl
theorem f_types_Objects_1 (u t : Obj) : Fc PG 75 [obV u, .cptr .p (obV t) 0] (.bool (u.name == t.name)) := by
 refine Fn.step mixed k_types_Objects_1 ?_
 repeat' (first | refine i_s rfl ?_ | refine sw ?_ | refine i_box rfl rfl ?_)
 exact e_ret ⟨rfl, _, rfl, rfl⟩
theorem objectsFault_big {n : Nat} {l : List Obj} (h : 8 < l.length) : objectsFault n l = ⟨2, -3⟩ := by unfold objectsFault; rw [if_pos h]
theorem objectsFault_hit {n : Nat} {l : List Obj} (h : ¬ 8 < l.length) {k : Nat} {f : Flt} (hi : ∀ j, j < k → obBad n l j = none) (hk : k < l.length) (hf : obBad n l k = some f) : objectsFault n l = f := by
 unfold objectsFault; rw [if_neg h, scan0_hit hi hk hf]; rfl
theorem objectsFault_ok {n : Nat} {l : List Obj} (h : ¬ 8 < l.length) (hi : ∀ j, j < l.length → obBad n l j = none) : objectsFault n l = okF := by
 unfold objectsFault; rw [if_neg h, scan0_none hi]; rfl
def c_types_Objects : Cmd :=
 (qS [qq 4 (.alloc 1536258 (.agg [.int .i64 0, .int .i64 0]))]
 (qT (qS [qm 8 1, qn 9 8, qv 10 .gtr [] 9 8]
 (.cond (.t 10) (.seq (.ops [qq 11 (.build [.int .i64 0, .int .i64 0] [(0 , 1 , .c (.int .i64 2)), (1 , 1 , .c (.int .i64 (-3)))]), qs 2 4 11]) .ret) .skip))
 (qT (qS [qm 12 1, qn 13 12, qc 14 0]
 (.block 0 (.loop (qS [qu 15 .lss [] 14 13]
 (qT (.cond (.t 15) .skip (.exit 0))
 (qT (.block 1 (qS [qm 16 14, qi 17 2 12 14, qL 18 2 17, qq 6 (.alloc 1536386 (.agg [.str [], .int .i64 0])), qm 5 16, qs 2 6 18]
 (qS [qc 7 0]
 (qT (.block 2 (qS [qf 20 0 6, ql 21 1 20, qk 22 71 [21], qq 23 (.not (.t 22)), qm 19 23]
 (.cond (.t 19) (.ops [qc 7 12]) (qS [qm 25 1, qm 26 5, qq 27 (.slice false 2 (.t 25) none (some (.t 26))), qq 28 (.mkfn 75 [.t 6]), qk 29 74 [27, 28], qm 24 29]
 (.cond (.t 24) (.ops [qc 7 7]) (qS [qf 31 1 6, ql 32 1 31, qv 33 .lss [] 32 (-1), qm 34 33, qg 35 34 false (.faddr 1 (.t 6)), qg 36 34 false (.load false 1 (.t 35)), qg 37 34 false (.mov (.t 0)), qg 38 34 false (.len false (.t 37)), qg 39 34 false (.bin .geq false [] (.t 36) (.t 38)), qq 40 (.pick (.t 34) (.c (.bool true)) (.t 39)), qm 30 40]
 (.cond (.t 30) (.ops [qc 7 3]) .skip)))))))
 (qS [qm 41 7, qv 42 .neq [.i] 41 0]
 (.cond (.t 42) (.seq (.ops [qm 43 7, qm 44 5, qq 45 (.bin .sub false [] (.c (.int .i64 (-10))) (.t 44)), qq 46 (.build [.int .i64 0, .int .i64 0] [(0 , 1 , .t 43), (1 , 1 , .t 45)]), qs 2 4 46]) .ret) .skip))))))
 (.ops [qv 47 .add [] 14 1, qm 14 47])))))))
 (.seq (.ops [qq 48 (.build [.int .i64 0, .int .i64 0] []), qs 2 4 48]) .ret))))
def r_types_Objects : List RVar := [.cell true 2 4]
def n_types_Objects : Nat := 49
theorem k_types_Objects : chkFn PG 24 n_types_Objects r_types_Objects c_types_Objects = true := by kernel_rfl
theorem f_types_Objects (ts : List Typ) (hts : ts.length ≤ 140737488355328) (l : List Obj) (ho : ObOk l) : Fc PG 24 [.sl .p (ts.map tyV), .sl .p (l.map obV)] (ftV (objectsFault ts.length l)) := by
 obtain ⟨hl, hn⟩ := ho
 refine Fn.step mixed k_types_Objects ?_
 repeat' (first | refine i_len rfl ?_ | refine i_s rfl ?_ | refine sw ?_ | refine i_stb rfl ?_ | refine i_alloc rfl ?_ | refine c_cond rfl (fun h => ?_) (fun h => ?_))
 · exact e_ret ⟨rfl, _, rfl, congr_ft (objectsFault_big (by have := of_decide_eq_true h; simp at this; omega))⟩
 have h8 : ¬ 8 < l.length := by have := of_decide_eq_false h; simp at this; omega
 clear h
 refine c_for l.length (fun k => [(0, .sl .p (ts.map tyV)), (1, .sl .p (l.map obV)), (4, .bptr 1536258 0), (12, .sl .p (l.map obV)), (13, .int .i64 l.length), (14, .int .i64 k)]) (fun _ => [(1536258, .box (ftV okF))]) (fun k => ∀ j, j < k → obBad ts.length l j = none) all_zero ft fun k hk hi => ?_
 repeat (first | refine i_s rfl ?_ | refine sw ?_)
 refine c_cond rfl (fun h => ?_) (fun h => ?_)
 · have hlt : k < l.length := by simpa using h
   obtain ⟨t, ht⟩ := get_some hlt
   have hnt := hn t (mem_get ht)
   have hbad : obBad ts.length l k = if nameB t.name = false then some ⟨12, -10 - k⟩ else if (l.take k).any (fun u => u.name == t.name) = true then some ⟨7, -10 - k⟩
    else if t.type < -1 ∨ t.type ≥ ts.length then some ⟨3, -10 - k⟩ else none := by simp [obBad, ht]
   clear h
   have hC := f_ContainsFunc_Object (l.take k) (fun u => u.name == t.name) 75 [.cptr .p (obV t) 0] (by simp; omega) (fun _ _ => rfl) rfl (fun u _ => f_types_Objects_1 u t)
   repeat' (first | refine i_len rfl ?_ | refine i_s rfl ?_ | refine sw ?_ | refine i_gt rfl ?_ | refine i_gf rfl ?_ | refine c_t rfl ?_ | refine c_f rfl ?_ | refine ja rfl rfl ?_ | refine jb rfl rfl ?_ | refine jd rfl rfl ?_ | refine jh rfl rfl ?_ | refine i_stb rfl ?_ | refine i_alloc rfl ?_ | (refine sp ?_ ?_ <;> try intro h) | refine sf rfl rfl (f_types_IsName _ hnt) ?_ | refine sf rfl rfl hC ?_ | fail)
   all_goals clear hC hn ht hk
   all_goals first
    | refine e_ret ⟨rfl, _, rfl, congr_ft (objectsFault_hit h8 hi hlt ?_)⟩; clear hi
    | refine e_for hlt (all_succ hi ?_) ft; clear hi
   all_goals rw [hbad]; clear hbad
   all_goals generalize (l.take k).any _ = bb at *
   all_goals try simp only [List.length_map] at *
   all_goals grind
 · have hge : ¬ k < l.length := by simpa using h
   repeat' (first | refine i_s rfl ?_ | refine sw ?_ | refine i_stb rfl ?_)
   exact e_ret ⟨rfl, _, rfl, congr_ft (objectsFault_ok h8 fun j hj => hi j (by omega))⟩
def c_R1_ObjectsFault : Cmd :=
 (qS [qq 4 (.alloc 1920258 (.agg [.int .i64 0, .int .i64 0]))]
 (qT (qS [qm 7 1, qn 8 7, qv 9 .gtr [] 8 8]
 (.cond (.t 9) (.seq (.ops [qq 10 (.call .f (.c (.fn 20 [])) [.c (.int .i64 2), .c (.int .i64 (-3))]), qs 2 4 10]) .ret) .skip))
 (qT (qS [qc 5 0]
 (.block 0 (.loop (qT (qS [qm 11 5, qm 12 1, qn 13 12, qu 14 .lss [] 11 13]
 (.cond (.t 14) .skip (.exit 0)))
 (qT (.block 1 (qT (qS [qm 17 1, qm 18 5, qi 19 2 17 18, qf 20 0 19, ql 21 1 20, qk 22 31 [21], qq 23 (.not (.t 22))]
 (.cond (.t 23) (.seq (.ops [qm 24 5, qq 25 (.bin .sub false [] (.c (.int .i64 (-10))) (.t 24)), qq 26 (.call .f (.c (.fn 20 [])) [.c (.int .i64 12), .t 25]), qs 2 4 26]) .ret) .skip))
 (qT (qS [qc 6 0]
 (.block 2 (.loop (qT (qS [qm 27 6, qm 28 5, qu 29 .lss [] 27 28]
 (.cond (.t 29) .skip (.exit 2)))
 (qT (.block 3 (qS [qm 32 1, qm 33 6, qi 34 2 32 33, qf 35 0 34, ql 36 1 35, qm 37 1, qm 38 5, qi 39 2 37 38, qf 40 0 39, ql 41 1 40, qu 42 .eql [.s] 36 41]
 (.cond (.t 42) (.seq (.ops [qm 43 5, qq 44 (.bin .sub false [] (.c (.int .i64 (-10))) (.t 43)), qq 45 (.call .f (.c (.fn 20 [])) [.c (.int .i64 7), .t 44]), qs 2 4 45]) .ret) .skip)))
 (.ops [qm 30 6, qv 31 .add [] 30 1, qm 6 31]))))))
 (qS [qm 46 1, qm 47 5, qi 48 2 46 47, qf 49 1 48, ql 50 1 49, qm 51 0, qn 52 51, qv 53 .sub [] 52 1, qq 54 (.call .f (.c (.fn 17 [])) [.t 50, .c (.int .i64 (-1)), .t 53]), qq 55 (.not (.t 54))]
 (.cond (.t 55) (.seq (.ops [qm 56 5, qq 57 (.bin .sub false [] (.c (.int .i64 (-10))) (.t 56)), qq 58 (.call .f (.c (.fn 20 [])) [.c (.int .i64 3), .t 57]), qs 2 4 58]) .ret) .skip)))))
 (.ops [qm 15 5, qv 16 .add [] 15 1, qm 5 16]))))))
 (.seq (.ops [qq 59 (.build [.int .i64 0, .int .i64 0] []), qs 2 4 59]) .ret))))
def r_R1_ObjectsFault : List RVar := [.cell true 2 4]
def n_R1_ObjectsFault : Nat := 60
theorem k_R1_ObjectsFault : chkFn PG 30 n_R1_ObjectsFault r_R1_ObjectsFault c_R1_ObjectsFault = true := by kernel_rfl
theorem f_R1_ObjectsFault (ts : List Typ) (hts : ts.length ≤ 140737488355328) (l : List Obj) (ho : ObOk l) : Fc PG 30 [.sl .p (ts.map tyV), .sl .p (l.map obV)] (ftV (objectsFault ts.length l)) := by
 obtain ⟨hl, hn⟩ := ho
 refine Fn.step mixed k_R1_ObjectsFault ?_
 repeat' (first | refine i_len rfl ?_ | refine i_s rfl ?_ | refine sw ?_ | refine i_stb rfl ?_ | refine i_alloc rfl ?_ | refine c_cond rfl (fun h => ?_) (fun h => ?_) | refine sf rfl rfl (f_R1_At _ _) ?_ | fail)
 · exact e_ret ⟨rfl, _, rfl, congr_ft (objectsFault_big (by have := of_decide_eq_true h; simp at this; omega))⟩
 have h8 : ¬ 8 < l.length := by have := of_decide_eq_false h; simp at this; omega
 clear h
 refine c_for l.length (fun k => [(0, .sl .p (ts.map tyV)), (1, .sl .p (l.map obV)), (4, .bptr 1920258 0), (5, .int .i64 k)]) (fun _ => [(1920258, .box (ftV okF))]) (fun k => ∀ j, j < k → obBad ts.length l j = none) all_zero ft fun k hk hi => ?_
 repeat (first | refine i_len rfl ?_ | refine i_s rfl ?_ | refine sw ?_)
 refine c_cond rfl (fun h => ?_) (fun h => ?_)
 · have hlt : k < l.length := by simpa using h
   obtain ⟨t, ht⟩ := get_some hlt
   have hnt := hn t (mem_get ht)
   have hbad : obBad ts.length l k = if nameB t.name = false then some ⟨12, -10 - k⟩ else if (l.take k).any (fun u => u.name == t.name) = true then some ⟨7, -10 - k⟩
    else if t.type < -1 ∨ t.type ≥ ts.length then some ⟨3, -10 - k⟩ else none := by simp [obBad, ht]
   clear h
   repeat' (first | refine i_s rfl ?_ | refine sw ?_ | refine jb rfl rfl ?_ | refine jd rfl rfl ?_ | refine i_stb rfl ?_ | refine c_cond rfl (fun h => ?_) (fun h => ?_) | refine sf rfl rfl (f_R1_Name _ hnt) ?_ | refine sf rfl rfl (f_R1_At _ _) ?_ | fail)
   · refine e_ret ⟨rfl, _, rfl, congr_ft (objectsFault_hit h8 hi hlt ?_)⟩
     rw [hbad]; clear hbad; grind
   · refine c_for k (fun j => [(0, .sl .p (ts.map tyV)), (1, .sl .p (l.map obV)), (4, .bptr 1920258 0), (5, .int .i64 k), (6, .int .i64 j)]) (fun _ => [(1920258, .box (ftV okF))]) (fun j => ∀ i, i < j → ∀ u, l[i]? = some u → (u.name == t.name) = false) all_zero ft fun j hj hij => ?_
     repeat (first | refine i_s rfl ?_ | refine sw ?_)
     refine c_cond rfl (fun h2 => ?_) (fun h2 => ?_)
     · have hjk : j < k := by simpa using h2
       obtain ⟨u, hu⟩ := get_some (Nat.lt_trans hjk hlt)
       repeat' (first | refine i_s rfl ?_ | refine sw ?_ | refine ja rfl rfl ?_ | refine jb rfl rfl ?_ | refine jd rfl rfl ?_ | refine i_stb rfl ?_ | refine c_cond rfl (fun h => ?_) (fun h => ?_) | refine sf rfl rfl (f_R1_At _ _) ?_ | fail)
       · refine e_ret ⟨rfl, _, rfl, congr_ft (objectsFault_hit h8 hi hlt ?_)⟩
         have := any_take_hit (p := fun u => u.name == t.name) hjk hu h
         rw [hbad]; clear hbad; grind
       · exact e_for hjk (all_succ hij fun v hv => by rw [hu] at hv; cases hv; exact h) ft
     · have hge : ¬ j < k := by simpa using h2
       have hany : (l.take k).any (fun u => u.name == t.name) = false := any_take_none fun i hik => hij i (by omega)
       clear h2 hij
       repeat' (first | refine i_len rfl ?_ | refine i_s rfl ?_ | refine sw ?_ | refine ja rfl rfl ?_ | refine jb rfl rfl ?_ | refine jd rfl rfl ?_ | refine i_stb rfl ?_ | refine c_cond rfl (fun h => ?_) (fun h => ?_) | refine sf rfl rfl (f_R1_In _ _ _) ?_ | refine sf rfl rfl (f_R1_At _ _) ?_ | fail)
       · refine e_ret ⟨rfl, _, rfl, congr_ft (objectsFault_hit h8 hi hlt ?_)⟩
         rw [hbad]; clear hbad; (try simp only [List.length_map] at h); grind
       · refine e_for hlt (all_succ hi ?_) ft
         rw [hbad]; clear hbad; (try simp only [List.length_map] at h); grind
 · have hge : ¬ k < l.length := by simpa using h
   repeat' (first | refine i_s rfl ?_ | refine sw ?_ | refine i_stb rfl ?_)
   exact e_ret ⟨rfl, _, rfl, congr_ft (objectsFault_ok h8 fun j hj => hi j (by omega))⟩
theorem i64_rows (l : List Int) : ∀ row ∈ l.map i64V, row.cells.length = 1 ∧ row.cells.all leafB = true := by
 intro row h
 obtain ⟨n, _, rfl⟩ := List.mem_map.1 h
 exact ⟨rfl, rfl⟩
def c_R1_Supers : Cmd :=
 (qS [qq 4 (.mov (.c (.sl .nil [])))]
 (qT (qS [qm 5 1, qv 6 .lss [] 5 0]
 (.cond (.t 6) (.seq (.ops [qq 7 (.bsl 1 [.c (.int .i64 (-1))]), qm 4 7]) .ret) .skip))
 (.seq (.ops [qm 8 1, qq 9 (.bslO 10048577 1 [.t 8]), qm 10 0, qm 11 0, qm 12 1, qi 13 2 11 12, qf 14 1 13, ql 15 1 14, qk 16 157 [10, 15], qq 17 (.append 1 8 3 (.t 9) (.t 16)), qm 4 17]) .ret)))
def r_R1_Supers : List RVar := [.tmp 4]
def n_R1_Supers : Nat := 18
theorem k_R1_Supers : chkFn PG 157 n_R1_Supers r_R1_Supers c_R1_Supers = true := by kernel_rfl
theorem f_R1_Supers_n (l : List Typ) (hv : TyValid l) : ∀ (m : Nat) (t : Int), t < m → -1 ≤ t → t < l.length → Fc PG 157 [.sl .p (l.map tyV), .int .i64 t] (.sl .p ((supers l t).map i64V))
 | m, t, hm, h0, h1 => by
  have h8 := hv.1
  refine Fn.step mixed k_R1_Supers ?_
  repeat' (first | refine i_s rfl ?_ | refine sw ?_ | refine c_cond rfl (fun h => ?_) (fun h => ?_))
  · have := of_decide_eq_true h
    refine e_ret ⟨rfl, _, rfl, ?_⟩
    rw [supers_neg this]; rfl
  · have hn := of_decide_eq_false h
    obtain ⟨x, hx, hp, h2, h3⟩ := parent_ok hv (by omega) h1
    refine i_bslo rfl rfl rfl rfl ?_
    repeat (first | refine i_s rfl ?_ | refine jd rfl rfl ?_)
    try refine i_iai rfl rfl (by omega) hx rfl ?_
    cases m with
    | zero => omega
    | succ m =>
    have hl := supers_length (t := x.parent) (by omega) hv
    repeat refine sf rfl rfl (f_R1_Supers_n l hv m x.parent (by omega) h2 (by omega)) ?_
    refine i_app rfl rfl rfl rfl rfl (i64_rows _) (by simp; omega) (by simp; omega) ?_
    repeat' (first | refine i_s rfl ?_ | refine sw ?_ | fail)
    refine e_ret ⟨rfl, _, rfl, ?_⟩
    rw [supers_cons hv (by omega) h1 hx]; rfl
theorem f_R1_Supers (l : List Typ) (hv : TyValid l) (t : Int) (h0 : -1 ≤ t) (h1 : t < l.length) : Fc PG 157 [.sl .p (l.map tyV), .int .i64 t] (.sl .p ((supers l t).map i64V)) :=
 f_R1_Supers_n l hv (t.toNat + 1) t (by omega) h0 h1
def c_R1_Sub : Cmd :=
 (qS [qb 6 false]
 (.seq (.ops [qm 7 0, qm 8 1, qk 9 157 [7, 8], qm 10 2, qk 11 156 [9, 10], qm 6 11]) .ret))
def r_R1_Sub : List RVar := [.tmp 6]
def n_R1_Sub : Nat := 12
theorem k_R1_Sub : chkFn PG 138 n_R1_Sub r_R1_Sub c_R1_Sub = true := by kernel_rfl
theorem f_R1_Sub (l : List Typ) (hv : TyValid l) (a b : Int) (h0 : -1 ≤ a) (h1 : a < l.length) : Fc PG 138 [.sl .p (l.map tyV), .int .i64 a, .int .i64 b] (.bool (subB l a b)) := by
 have hl := supers_length h1 hv
 refine Fn.step mixed k_R1_Sub ?_
 repeat' (first | refine i_s rfl ?_ | refine sw ?_ | refine sf rfl rfl (f_R1_Supers l hv a h0 h1) ?_ | refine sf rfl rfl (f_R1_Has _ _ (by omega)) ?_ | fail)
 exact e_ret ⟨rfl, _, rfl, rfl⟩
def c_types_Above : Cmd :=
 (qS [qx 2 9728129 1 0, qx 3 9728193 1 1, qq 4 (.mov (.c (.nilfn)))]
 (.seq (.ops [qq 5 (.mkfn 164 [.t 3, .t 2]), qm 4 5]) .ret))
def r_types_Above : List RVar := [.tmp 4]
def n_types_Above : Nat := 6
theorem k_types_Above : chkFn PG 152 n_types_Above r_types_Above c_types_Above = true := by kernel_rfl
theorem c_types_Above_ct {G : Type} {H : HT G} (l : List Typ) (t : Int) (σ : Store) (g : G) (h1 : σ 9728129 = .unused) (h2 : σ 9728193 = .unused) (hp : ∀ nm, σ nm ≠ .unused → nm ∈ [9728129, 9728193]) :
  Cc PG H 152 [.sl .p (l.map tyV), .int .i64 t] [9728129, 9728193] σ g fun r σ' g' => r = .fn 164 [.bptr 9728193 0, .bptr 9728129 0] ∧ σ' = stOf [(9728129, .box (.sl .p (l.map tyV))), (9728193, .box (.int .i64 t))] ∧ g' = g := by
 refine CT.step _ mixed k_types_Above hp fun hM => ?_
 repeat refine sw ?_
 refine i_box h1 rfl ?_
 refine i_box h2 rfl ?_
 repeat' (first | refine i_s rfl ?_ | refine sw ?_ | fail)
 exact e_ret ⟨rfl, _, rfl, rfl, rfl, rfl, restr_stOf _ _, rfl⟩
def c_types_Above_1 : Cmd :=
 (qT (.block 0 (.loop (qT (qS [ql 4 1 1, qv 5 .geq [] 4 0]
 (.cond (.t 5) .skip (.exit 0)))
 (qT (.block 1 (qS [qm 11 0, ql 12 1 1, qq 13 (.call .y (.t 11) [.t 12]), qq 14 (.not (.t 13))]
 (.cond (.t 14) .ret .skip)))
 (.ops [ql 6 1 2, ql 7 1 1, qi 8 2 6 7, qf 9 1 8, ql 10 1 9, qs 1 1 10])))))
 (.ops [qm 15 0, qq 16 (.call .y (.t 15) [.c (.int .i64 (-1))])]))
def r_types_Above_1 : List RVar := []
def n_types_Above_1 : Nat := 17
theorem k_types_Above_1 : chkFn PG 164 n_types_Above_1 r_types_Above_1 c_types_Above_1 = true := by kernel_rfl
theorem c_types_Above_1_ct {G : Type} {H : HT G} (l : List Typ) (hv : TyValid l) (t0 : Int) (h00 : -1 ≤ t0) (h01 : t0 < l.length) (g0 : G) (K : G → Prop) (hy0 : YL H ((supers l t0).map fun n => [V.int .i64 n]) g0 K) :
  Cc PG H 164 [.rnd, .bptr 9728193 0, .bptr 9728129 0] [9728129, 9728193] (stOf [(9728129, .box (.sl .p (l.map tyV))), (9728193, .box (.int .i64 t0))]) g0
   fun _ σ' g' => (∃ t' : Int, σ' = stOf [(9728129, .box (.sl .p (l.map tyV))), (9728193, .box (.int .i64 t'))]) ∧ K g' := by
 refine CT.step _ mixed k_types_Above_1 (fun nm hnm => stOf_mem _ nm hnm) fun hM => ?_
 repeat refine sw ?_
 refine c_loop (ι := Int × G) (fun _ => [(0, .rnd), (1, .bptr 9728193 0), (2, .bptr 9728129 0)]) (fun i => [(9728129, .box (.sl .p (l.map tyV))), (9728193, .box (.int .i64 i.1))]) (fun i => i.2)
  (fun i => -1 ≤ i.1 ∧ i.1 < l.length ∧ YL H ((supers l i.1).map fun n => [V.int .i64 n]) i.2 K) (fun i => (i.1 + 1).toNat) (t0, g0) ⟨h00, h01, hy0⟩ ft rfl fun i hi => ?_
 obtain ⟨t, g⟩ := i
 obtain ⟨h0, h1, hy⟩ := hi
 simp only at h0 h1 hy
 clear h00 h01 hy0
 repeat (first | refine i_s rfl ?_ | refine sw ?_)
 refine c_cond rfl (fun h => ?_) (fun h => ?_)
 · have hge := of_decide_eq_true h
   obtain ⟨x, hx, hp, h2, h3⟩ := parent_ok hv hge h1
   rw [supers_cons hv hge h1 hx] at hy
   repeat (first | refine i_s rfl ?_ | refine sw ?_)
   refine i_y hM rfl rfl rfl (hM _ _ _ _ (fun u g' hu => ?_) hy)
   rcases hu with ⟨rfl, hu⟩ | ⟨rfl, hu⟩
   · repeat (first | refine i_s rfl ?_ | refine sw ?_ | refine c_f rfl ?_ | refine jd rfl rfl ?_ | refine i_stb rfl ?_)
     try refine i_iai rfl rfl hge hx rfl ?_
     skip
     exact e_loop ⟨(x.parent, g'), ⟨h2, by simp only; omega, hu⟩, ft, rfl, by simp only; omega⟩
   · repeat (first | refine i_s rfl ?_ | refine sw ?_ | refine c_t rfl ?_)
     exact e_ret ⟨rfl, _, rfl, rfl, rfl, ⟨t, restr_stOf _ _⟩, hu⟩
 · have hlt : t < 0 := by have := of_decide_eq_false h; omega
   rw [supers_neg hlt] at hy
   repeat (first | refine i_s rfl ?_ | refine sw ?_)
   refine i_y hM rfl rfl rfl (hM _ _ _ _ (fun u g' hu => ?_) hy)
   repeat refine sw ?_
   refine e_end ⟨rfl, _, rfl, rfl, rfl, ⟨t, restr_stOf _ _⟩, ?_⟩
   rcases hu with ⟨_, hu⟩ | ⟨_, hu⟩ <;> exact hu
def c_types_Is : Cmd :=
 (qS [qx 5 8000321 1 2, qq 6 (.alloc 8000385 (.bool false))]
 (qT (qS [qm 8 0, qm 9 1, qq 10 (.call (.s [9728129, 9728193]) (.c (.fn 152 [])) [.t 8, .t 9])]
 (.block 0 (.rangeF [9728129, 9728193] (.t 10) [11] (.ops [qm 7 11]) (.block 1 (qS [qm 12 7, ql 13 1 5, qu 14 .eql [.i] 12 13]
 (.cond (.t 14) (.seq (.ops [.op none none (.store 1 (.t 6) (.c (.bool true)))]) .ret) .skip))))))
 (.seq (.ops [.op none none (.store 1 (.t 6) (.c (.bool false)))]) .ret)))
def r_types_Is : List RVar := [.cell false 1 6]
def n_types_Is : Nat := 15
theorem k_types_Is : chkFn PG 125 n_types_Is r_types_Is c_types_Is = true := by kernel_rfl
theorem f_types_Is (l : List Typ) (hv : TyValid l) (a b : Int) (h0 : -1 ≤ a) (h1 : a < l.length) : Fc PG 125 [.sl .p (l.map tyV), .int .i64 a, .int .i64 b] (.bool (subB l a b)) := by
 refine Fn.step mixed k_types_Is ?_
 repeat (first | refine i_s rfl ?_ | refine sw ?_ | refine i_alloc rfl ?_ | refine i_box rfl rfl ?_)
 refine i_c rfl rfl rfl (c_types_Above_ct l a _ _ rfl rfl fun nm h => restr_mem nm h) ?_
 rintro _ _ _ ⟨rfl, rfl, rfl⟩
 repeat refine sw ?_
 refine c_rangeS [(5, .bptr 8000321 0), (6, .bptr 8000385 0)] [(9728129, .box (.sl .p (l.map tyV))), (9728193, .box (.int .i64 a)), (8000321, .box (.int .i64 b)), (8000385, .box (.bool false))] [8000321, 8000385]
  [(9728129, .box (.sl .p (l.map tyV))), (9728193, .box (.int .i64 a))] [(8000321, .box (.int .i64 b)), (8000385, .box (.bool false))] rfl ft rfl rfl rfl rfl ?_
 refine Cc_mono ?_ (c_types_Above_1_ct l hv a h0 h1 _
  (fun st => if subB l a b = true then st = (stOf [(8000321, .box (.int .i64 b)), (8000385, .box (.bool true))], (), some .ret) else st = (stOf [(8000321, .box (.int .i64 b)), (8000385, .box (.bool false))], (), none))
  (YL_find (fun c => decide (c = b)) (fun _ => (stOf [(8000321, .box (.int .i64 b)), (8000385, .box (.bool true))], (), some .ret)) (RHm noH_mono) (supers l a) ?_ ?_))
 · rintro _ σ' st ⟨⟨t', rfl⟩, hst⟩
   split at hst
   · subst hst
     rename_i hs
     refine ⟨rfl, ?_⟩
     exact e_ret ⟨rfl, _, rfl, by rw [hs]; rfl⟩
   · subst hst
     rename_i hs
     refine ⟨rfl, ?_⟩
     show WE _ _ _ _ _ .normal _ _ _
     repeat (first | refine sw ?_ | refine i_stb rfl ?_)
     exact e_ret ⟨rfl, _, rfl, by rw [Bool.not_eq_true] at hs; rw [hs]; rfl⟩
 · intro c hc K hk1 hk2
   refine rh_intro noH_mono rfl ?_
   repeat (first | refine i_s rfl ?_ | refine sw ?_)
   refine e_end ?_
   show WC _ _ _ _ [] _ _ _ _
   repeat' (first | refine i_s rfl ?_ | refine sw ?_ | refine i_stb rfl ?_ | refine c_cond rfl (fun h => ?_) (fun h => ?_))
   · refine e_ret ?_
     exact rhq_r rfl rfl (hk1 (by simpa using h))
   · refine e_end ?_
     exact rhq_n rfl rfl (hk2 (by simpa using h))
 · unfold subB
   cases hf : (supers l a).find? (fun c => decide (c = b)) with
   | none =>
    have : ¬ b ∈ supers l a := fun hm => by
     have := List.find?_eq_none.1 hf b hm
     simp at this
    simp [this]
   | some c =>
    have h1 := List.find?_some hf
    have h2 := List.mem_of_find?_eq_some hf
    have : b ∈ supers l a := by simp at h1; rw [← h1]; exact h2
    simp [this]
end Hm
end
section
namespace Hm
open Go
set_option maxRecDepth 100000
set_option maxHeartbeats 4000000
def c_R1_TypesCode : Cmd :=
 (qS [qx 2 2048134 6 0, qc 4 0]
 (qT (qS [qm 6 1, qn 7 6, qv 8 .gtr [] 7 3]
 (.cond (.t 8) (.seq (.ops [qc 4 2]) .ret) .skip))
 (qT (qS [qc 5 0]
 (.block 0 (.loop (qT (qS [qm 9 5, qm 10 1, qn 11 10, qu 12 .lss [] 9 11]
 (.cond (.t 12) .skip (.exit 0)))
 (qT (.block 1 (qS [qm 15 1, qm 16 5, qi 17 1 15 16, ql 18 1 17, qf 19 0 2, ql 20 1 19, qn 21 20, qv 22 .sub [] 21 1, qq 23 (.call .f (.c (.fn 17 [])) [.t 18, .c (.int .i64 (-1)), .t 22]), qq 24 (.not (.t 23))]
 (.cond (.t 24) (.seq (.ops [qc 4 3]) .ret) .skip)))
 (.ops [qm 13 5, qv 14 .add [] 13 1, qm 5 14]))))))
 (.seq (.ops [qc 4 0]) .ret))))
def r_R1_TypesCode : List RVar := [.tmp 4]
def n_R1_TypesCode : Nat := 25
theorem k_R1_TypesCode : chkFn PG 32 n_R1_TypesCode r_R1_TypesCode c_R1_TypesCode = true := by kernel_rfl
theorem f_R1_TypesCode (d : Dom) (hd : d.types.length ≤ 140737488355328) (l : List Int) (hl : l.length ≤ 140737488355328) : Fc PG 32 [domV d, .sl .p (l.map i64V)] (.int .i64 (paramsCode d.types.length l)) := by
 unfold paramsCode
 by_cases h3 : l.length > 3
 · rw [if_pos h3]
   refine Fn.step mixed k_R1_TypesCode ?_
   repeat' (first | refine i_len rfl ?_ | refine i_s rfl ?_ | refine sw ?_ | refine i_box rfl rfl ?_ | refine c_cond rfl (fun h => ?_) (fun h => ?_))
   all_goals first
    | exact e_ret ⟨rfl, _, rfl, rfl⟩
    | (exfalso; simp at *; omega)
 · rw [if_neg h3]
   refine Fn.step mixed k_R1_TypesCode ?_
   repeat' (first | refine i_len rfl ?_ | refine i_s rfl ?_ | refine sw ?_ | refine i_box rfl rfl ?_ | refine c_cond rfl (fun h => ?_) (fun h => ?_))
   all_goals first
    | (exfalso; simp at *; omega)
    | skip
   refine c_for l.length (fun k => [(1, .sl .p (l.map i64V)), (2, .bptr 2048134 0), (5, .int .i64 k)]) (fun _ => [(2048134, .box (domV d))]) (fun k => (l.take k).any (badT d.types.length) = false) (by simp) ft fun k hk hi => ?_
   by_cases hlt : k < l.length
   · obtain ⟨x, hx⟩ := get_some hlt
     have hI := f_R1_In x (-1) ((d.types.length : Int) - 1)
     have hb : badT d.types.length x = !(decide (-1 ≤ x) && decide (x ≤ (d.types.length : Int) - 1)) := by
      unfold badT
      rw [Bool.eq_iff_iff]
      simp
      omega
     cases hbx : badT d.types.length x with
     | true =>
      rw [if_pos (List.any_eq_true.2 ⟨x, mem_get hx, hbx⟩)]
      rw [hbx] at hb
      generalize (decide (-1 ≤ x) && decide (x ≤ (d.types.length : Int) - 1)) = bb at *
      have hbb : bb = false := by simpa using hb.symm
      subst hbb
      repeat' (first | refine i_len rfl ?_ | refine i_s rfl ?_ | refine sw ?_ | refine c_t rfl ?_ | refine jb rfl rfl ?_ | refine jd rfl rfl ?_ | refine c_cond rfl (fun h => ?_) (fun h => ?_) | refine sf rfl rfl hI ?_ | fail)
      all_goals first
       | exact e_ret ⟨rfl, _, rfl, rfl⟩
       | (exfalso; clear hI; simp at *; omega)
     | false =>
      rw [hbx] at hb
      generalize (decide (-1 ≤ x) && decide (x ≤ (d.types.length : Int) - 1)) = bb at *
      have hbb : bb = true := by simpa using hb.symm
      subst hbb
      repeat' (first | refine i_len rfl ?_ | refine i_s rfl ?_ | refine sw ?_ | refine c_f rfl ?_ | refine ja rfl rfl ?_ | refine jb rfl rfl ?_ | refine jd rfl rfl ?_ | refine c_cond rfl (fun h => ?_) (fun h => ?_) | refine sf rfl rfl hI ?_ | fail)
      all_goals first
       | (exact e_for hlt (by rw [take_succ_get hx, List.any_append, hi]; simp [hbx]) ft)
       | (exfalso; clear hI; simp at *; omega)
   · rw [List.take_of_length_le (by omega)] at hi
     rw [if_neg (by simp [hi])]
     repeat' (first | refine i_len rfl ?_ | refine i_s rfl ?_ | refine sw ?_ | refine c_cond rfl (fun h => ?_) (fun h => ?_))
     all_goals first
      | exact e_ret ⟨rfl, _, rfl, rfl⟩
      | (exfalso; simp at *; omega)
def c_domain_Params_1 : Cmd :=
 (qS [qb 3 false]
 (.seq (.ops [qm 4 0, qv 5 .lss [] 4 (-1), qm 6 5, qg 7 6 false (.mov (.t 0)), qg 8 6 false (.faddr 0 (.t 1)), qg 9 6 false (.load false 1 (.t 8)), qg 10 6 false (.len false (.t 9)), qg 11 6 false (.bin .geq false [] (.t 7) (.t 10)), qq 12 (.pick (.t 6) (.c (.bool true)) (.t 11)), qm 3 12]) .ret))
def r_domain_Params_1 : List RVar := [.tmp 3]
def n_domain_Params_1 : Nat := 13
theorem k_domain_Params_1 : chkFn PG 130 n_domain_Params_1 r_domain_Params_1 c_domain_Params_1 = true := by kernel_rfl
theorem f_domain_Params_1 (d : Dom) (hd : d.types.length ≤ 140737488355328) (t : Int) : Fc PG 130 [.int .i64 t, .cptr .p (domV d) 0] (.bool (badT d.types.length t)) := by
 refine Fn.step mixed k_domain_Params_1 ?_
 repeat' (first | refine i_len rfl ?_ | refine i_s rfl ?_ | refine sw ?_ | refine i_gt rfl ?_ | refine i_gf rfl ?_ | refine i_g rfl (fun h => ?_) (fun h => ?_))
 all_goals (refine e_ret ⟨rfl, _, rfl, congrArg V.bool ?_⟩; unfold badT; simp at *; (try omega))
def c_domain_Params : Cmd :=
 (qS [qx 2 4992134 6 0, qc 4 0]
 (qT (qS [qm 5 1, qn 6 5, qv 7 .gtr [] 6 3]
 (.cond (.t 7) (.seq (.ops [qc 4 2]) .ret) .skip))
 (qT (qS [qm 8 1, qq 9 (.mkfn 130 [.t 2]), qk 10 129 [8, 9]]
 (.cond (.t 10) (.seq (.ops [qc 4 3]) .ret) .skip))
 (.seq (.ops [qc 4 0]) .ret))))
def r_domain_Params : List RVar := [.tmp 4]
def n_domain_Params : Nat := 11
theorem k_domain_Params : chkFn PG 78 n_domain_Params r_domain_Params c_domain_Params = true := by kernel_rfl
theorem f_domain_Params (d : Dom) (hd : d.types.length ≤ 140737488355328) (l : List Int) (hl : l.length ≤ 140737488355328) : Fc PG 78 [domV d, .sl .p (l.map i64V)] (.int .i64 (paramsCode d.types.length l)) := by
 have hC := f_ContainsFunc_int l (badT d.types.length) 130 [.cptr .p (domV d) 0] hl (fun _ _ => rfl) rfl (fun t _ => f_domain_Params_1 d hd t)
 unfold paramsCode
 by_cases h3 : l.length > 3
 · rw [if_pos h3]
   refine Fn.step mixed k_domain_Params ?_
   repeat' (first | refine i_len rfl ?_ | refine i_s rfl ?_ | refine sw ?_ | refine i_box rfl rfl ?_ | refine c_cond rfl (fun h => ?_) (fun h => ?_))
   all_goals first
    | exact e_ret ⟨rfl, _, rfl, rfl⟩
    | (exfalso; simp at *; omega)
 · rw [if_neg h3]
   cases hany : l.any (badT d.types.length) with
   | true =>
    rw [hany] at hC
    refine Fn.step mixed k_domain_Params ?_
    repeat' (first | refine i_len rfl ?_ | refine i_s rfl ?_ | refine sw ?_ | refine c_t rfl ?_ | refine i_box rfl rfl ?_ | refine c_cond rfl (fun h => ?_) (fun h => ?_) | refine sf rfl rfl hC ?_ | fail)
    all_goals first
     | exact e_ret ⟨rfl, _, rfl, rfl⟩
     | (exfalso; clear hC; simp at *; omega)
   | false =>
    rw [hany] at hC
    refine Fn.step mixed k_domain_Params ?_
    repeat' (first | refine i_len rfl ?_ | refine i_s rfl ?_ | refine sw ?_ | refine c_f rfl ?_ | refine i_box rfl rfl ?_ | refine c_cond rfl (fun h => ?_) (fun h => ?_) | refine sf rfl rfl hC ?_ | fail)
    all_goals first
     | exact e_ret ⟨rfl, _, rfl, rfl⟩
     | (exfalso; clear hC; simp at *; omega)
theorem atomCode_none {d : Dom} {ps : List Int} {a : At} (h : a.pred < 0 ∨ (d.preds.length : Int) ≤ a.pred) : atomCode d ps a = 6 := by unfold atomCode; rw [if_pos h]
theorem atomCode_len {d : Dom} {ps : List Int} {a : At} {p : Prd} (h : ¬ (a.pred < 0 ∨ (d.preds.length : Int) ≤ a.pred)) (hp : d.preds[a.pred.toNat]? = some p) (hl : a.args.length ≠ p.types.length) : atomCode d ps a = 9 := by
 unfold atomCode; rw [if_neg h, hp]; simp only; rw [if_pos hl]
theorem atomCode_scan {d : Dom} {ps : List Int} {a : At} {p : Prd} (h : ¬ (a.pred < 0 ∨ (d.preds.length : Int) ≤ a.pred)) (hp : d.preds[a.pred.toNat]? = some p) (hl : a.args.length = p.types.length) : atomCode d ps a = (scan (argBad d ps p.types a) 0 a.args.length).getD 0 := by
 unfold atomCode; rw [if_neg h, hp]; simp only; rw [if_neg (by simp [hl])]
def tyoV : Option Int → V
 | some t => .tup [.int .i64 t, .bool true]
 | none => .tup [.int .i64 0, .bool false]
def c_domain_typeOf : Cmd :=
 (qS [qx 3 9856198 6 0, qc 6 0, qb 7 false]
 (qT (.block 0 (qS [qm 9 2, qv 10 .geq [] 9 0, qm 11 10, qg 12 11 true (.mov (.t 2)), qg 13 11 true (.faddr 1 (.t 3)), qg 14 11 true (.load false 1 (.t 13)), qg 15 11 true (.len false (.t 14)), qg 16 11 true (.bin .lss false [] (.t 12) (.t 15)), qq 17 (.pick (.t 11) (.t 16) (.c (.bool false))), qm 8 17]
 (.cond (.t 8) (.seq (.ops [qf 18 1 3, ql 19 1 18, qm 20 2, qi 21 2 19 20, qf 22 1 21, ql 23 1 22, qm 6 23, qb 7 true]) .ret) (qS [qm 25 2, qv 26 .lss [] 25 0, qm 27 26, qg 28 27 true (.mov (.t 2)), qg 29 27 true (.mov (.t 1)), qg 30 27 true (.len false (.t 29)), qg 31 27 true (.bin .sub false [] (.c (.int .i64 0)) (.t 30)), qg 32 27 true (.bin .geq false [] (.t 28) (.t 31)), qq 33 (.pick (.t 27) (.t 32) (.c (.bool false))), qm 24 33]
 (.cond (.t 24) (.seq (.ops [qm 34 1, qm 35 2, qq 36 (.bin .sub false [] (.c (.int .i64 (-1))) (.t 35)), qi 37 1 34 36, ql 38 1 37, qm 6 38, qb 7 true]) .ret) .skip)))))
 (.seq (.ops [qc 6 0, qb 7 false]) .ret)))
def r_domain_typeOf : List RVar := [.tmp 6, .tmp 7]
def n_domain_typeOf : Nat := 39
theorem k_domain_typeOf : chkFn PG 154 n_domain_typeOf r_domain_typeOf c_domain_typeOf = true := by kernel_rfl
theorem f_domain_typeOf (d : Dom) (ho : d.objects.length ≤ 140737488355328) (ps : List Int) (hl : ps.length ≤ 140737488355328) (x : Int) (hx : InR .i64 x) : Fc PG 154 [domV d, .sl .p (ps.map i64V), .int .i64 x] (tyoV (typeOfA d ps x)) := by
 have hx1 : (-9223372036854775808 : Int) ≤ x := hx.1
 have hx2 : x ≤ 9223372036854775807 := hx.2
 clear hx
 unfold typeOfA
 by_cases h1 : 0 ≤ x ∧ x < d.objects.length
 · rw [if_pos h1]
   obtain ⟨o, hoo⟩ := get_some (l := d.objects) (k := x.toNat) (by omega)
   rw [hoo]
   refine Fn.step mixed k_domain_typeOf ?_
   repeat' (first | refine i_len rfl ?_ | refine i_s rfl ?_ | refine sw ?_ | refine i_gt rfl ?_ | refine i_gf rfl ?_ | refine c_f rfl ?_ | refine jb rfl rfl ?_ | refine jd rfl rfl ?_ | refine i_box rfl rfl ?_ | (refine sp ?_ ?_ <;> try intro h) | fail)
   all_goals first
    | exact e_ret ⟨rfl, _, rfl, rfl⟩
    | (exfalso; simp at *; omega)
 · rw [if_neg h1]
   by_cases h2 : x < 0 ∧ -(ps.length : Int) ≤ x
   · rw [if_pos h2]
     obtain ⟨t, ht⟩ := get_some (l := ps) (k := (-1 - x).toNat) (by omega)
     rw [ht]
     refine Fn.step mixed k_domain_typeOf ?_
     repeat' (first | refine i_len rfl ?_ | refine i_s rfl ?_ | refine sw ?_ | refine i_gt rfl ?_ | refine i_gf rfl ?_ | refine c_f rfl ?_ | refine jb rfl rfl ?_ | refine jd rfl rfl ?_ | refine i_box rfl rfl ?_ | (refine sp ?_ ?_ <;> try intro h) | fail)
     all_goals first
      | exact e_ret ⟨rfl, _, rfl, rfl⟩
      | (exfalso; simp at *; omega)
   · rw [if_neg h2]
     refine Fn.step mixed k_domain_typeOf ?_
     repeat' (first | refine i_len rfl ?_ | refine i_s rfl ?_ | refine sw ?_ | refine i_gt rfl ?_ | refine i_gf rfl ?_ | refine c_f rfl ?_ | refine jb rfl rfl ?_ | refine i_box rfl rfl ?_ | (refine sp ?_ ?_ <;> try intro h) | fail)
     all_goals first
      | exact e_ret ⟨rfl, _, rfl, rfl⟩
      | (exfalso; simp at *; omega)
def c_domain_Atom : Cmd :=
 (qS [qx 3 8512198 6 0, qx 5 8512322 2 2, qc 6 0]
 (qT (qS [qf 12 0 5, ql 13 1 12, qv 14 .lss [] 13 0, qm 15 14, qg 16 15 false (.faddr 0 (.t 5)), qg 17 15 false (.load false 1 (.t 16)), qg 18 15 false (.faddr 2 (.t 3)), qg 19 15 false (.load false 1 (.t 18)), qg 20 15 false (.len false (.t 19)), qg 21 15 false (.bin .geq false [] (.t 17) (.t 20)), qq 22 (.pick (.t 15) (.c (.bool true)) (.t 21))]
 (.cond (.t 22) (.seq (.ops [qc 6 6]) .ret) .skip))
 (qS [qf 23 2 3, ql 24 1 23, qf 25 0 5, ql 26 1 25, qi 27 2 24 26, qf 28 1 27, ql 29 1 28, qm 7 29]
 (qT (qS [qf 30 1 5, ql 31 1 30, qn 32 31, qm 33 7, qn 34 33, qu 35 .neq [.i] 32 34]
 (.cond (.t 35) (.seq (.ops [qc 6 9]) .ret) .skip))
 (qT (qS [qf 36 1 5, ql 37 1 36, qn 38 37, qc 39 0]
 (.block 0 (.loop (qS [qu 40 .lss [] 39 38]
 (qT (.cond (.t 40) .skip (.exit 0))
 (qT (.block 1 (qS [qm 41 39, qi 42 1 37 39, ql 43 1 42, qm 8 41, qm 9 43]
 (qS [qL 45 6 3, qm 46 1, qm 47 9, qk 48 154 [45, 46, 47], qm 44 48, qq 49 (.extract (.t 44) 0), qq 50 (.extract (.t 44) 1), qm 10 49, qm 11 50]
 (qT (qS [qm 51 11, qq 52 (.not (.t 51))]
 (.cond (.t 52) (.seq (.ops [qc 6 3]) .ret) .skip))
 (qS [qf 53 0 3, ql 54 1 53, qm 55 10, qm 56 7, qm 57 8, qi 58 1 56 57, ql 59 1 58, qk 60 125 [54, 55, 59], qq 61 (.not (.t 60))]
 (.cond (.t 61) (.seq (.ops [qc 6 8]) .ret) .skip))))))
 (.ops [qv 62 .add [] 39 1, qm 39 62])))))))
 (.seq (.ops [qc 6 0]) .ret))))))
def r_domain_Atom : List RVar := [.tmp 6]
def n_domain_Atom : Nat := 63
theorem k_domain_Atom : chkFn PG 133 n_domain_Atom r_domain_Atom c_domain_Atom = true := by kernel_rfl
theorem f_domain_Atom (d : Dom) (hd : DoTy d) (ps : List Int) (hps : PsOk d ps) (a : At) (ha : AtOk a) : Fc PG 133 [domV d, .sl .p (ps.map i64V), atV a] (.int .i64 (atomCode d ps a)) := by
 have hal := ha.len
 have hpl := hps.1
 have hol := hd.ol
 by_cases h1 : a.pred < 0 ∨ (d.preds.length : Int) ≤ a.pred
 · rw [atomCode_none h1]
   refine Fn.step mixed k_domain_Atom ?_
   repeat' (first | refine i_len rfl ?_ | refine i_s rfl ?_ | refine sw ?_ | refine i_gt rfl ?_ | refine i_gf rfl ?_ | refine c_t rfl ?_ | refine i_box rfl rfl ?_ | (refine sp ?_ ?_ <;> try intro h) | fail)
   all_goals first
    | exact e_ret ⟨rfl, _, rfl, rfl⟩
    | (exfalso; simp at *; omega)
 · obtain ⟨p, hp⟩ := get_some (l := d.preds) (k := a.pred.toNat) (by omega)
   by_cases h2 : a.args.length = p.types.length
   · rw [atomCode_scan h1 hp h2]
     refine Fn.step mixed k_domain_Atom ?_
     repeat' (first | refine i_len rfl ?_ | refine i_s rfl ?_ | refine sw ?_ | refine i_gt rfl ?_ | refine i_gf rfl ?_ | refine c_t rfl ?_ | refine jd rfl rfl ?_ | refine i_box rfl rfl ?_ | (refine sp ?_ ?_ <;> try intro h) | fail)
     all_goals first
      | (exfalso; simp at *; omega)
      | skip
     refine c_for a.args.length (fun k => [(1, .sl .p (ps.map i64V)), (3, .bptr 8512198 0), (7, .sl .p (p.types.map i64V)), (37, .sl .p (a.args.map i64V)), (38, .int .i64 a.args.length), (39, .int .i64 k)]) (fun _ => [(8512198, .box (domV d))]) (fun k => ∀ j, j < k → argBad d ps p.types a j = none) all_zero ft fun k hk hi => ?_
     by_cases hlt : k < a.args.length
     · obtain ⟨x, hx⟩ := get_some hlt
       obtain ⟨t, ht⟩ := get_some (l := p.types) (k := k) (by omega)
       have hT := f_domain_typeOf d (by omega) ps (by omega) x (ha.r x (mem_get hx))
       have hbad : argBad d ps p.types a k = tyoBad d t (typeOfA d ps x) := by simp only [argBad, hx, ht]
       cases hu : typeOfA d ps x with
       | none =>
        rw [hu] at hbad hT
        simp only [tyoBad] at hbad
        rw [scan0_hit hi hlt hbad]
        clear hi hbad ha
        repeat' (first | refine i_s rfl ?_ | refine sw ?_ | refine c_t rfl ?_ | refine jd rfl rfl ?_ | refine c_cond rfl (fun h => ?_) (fun h => ?_) | refine sf rfl rfl hT ?_ | fail)
        all_goals first
         | exact e_ret ⟨rfl, _, rfl, rfl⟩
         | (exfalso; clear hT; simp at *; omega)
       | some u =>
        rw [hu] at hbad hT
        simp only [tyoBad] at hbad
        obtain ⟨hu1, hu2⟩ := typeOfA_ok hd hps hu
        have hS := f_types_Is d.types hd.ty u t hu1 hu2
        cases hs : subB d.types u t with
        | true =>
         rw [hs] at hbad hS
         rw [if_pos rfl] at hbad
         clear ha
         repeat' (first | refine i_s rfl ?_ | refine sw ?_ | refine c_f rfl ?_ | refine ja rfl rfl ?_ | refine jd rfl rfl ?_ | refine c_cond rfl (fun h => ?_) (fun h => ?_) | refine sf rfl rfl hT ?_ | refine sf rfl rfl hS ?_ | fail)
         all_goals first
          | (exact e_for hlt (all_succ hi hbad) ft)
          | (exfalso; clear hT hS; simp at *; omega)
        | false =>
         rw [hs] at hbad hS
         rw [if_neg (by simp)] at hbad
         rw [scan0_hit hi hlt hbad]
         clear hi hbad ha
         repeat' (first | refine i_s rfl ?_ | refine sw ?_ | refine c_t rfl ?_ | refine c_f rfl ?_ | refine jd rfl rfl ?_ | refine c_cond rfl (fun h => ?_) (fun h => ?_) | refine sf rfl rfl hT ?_ | refine sf rfl rfl hS ?_ | fail)
         all_goals first
          | exact e_ret ⟨rfl, _, rfl, rfl⟩
          | (exfalso; clear hT hS; simp at *; omega)
     · rw [scan0_none fun j hj => hi j (by omega)]
       clear hi ha
       repeat' (first | refine i_s rfl ?_ | refine sw ?_ | refine c_cond rfl (fun h => ?_) (fun h => ?_))
       all_goals first
        | exact e_ret ⟨rfl, _, rfl, rfl⟩
        | (exfalso; simp at *; omega)
   · rw [atomCode_len h1 hp h2]
     refine Fn.step mixed k_domain_Atom ?_
     repeat' (first | refine i_len rfl ?_ | refine i_s rfl ?_ | refine sw ?_ | refine i_gt rfl ?_ | refine i_gf rfl ?_ | refine c_t rfl ?_ | refine jd rfl rfl ?_ | refine i_box rfl rfl ?_ | (refine sp ?_ ?_ <;> try intro h) | fail)
     all_goals first
      | exact e_ret ⟨rfl, _, rfl, rfl⟩
      | (exfalso; simp at *; omega)
def c_R1_AtomCode : Cmd :=
 (qS [qx 3 5568198 6 0, qx 5 5568322 2 2, qc 6 0]
 (qT (qS [qf 11 0 5, ql 12 1 11, qf 13 2 3, ql 14 1 13, qn 15 14, qv 16 .sub [] 15 1, qq 17 (.call .f (.c (.fn 17 [])) [.t 12, .c (.int .i64 0), .t 16]), qq 18 (.not (.t 17))]
 (.cond (.t 18) (.seq (.ops [qc 6 6]) .ret) .skip))
 (qS [qf 19 2 3, ql 20 1 19, qf 21 0 5, ql 22 1 21, qi 23 2 20 22, qf 24 1 23, ql 25 1 24, qm 7 25]
 (qT (qS [qf 26 1 5, ql 27 1 26, qn 28 27, qm 29 7, qn 30 29, qu 31 .neq [.i] 28 30]
 (.cond (.t 31) (.seq (.ops [qc 6 9]) .ret) .skip))
 (qT (qS [qc 8 0]
 (.block 0 (.loop (qT (qS [qm 32 8, qm 33 7, qn 34 33, qu 35 .lss [] 32 34]
 (.cond (.t 35) .skip (.exit 0)))
 (qT (.block 1 (qS [qf 38 1 5, ql 39 1 38, qm 40 8, qi 41 1 39 40, ql 42 1 41, qm 9 42]
 (qT (qS [qm 43 9, qm 44 1, qn 45 44, qq 46 (.bin .sub false [] (.c (.int .i64 0)) (.t 45)), qf 47 1 3, ql 48 1 47, qn 49 48, qv 50 .sub [] 49 1, qk 51 17 [43, 46, 50], qq 52 (.not (.t 51))]
 (.cond (.t 52) (.seq (.ops [qc 6 3]) .ret) .skip))
 (qS [qc 10 0]
 (qT (qS [qm 53 9, qv 54 .lss [] 53 0]
 (.cond (.t 54) (.ops [qm 55 1, qm 56 9, qq 57 (.bin .sub false [] (.c (.int .i64 0)) (.t 56)), qv 58 .sub [] 57 1, qi 59 1 55 58, ql 60 1 59, qm 10 60]) (.ops [qf 61 1 3, ql 62 1 61, qm 63 9, qi 64 2 62 63, qf 65 1 64, ql 66 1 65, qm 10 66])))
 (qS [qf 67 0 3, ql 68 1 67, qm 69 10, qm 70 7, qm 71 8, qi 72 1 70 71, ql 73 1 72, qk 74 138 [68, 69, 73], qq 75 (.not (.t 74))]
 (.cond (.t 75) (.seq (.ops [qc 6 8]) .ret) .skip)))))))
 (.ops [qm 36 8, qv 37 .add [] 36 1, qm 8 37]))))))
 (.seq (.ops [qc 6 0]) .ret))))))
def r_R1_AtomCode : List RVar := [.tmp 6]
def n_R1_AtomCode : Nat := 76
theorem k_R1_AtomCode : chkFn PG 87 n_R1_AtomCode r_R1_AtomCode c_R1_AtomCode = true := by kernel_rfl
theorem f_R1_AtomCode (d : Dom) (hd : DoTy d) (ps : List Int) (hps : PsOk d ps) (a : At) (ha : AtOk a) (hpr : d.preds.length ≤ 140737488355328) : Fc PG 87 [domV d, .sl .p (ps.map i64V), atV a] (.int .i64 (atomCode d ps a)) := by
 have hal := ha.len
 have hpl := hps.1
 have hol := hd.ol
 have hI := f_R1_In a.pred 0 ((d.preds.length : Int) - 1)
 by_cases h1 : a.pred < 0 ∨ (d.preds.length : Int) ≤ a.pred
 · rw [atomCode_none h1]
   have e : (decide (0 ≤ a.pred) && decide (a.pred ≤ (d.preds.length : Int) - 1)) = false := by rw [Bool.eq_false_iff]; simp; omega
   rw [e] at hI
   refine Fn.step mixed k_R1_AtomCode ?_
   repeat' (first | refine i_len rfl ?_ | refine i_s rfl ?_ | refine sw ?_ | refine c_t rfl ?_ | refine jb rfl rfl ?_ | refine i_box rfl rfl ?_ | refine sf rfl rfl hI ?_ | fail)
   all_goals first
    | exact e_ret ⟨rfl, _, rfl, rfl⟩
    | (exfalso; clear hI; simp at *; omega)
 · obtain ⟨p, hp⟩ := get_some (l := d.preds) (k := a.pred.toNat) (by omega)
   have e : (decide (0 ≤ a.pred) && decide (a.pred ≤ (d.preds.length : Int) - 1)) = true := by simp; omega
   rw [e] at hI
   by_cases h2 : a.args.length = p.types.length
   · rw [atomCode_scan h1 hp h2]
     refine Fn.step mixed k_R1_AtomCode ?_
     repeat' (first | refine i_len rfl ?_ | refine i_s rfl ?_ | refine sw ?_ | refine c_f rfl ?_ | refine jb rfl rfl ?_ | refine jd rfl rfl ?_ | refine i_box rfl rfl ?_ | refine c_cond rfl (fun h => ?_) (fun h => ?_) | refine sf rfl rfl hI ?_ | fail)
     all_goals first
      | (exfalso; clear hI; simp at *; omega)
      | skip
     clear hI e
     refine c_for a.args.length (fun k => [(1, .sl .p (ps.map i64V)), (3, .bptr 5568198 0), (5, .bptr 5568322 0), (7, .sl .p (p.types.map i64V)), (8, .int .i64 k)]) (fun _ => [(5568198, .box (domV d)), (5568322, .box (atV a))]) (fun k => ∀ j, j < k → argBad d ps p.types a j = none) all_zero ft fun k hk hi => ?_
     by_cases hlt : k < a.args.length
     · obtain ⟨x, hx⟩ := get_some hlt
       obtain ⟨t, ht⟩ := get_some (l := p.types) (k := k) (by omega)
       have hx1 : (-9223372036854775808 : Int) ≤ x := (ha.r x (mem_get hx)).1
       have hx2 : x ≤ 9223372036854775807 := (ha.r x (mem_get hx)).2
       have hJ := f_R1_In x (0 - (ps.length : Int)) ((d.objects.length : Int) - 1)
       have hbad : argBad d ps p.types a k = tyoBad d t (typeOfA d ps x) := by simp only [argBad, hx, ht]
       by_cases hin : -(ps.length : Int) ≤ x ∧ x < d.objects.length
       · have e2 : (decide (0 - (ps.length : Int) ≤ x) && decide (x ≤ (d.objects.length : Int) - 1)) = true := by simp; omega
         rw [e2] at hJ
         by_cases hneg : x < 0
         · obtain ⟨u, hu⟩ := get_some (l := ps) (k := (-1 - x).toNat) (by omega)
           have hu2 : typeOfA d ps x = some u := by unfold typeOfA; rw [if_neg (by omega), if_pos (by omega)]; exact hu
           obtain ⟨hu3, hu4⟩ := typeOfA_ok hd hps hu2
           have hu5 : ps[(0 - x - 1).toNat]? = some u := by rw [← hu]; congr 2; omega
           have hS := f_R1_Sub d.types hd.ty u t hu3 hu4
           rw [hu2] at hbad
           simp only [tyoBad] at hbad
           clear hu hu2
           cases hs : subB d.types u t with
           | true =>
            rw [hs] at hbad hS
            rw [if_pos rfl] at hbad
            clear ha
            repeat' (first | refine i_len rfl ?_ | refine i_s rfl ?_ | refine sw ?_ | refine c_f rfl ?_ | refine ja rfl rfl ?_ | refine jb rfl rfl ?_ | refine jd rfl rfl ?_ | refine c_cond rfl (fun h => ?_) (fun h => ?_) | refine sf rfl rfl hJ ?_ | refine sf rfl rfl hS ?_ | fail)
            all_goals first
             | (exact e_for hlt (all_succ hi hbad) ft)
             | (exfalso; clear hJ hS; simp at *; omega)
           | false =>
            rw [hs] at hbad hS
            rw [if_neg (by simp)] at hbad
            rw [scan0_hit hi hlt hbad]
            clear hi hbad ha
            repeat' (first | refine i_len rfl ?_ | refine i_s rfl ?_ | refine sw ?_ | refine c_t rfl ?_ | refine c_f rfl ?_ | refine jb rfl rfl ?_ | refine jd rfl rfl ?_ | refine c_cond rfl (fun h => ?_) (fun h => ?_) | refine sf rfl rfl hJ ?_ | refine sf rfl rfl hS ?_ | fail)
            all_goals first
             | exact e_ret ⟨rfl, _, rfl, rfl⟩
             | (exfalso; clear hJ hS; simp at *; omega)
         · obtain ⟨o, hoo⟩ := get_some (l := d.objects) (k := x.toNat) (by omega)
           have hu2 : typeOfA d ps x = some o.type := by unfold typeOfA; rw [if_pos (by omega), hoo]; rfl
           obtain ⟨hu3, hu4⟩ := typeOfA_ok hd hps hu2
           have hS := f_R1_Sub d.types hd.ty o.type t hu3 hu4
           rw [hu2] at hbad
           simp only [tyoBad] at hbad
           clear hu2
           cases hs : subB d.types o.type t with
           | true =>
            rw [hs] at hbad hS
            rw [if_pos rfl] at hbad
            clear ha
            repeat' (first | refine i_len rfl ?_ | refine i_s rfl ?_ | refine sw ?_ | refine c_f rfl ?_ | refine ja rfl rfl ?_ | refine jb rfl rfl ?_ | refine jd rfl rfl ?_ | refine c_cond rfl (fun h => ?_) (fun h => ?_) | refine sf rfl rfl hJ ?_ | refine sf rfl rfl hS ?_ | fail)
            all_goals first
             | (exact e_for hlt (all_succ hi hbad) ft)
             | (exfalso; clear hJ hS; simp at *; omega)
           | false =>
            rw [hs] at hbad hS
            rw [if_neg (by simp)] at hbad
            rw [scan0_hit hi hlt hbad]
            clear hi hbad ha
            repeat' (first | refine i_len rfl ?_ | refine i_s rfl ?_ | refine sw ?_ | refine c_t rfl ?_ | refine c_f rfl ?_ | refine jb rfl rfl ?_ | refine jd rfl rfl ?_ | refine c_cond rfl (fun h => ?_) (fun h => ?_) | refine sf rfl rfl hJ ?_ | refine sf rfl rfl hS ?_ | fail)
            all_goals first
             | exact e_ret ⟨rfl, _, rfl, rfl⟩
             | (exfalso; clear hJ hS; simp at *; omega)
       · have e2 : (decide (0 - (ps.length : Int) ≤ x) && decide (x ≤ (d.objects.length : Int) - 1)) = false := by rw [Bool.eq_false_iff]; simp; omega
         rw [e2] at hJ
         have hu2 : typeOfA d ps x = none := by unfold typeOfA; rw [if_neg (by omega), if_neg (by omega)]
         rw [hu2] at hbad
         simp only [tyoBad] at hbad
         rw [scan0_hit hi hlt hbad]
         clear hi hbad ha
         repeat' (first | refine i_len rfl ?_ | refine i_s rfl ?_ | refine sw ?_ | refine c_t rfl ?_ | refine jb rfl rfl ?_ | refine jd rfl rfl ?_ | refine c_cond rfl (fun h => ?_) (fun h => ?_) | refine sf rfl rfl hJ ?_ | fail)
         all_goals first
          | exact e_ret ⟨rfl, _, rfl, rfl⟩
          | (exfalso; clear hJ; simp at *; omega)
     · rw [scan0_none fun j hj => hi j (by omega)]
       clear hi ha
       repeat' (first | refine i_len rfl ?_ | refine i_s rfl ?_ | refine sw ?_ | refine c_cond rfl (fun h => ?_) (fun h => ?_))
       all_goals first
        | exact e_ret ⟨rfl, _, rfl, rfl⟩
        | (exfalso; simp at *; omega)
   · rw [atomCode_len h1 hp h2]
     refine Fn.step mixed k_R1_AtomCode ?_
     repeat' (first | refine i_len rfl ?_ | refine i_s rfl ?_ | refine sw ?_ | refine c_f rfl ?_ | refine jb rfl rfl ?_ | refine jd rfl rfl ?_ | refine i_box rfl rfl ?_ | refine c_cond rfl (fun h => ?_) (fun h => ?_) | refine sf rfl rfl hI ?_ | fail)
     all_goals first
      | exact e_ret ⟨rfl, _, rfl, rfl⟩
      | (exfalso; clear hI; simp at *; omega)
def c_R1_AtomsCode : Cmd :=
 (qS [qx 4 2176262 6 0, qc 8 0]
 (qT (qS [qm 11 2, qn 12 11, qm 13 3, qu 14 .gtr [] 12 13]
 (.cond (.t 14) (.seq (.ops [qc 8 2]) .ret) .skip))
 (qT (qS [qc 9 0]
 (.block 0 (.loop (qT (qS [qm 15 9, qm 16 2, qn 17 16, qu 18 .lss [] 15 17]
 (.cond (.t 18) .skip (.exit 0)))
 (qT (.block 1 (qS [qL 21 6 4, qm 22 1, qm 23 2, qm 24 9, qi 25 2 23 24, qL 26 2 25, qk 27 87 [21, 22, 26], qm 10 27]
 (qS [qm 28 10, qv 29 .neq [.i] 28 0]
 (.cond (.t 29) (.seq (.ops [qm 30 10, qm 8 30]) .ret) .skip))))
 (.ops [qm 19 9, qv 20 .add [] 19 1, qm 9 20]))))))
 (.seq (.ops [qc 8 0]) .ret))))
def r_R1_AtomsCode : List RVar := [.tmp 8]
def n_R1_AtomsCode : Nat := 31
theorem k_R1_AtomsCode : chkFn PG 34 n_R1_AtomsCode r_R1_AtomsCode c_R1_AtomsCode = true := by kernel_rfl
theorem f_R1_AtomsCode (d : Dom) (hd : DoTy d) (hpr : d.preds.length ≤ 140737488355328) (ps : List Int) (hps : PsOk d ps) (l : List At) (hl : l.length ≤ 140737488355328) (ho : ∀ a ∈ l, AtOk a) (most : Nat) (hm : most ≤ 1000) :
  Fc PG 34 [domV d, .sl .p (ps.map i64V), .sl .p (l.map atV), .int .i64 most] (.int .i64 (atomsCode d ps l most)) := by
 unfold atomsCode
 by_cases h3 : l.length > most
 · rw [if_pos h3]
   refine Fn.step mixed k_R1_AtomsCode ?_
   repeat' (first | refine i_len rfl ?_ | refine i_s rfl ?_ | refine sw ?_ | refine i_box rfl rfl ?_ | refine c_cond rfl (fun h => ?_) (fun h => ?_))
   all_goals first
    | exact e_ret ⟨rfl, _, rfl, rfl⟩
    | (exfalso; simp at *; omega)
 · rw [if_neg h3]
   refine Fn.step mixed k_R1_AtomsCode ?_
   repeat' (first | refine i_len rfl ?_ | refine i_s rfl ?_ | refine sw ?_ | refine i_box rfl rfl ?_ | refine c_cond rfl (fun h => ?_) (fun h => ?_))
   all_goals first
    | (exfalso; simp at *; omega)
    | skip
   refine c_for l.length (fun k => [(1, .sl .p (ps.map i64V)), (2, .sl .p (l.map atV)), (4, .bptr 2176262 0), (9, .int .i64 k)]) (fun _ => [(2176262, .box (domV d))]) (fun k => ∀ j, j < k → ∀ x, l[j]? = some x → atomCode d ps x = 0) all_zero ft fun k hk hi => ?_
   by_cases hlt : k < l.length
   · obtain ⟨x, hx⟩ := get_some hlt
     have hA := f_R1_AtomCode d hd ps hps x (ho x (mem_get hx)) hpr
     by_cases hz : atomCode d ps x = 0
     · rw [hz] at hA
       repeat' (first | refine i_len rfl ?_ | refine i_s rfl ?_ | refine sw ?_ | refine c_f rfl ?_ | refine ja rfl rfl ?_ | refine jd rfl rfl ?_ | refine c_cond rfl (fun h => ?_) (fun h => ?_) | refine sf rfl rfl hA ?_ | fail)
       all_goals first
        | (exact e_for hlt (all_succ hi fun y hy => by rw [hx] at hy; cases hy; exact hz) ft)
        | (exfalso; clear hA; simp at *; omega)
     · rw [fnz_hit hi hx hz]
       clear hi
       generalize atomCode d ps x = e at *
       repeat' (first | refine i_len rfl ?_ | refine i_s rfl ?_ | refine sw ?_ | refine ja rfl rfl ?_ | refine jd rfl rfl ?_ | refine c_cond rfl (fun h => ?_) (fun h => ?_) | refine sf rfl rfl hA ?_ | fail)
       all_goals first
        | exact e_ret ⟨rfl, _, rfl, rfl⟩
        | (exfalso; clear hA; simp at *; omega)
   · rw [fnz_ok fun j hj => hi j (by omega)]
     clear hi
     repeat' (first | refine i_len rfl ?_ | refine i_s rfl ?_ | refine sw ?_ | refine c_cond rfl (fun h => ?_) (fun h => ?_))
     all_goals first
      | exact e_ret ⟨rfl, _, rfl, rfl⟩
      | (exfalso; simp at *; omega)
def c_domain_atoms : Cmd :=
 (qS [qx 4 5312262 6 0, qc 8 0]
 (qT (qS [qm 12 2, qn 13 12, qm 14 3, qu 15 .gtr [] 13 14]
 (.cond (.t 15) (.seq (.ops [qc 8 2]) .ret) .skip))
 (qT (qS [qm 16 2, qn 17 16, qc 18 0]
 (.block 0 (.loop (qS [qu 19 .lss [] 18 17]
 (qT (.cond (.t 19) .skip (.exit 0))
 (qT (.block 1 (qS [qi 20 2 16 18, qL 21 2 20, qq 10 (.alloc 5312642 (.agg [.int .i64 0, .sl .nil []])), qs 2 10 21]
 (qS [qL 22 6 4, qm 23 1, qL 24 2 10, qk 25 133 [22, 23, 24], qm 11 25]
 (qS [qm 26 11, qv 27 .neq [.i] 26 0]
 (.cond (.t 27) (.seq (.ops [qm 28 11, qm 8 28]) .ret) .skip)))))
 (.ops [qv 29 .add [] 18 1, qm 18 29])))))))
 (.seq (.ops [qc 8 0]) .ret))))
def r_domain_atoms : List RVar := [.tmp 8]
def n_domain_atoms : Nat := 30
theorem k_domain_atoms : chkFn PG 83 n_domain_atoms r_domain_atoms c_domain_atoms = true := by kernel_rfl
theorem f_domain_atoms (d : Dom) (hd : DoTy d) (ps : List Int) (hps : PsOk d ps) (l : List At) (hl : l.length ≤ 140737488355328) (ho : ∀ a ∈ l, AtOk a) (most : Nat) (hm : most ≤ 1000) :
  Fc PG 83 [domV d, .sl .p (ps.map i64V), .sl .p (l.map atV), .int .i64 most] (.int .i64 (atomsCode d ps l most)) := by
 unfold atomsCode
 by_cases h3 : l.length > most
 · rw [if_pos h3]
   refine Fn.step mixed k_domain_atoms ?_
   repeat' (first | refine i_len rfl ?_ | refine i_s rfl ?_ | refine sw ?_ | refine i_box rfl rfl ?_ | refine c_cond rfl (fun h => ?_) (fun h => ?_))
   all_goals first
    | exact e_ret ⟨rfl, _, rfl, rfl⟩
    | (exfalso; simp at *; omega)
 · rw [if_neg h3]
   refine Fn.step mixed k_domain_atoms ?_
   repeat' (first | refine i_len rfl ?_ | refine i_s rfl ?_ | refine sw ?_ | refine i_box rfl rfl ?_ | refine c_cond rfl (fun h => ?_) (fun h => ?_))
   all_goals first
    | (exfalso; simp at *; omega)
    | skip
   refine c_for l.length (fun k => [(1, .sl .p (ps.map i64V)), (4, .bptr 5312262 0), (16, .sl .p (l.map atV)), (17, .int .i64 l.length), (18, .int .i64 k)]) (fun _ => [(5312262, .box (domV d))]) (fun k => ∀ j, j < k → ∀ x, l[j]? = some x → atomCode d ps x = 0) all_zero ft fun k hk hi => ?_
   by_cases hlt : k < l.length
   · obtain ⟨x, hx⟩ := get_some hlt
     have hA := f_domain_Atom d hd ps hps x (ho x (mem_get hx))
     by_cases hz : atomCode d ps x = 0
     · rw [hz] at hA
       repeat' (first | refine i_s rfl ?_ | refine sw ?_ | refine c_f rfl ?_ | refine ja rfl rfl ?_ | refine jd rfl rfl ?_ | refine i_stb rfl ?_ | refine i_alloc rfl ?_ | refine c_cond rfl (fun h => ?_) (fun h => ?_) | refine sf rfl rfl hA ?_ | fail)
       all_goals first
        | (exact e_for hlt (all_succ hi fun y hy => by rw [hx] at hy; cases hy; exact hz) ft)
        | (exfalso; clear hA; simp at *; omega)
     · rw [fnz_hit hi hx hz]
       clear hi
       generalize atomCode d ps x = e at *
       repeat' (first | refine i_s rfl ?_ | refine sw ?_ | refine ja rfl rfl ?_ | refine jd rfl rfl ?_ | refine i_stb rfl ?_ | refine i_alloc rfl ?_ | refine c_cond rfl (fun h => ?_) (fun h => ?_) | refine sf rfl rfl hA ?_ | fail)
       all_goals first
        | exact e_ret ⟨rfl, _, rfl, rfl⟩
        | (exfalso; clear hA; simp at *; omega)
   · rw [fnz_ok fun j hj => hi j (by omega)]
     clear hi
     repeat' (first | refine i_s rfl ?_ | refine sw ?_ | refine c_cond rfl (fun h => ?_) (fun h => ?_))
     all_goals first
      | exact e_ret ⟨rfl, _, rfl, rfl⟩
      | (exfalso; simp at *; omega)
def c_R1_AtomsOf : Cmd :=
 (qS [qq 2 (.mov (.c (.sl .nil [])))]
 (qS [qq 3 (.newVec 2304194)]
 (qT (qS [qc 4 0]
 (.block 0 (.loop (qT (qS [qm 5 4, qm 6 0, qn 7 6, qu 8 .lss [] 5 7]
 (.cond (.t 8) .skip (.exit 0)))
 (qT (.block 1 (.ops [qm 11 3, qm 12 0, qm 13 4, qi 14 3 12 13, qf 15 1 14, qL 16 2 15, qq 17 (.bsl 2 [.t 16]), qq 18 (.append 2 32 49 (.t 11) (.t 17)), qm 3 18]))
 (.ops [qm 9 4, qv 10 .add [] 9 1, qm 4 10]))))))
 (.seq (.ops [qm 19 3, qm 2 19]) .ret))))
def r_R1_AtomsOf : List RVar := [.tmp 2]
def n_R1_AtomsOf : Nat := 20
theorem k_R1_AtomsOf : chkFn PG 36 n_R1_AtomsOf r_R1_AtomsOf c_R1_AtomsOf = true := by kernel_rfl
theorem f_R1_AtomsOf (l : List Lit) (hl : l.length ≤ 3518437208883) : Fc PG 36 [.sl .p (l.map litV)] (.sl .p ((l.map Lit.at_).map atV)) := by
 refine Fn.step mixed k_R1_AtomsOf ?_
 repeat (first | refine i_s rfl ?_ | refine sw ?_ | refine i_nv rfl ?_)
 refine c_for l.length (fun k => [(0, .sl .p (l.map litV)), (3, .sl (.own 2304194) (((l.take k).map Lit.at_).map atV)), (4, .int .i64 k)]) (fun k => [(2304194, .vec (l.take k).length)]) (fun _ => True) trivial ⟨⟨rfl, by simp; rfl, rfl, trivial⟩, ⟨by simp; rfl, trivial⟩, rfl⟩ fun k hk _ => ?_
 have htl : (l.take k).length = k := by rw [List.length_take]; omega
 repeat (first | refine i_len rfl ?_ | refine i_s rfl ?_ | refine sw ?_)
 refine c_cond rfl (fun h => ?_) (fun h => ?_)
 · have hlt : k < l.length := by simpa using h
   obtain ⟨x, hx⟩ := get_some hlt
   clear h
   repeat (first | refine i_s rfl ?_ | refine sw ?_ | refine jd rfl rfl ?_)
   refine i_appM (l := (l.take k).map Lit.at_) (f := atV) (c := x.at_) (k := (l.take k).length) rfl rfl rfl (by simp) rfl (by omega) (by omega) ?_
   repeat (first | refine i_s rfl ?_ | refine sw ?_ | refine ja rfl rfl ?_)
   refine e_for hlt trivial ⟨⟨rfl, ?_, rfl, trivial⟩, ⟨?_, trivial⟩, rfl⟩
   · rw [take_succ_get hx]; simp; rfl
   · rw [take_succ_get hx]; simp; rfl
 · have hge : k = l.length := by have : ¬ k < l.length := by simpa using h
                                 omega
   subst hge
   rw [List.take_length]
   clear h
   repeat' (first | refine i_s rfl ?_ | refine sw ?_ | fail)
   exact e_ret ⟨rfl, _, rfl, rfl⟩
def c_domain_literals : Cmd :=
 (qS [qx 3 1792198 6 0, qc 6 0]
 (qS [qq 7 (.newVec 1792450)]
 (qT (qS [qm 10 2, qn 11 10, qc 12 0]
 (.block 0 (.loop (qS [qu 13 .lss [] 12 11]
 (qT (.cond (.t 13) .skip (.exit 0))
 (qT (.block 1 (qS [qi 14 3 10 12, qL 15 3 14, qq 9 (.alloc 1792579 (.agg [.bool false, .int .i64 0, .sl .nil []])), qs 3 9 15]
 (.ops [qm 16 7, qf 17 1 9, qL 18 2 17, qq 19 (.bsl 2 [.t 18]), qq 20 (.append 2 32 49 (.t 16) (.t 19)), qm 7 20])))
 (.ops [qv 21 .add [] 12 1, qm 12 21])))))))
 (.seq (.ops [qL 22 6 3, qm 23 1, qm 24 7, qq 25 (.call .f (.c (.fn 83 [])) [.t 22, .t 23, .t 24, .c (.int .i64 8)]), qm 6 25]) .ret))))
def r_domain_literals : List RVar := [.tmp 6]
def n_domain_literals : Nat := 26
theorem k_domain_literals : chkFn PG 28 n_domain_literals r_domain_literals c_domain_literals = true := by kernel_rfl
theorem f_domain_literals (d : Dom) (hd : DoTy d) (ps : List Int) (hps : PsOk d ps) (l : List Lit) (hl : l.length ≤ 3518437208883) (ho : ∀ x ∈ l, AtOk x.at_) :
  Fc PG 28 [domV d, .sl .p (ps.map i64V), .sl .p (l.map litV)] (.int .i64 (atomsCode d ps (l.map Lit.at_) 8)) := by
 have hA := f_domain_atoms d hd ps hps (l.map Lit.at_) (by simp; omega) (by intro a ha; obtain ⟨x, hx, rfl⟩ := List.mem_map.1 ha; exact ho x hx) 8 (by omega)
 refine Fn.step mixed k_domain_literals ?_
 repeat (first | refine i_len rfl ?_ | refine i_s rfl ?_ | refine sw ?_ | refine i_box rfl rfl ?_ | refine i_nv rfl ?_)
 refine c_for l.length (fun k => [(1, .sl .p (ps.map i64V)), (3, .bptr 1792198 0), (7, .sl (.own 1792450) (((l.take k).map Lit.at_).map atV)), (10, .sl .p (l.map litV)), (11, .int .i64 l.length), (12, .int .i64 k)]) (fun k => [(1792198, .box (domV d)), (1792450, .vec (l.take k).length)]) (fun _ => True) trivial ⟨⟨rfl, rfl, by simp; rfl, rfl, rfl, rfl, trivial⟩, ⟨rfl, by simp; rfl, trivial⟩, rfl⟩ fun k hk _ => ?_
 have htl : (l.take k).length = k := by rw [List.length_take]; omega
 repeat (first | refine i_s rfl ?_ | refine sw ?_)
 refine c_cond rfl (fun h => ?_) (fun h => ?_)
 · have hlt : k < l.length := by simpa using h
   obtain ⟨x, hx⟩ := get_some hlt
   clear h hA
   repeat (first | refine i_s rfl ?_ | refine sw ?_ | refine jd rfl rfl ?_ | refine i_stb rfl ?_ | refine i_alloc rfl ?_)
   refine i_appM (l := (l.take k).map Lit.at_) (f := atV) (c := x.at_) (k := (l.take k).length) rfl rfl rfl (by simp) rfl (by omega) (by omega) ?_
   repeat (first | refine i_s rfl ?_ | refine sw ?_ | refine ja rfl rfl ?_)
   refine e_for hlt trivial ⟨⟨rfl, rfl, ?_, rfl, rfl, rfl, trivial⟩, ⟨rfl, ?_, trivial⟩, rfl⟩
   · rw [take_succ_get hx]; simp; rfl
   · rw [take_succ_get hx]; simp; rfl
 · have hge : k = l.length := by have : ¬ k < l.length := by simpa using h
                                 omega
   subst hge
   rw [List.take_length]
   clear h
   repeat' (first | refine i_s rfl ?_ | refine sw ?_ | refine sf rfl rfl hA ?_ | fail)
   exact e_ret ⟨rfl, _, rfl, rfl⟩
def c_domain_predicate_1 : Cmd :=
 (qS [qx 2 4928130 2 0, qb 3 false]
 (.seq (.ops [qf 4 0 2, ql 5 1 4, qf 6 0 1, ql 7 1 6, qu 8 .eql [.s] 5 7, qm 3 8]) .ret))
def r_domain_predicate_1 : List RVar := [.tmp 3]
def n_domain_predicate_1 : Nat := 9
theorem k_domain_predicate_1 : chkFn PG 77 n_domain_predicate_1 r_domain_predicate_1 c_domain_predicate_1 = true := by kernel_rfl
theorem f_domain_predicate_1 (u t : Prd) : Fc PG 77 [prdV u, .cptr .p (prdV t) 0] (.bool (u.name == t.name)) := by
 refine Fn.step mixed k_domain_predicate_1 ?_
 repeat' (first | refine i_s rfl ?_ | refine sw ?_ | refine i_box rfl rfl ?_)
 exact e_ret ⟨rfl, _, rfl, rfl⟩
def c_domain_predicate : Cmd :=
 (qS [qx 2 1600134 6 0, qc 4 0]
 (qS [qf 6 2 2, ql 7 1 6, qm 8 1, qi 9 2 7 8, qL 10 2 9, qq 5 (.alloc 1600322 (.agg [.str [], .sl .nil []])), qs 2 5 10]
 (qT (.block 0 (qS [qf 12 0 5, ql 13 1 12, qk 14 71 [13], qq 15 (.not (.t 14)), qm 16 15, qg 17 16 false (.faddr 0 (.t 5)), qg 18 16 false (.load false 1 (.t 17)), qg 19 16 false (.bin .eql false [.s] (.t 18) (.c (.str [110, 111, 116]))), qq 20 (.pick (.t 16) (.c (.bool true)) (.t 19)), qm 11 20]
 (.cond (.t 11) (.seq (.ops [qc 4 12]) .ret) (qS [qf 22 2 2, ql 23 1 22, qm 24 1, qq 25 (.slice false 2 (.t 23) none (some (.t 24))), qq 26 (.mkfn 77 [.t 5]), qk 27 76 [25, 26], qm 21 27]
 (.cond (.t 21) (.seq (.ops [qc 4 7]) .ret) .skip)))))
 (.seq (.ops [qL 28 6 2, qf 29 1 5, ql 30 1 29, qk 31 78 [28, 30], qm 4 31]) .ret))))
def r_domain_predicate : List RVar := [.tmp 4]
def n_domain_predicate : Nat := 32
theorem k_domain_predicate : chkFn PG 25 n_domain_predicate r_domain_predicate c_domain_predicate = true := by kernel_rfl
theorem f_domain_predicate (d : Dom) (ho : DoOk d) (i : Nat) (p : Prd) (hp : d.preds[i]? = some p) : Fc PG 25 [domV d, .int .i64 i] (.int .i64 (prdCode d i)) := by
 have hlt := get_lt hp
 have hpl := ho.preds.1
 have hpo := ho.preds.2 p (mem_get hp)
 have hN := f_types_IsName p.name hpo.1
 have hC := f_ContainsFunc_Predicate (d.preds.take i) (fun q => q.name == p.name) 77 [.cptr .p (prdV p) 0] (by simp; omega) (fun _ _ => rfl) rfl (fun u _ => f_domain_predicate_1 u p)
 have hP := f_domain_Params d ho.types.1 p.types (by omega)
 have hcode : prdCode d i = if nameB p.name = false ∨ p.name = notS then 12 else if (d.preds.take i).any (fun q => q.name == p.name) = true then 7 else paramsCode d.types.length p.types := by simp only [prdCode, hp]
 rw [hcode]
 clear hcode
 generalize nameB p.name = b1 at *
 generalize (d.preds.take i).any (fun q => q.name == p.name) = b2 at *
 generalize paramsCode d.types.length p.types = e at *
 clear ho
 cases b1 with
 | false =>
  rw [if_pos (.inl rfl)]
  refine Fn.step mixed k_domain_predicate ?_
  repeat' (first | refine i_s rfl ?_ | refine sw ?_ | refine i_gf rfl ?_ | refine c_t rfl ?_ | refine jd rfl rfl ?_ | refine i_stb rfl ?_ | refine i_alloc rfl ?_ | refine i_box rfl rfl ?_ | refine sf rfl rfl hN ?_ | fail)
  all_goals first
   | exact e_ret ⟨rfl, _, rfl, rfl⟩
   | (exfalso; clear hN hC hP; simp at *; done)
 | true =>
  by_cases c2 : p.name = notS
  · rw [if_pos (.inr c2)]
    have c3 : (p.name == [110, 111, 116]) = true := by rw [c2]; rfl
    refine Fn.step mixed k_domain_predicate ?_
    repeat' (first | refine i_s rfl ?_ | refine sw ?_ | refine i_gt rfl ?_ | refine jd rfl rfl ?_ | refine jh rfl rfl ?_ | refine i_stb rfl ?_ | refine i_alloc rfl ?_ | refine i_box rfl rfl ?_ | refine c_cond rfl (fun h => ?_) (fun h => ?_) | refine sf rfl rfl hN ?_ | fail)
    all_goals first
     | exact e_ret ⟨rfl, _, rfl, rfl⟩
     | (exfalso; clear hN hC hP; simp_all; done)
  · rw [if_neg (by simp [c2])]
    have c3 : (p.name == [110, 111, 116]) = false := by rw [beq_eq_false_iff_ne]; exact c2
    cases b2 with
    | true =>
     rw [if_pos rfl]
     refine Fn.step mixed k_domain_predicate ?_
     repeat' (first | refine i_s rfl ?_ | refine sw ?_ | refine i_gt rfl ?_ | refine c_t rfl ?_ | refine jd rfl rfl ?_ | refine jh rfl rfl ?_ | refine i_stb rfl ?_ | refine i_alloc rfl ?_ | refine i_box rfl rfl ?_ | refine c_cond rfl (fun h => ?_) (fun h => ?_) | refine sf rfl rfl hN ?_ | refine sf rfl rfl hC ?_ | fail)
     all_goals first
      | exact e_ret ⟨rfl, _, rfl, rfl⟩
      | (exfalso; clear hN hC hP; simp_all; done)
    | false =>
     rw [if_neg (by simp)]
     refine Fn.step mixed k_domain_predicate ?_
     repeat' (first | refine i_s rfl ?_ | refine sw ?_ | refine i_gt rfl ?_ | refine c_f rfl ?_ | refine jd rfl rfl ?_ | refine jh rfl rfl ?_ | refine i_stb rfl ?_ | refine i_alloc rfl ?_ | refine i_box rfl rfl ?_ | refine c_cond rfl (fun h => ?_) (fun h => ?_) | refine sf rfl rfl hN ?_ | refine sf rfl rfl hC ?_ | refine sf rfl rfl hP ?_ | fail)
     all_goals first
      | exact e_ret ⟨rfl, _, rfl, rfl⟩
      | (exfalso; clear hN hC hP; simp_all; done)
def c_domain_schema_1 : Cmd :=
 (qS [qx 2 5120135 7 0, qb 3 false]
 (.seq (.ops [qf 4 0 2, ql 5 1 4, qf 6 0 1, ql 7 1 6, qu 8 .eql [.s] 5 7, qm 3 8]) .ret))
def r_domain_schema_1 : List RVar := [.tmp 3]
def n_domain_schema_1 : Nat := 9
theorem k_domain_schema_1 : chkFn PG 80 n_domain_schema_1 r_domain_schema_1 c_domain_schema_1 = true := by kernel_rfl
theorem f_domain_schema_1 (u t : Sch) : Fc PG 80 [schV u, .cptr .p (schV t) 0] (.bool (u.name == t.name)) := by
 refine Fn.step mixed k_domain_schema_1 ?_
 repeat' (first | refine i_s rfl ?_ | refine sw ?_ | refine i_box rfl rfl ?_)
 exact e_ret ⟨rfl, _, rfl, rfl⟩
def c_domain_schema_2 : Cmd :=
 (qS [qx 2 5184130 2 0, qb 3 false]
 (.seq (.ops [qf 4 0 2, ql 5 1 4, qv 6 .lss [] 5 0, qm 7 6, qg 8 7 false (.faddr 0 (.t 2)), qg 9 7 false (.load false 1 (.t 8)), qg 10 7 false (.faddr 1 (.t 2)), qg 11 7 false (.load false 1 (.t 10)), qg 12 7 false (.bin .geq false [] (.t 9) (.t 11)), qq 13 (.pick (.t 7) (.c (.bool true)) (.t 12)), qm 14 13, qg 15 14 false (.faddr 1 (.t 2)), qg 16 14 false (.load false 1 (.t 15)), qg 17 14 false (.load false 1 (.t 1)), qg 18 14 false (.bin .geq false [] (.t 16) (.t 17)), qq 19 (.pick (.t 14) (.c (.bool true)) (.t 18)), qm 3 19]) .ret))
def r_domain_schema_2 : List RVar := [.tmp 3]
def n_domain_schema_2 : Nat := 20
theorem k_domain_schema_2 : chkFn PG 81 n_domain_schema_2 r_domain_schema_2 c_domain_schema_2 = true := by kernel_rfl
theorem f_domain_schema_2 (p : Int × Int) (n : Nat) : Fc PG 81 [pairV p, .cptr .p (.int .i64 n) 0] (.bool (pairBad n p)) := by
 refine Fn.step mixed k_domain_schema_2 ?_
 repeat' (first | refine i_s rfl ?_ | refine sw ?_ | refine i_gt rfl ?_ | refine i_gf rfl ?_ | refine i_box rfl rfl ?_ | refine i_g rfl (fun h => ?_) (fun h => ?_))
 all_goals (refine e_ret ⟨rfl, _, rfl, congrArg V.bool ?_⟩; unfold pairBad; rw [Bool.eq_iff_iff]; simp at *; (try omega))
theorem schSelf_ps {d : Dom} {s : Sch} (h : paramsCode d.types.length s.types = 0) : PsOk d s.types := by
 obtain ⟨h1, h2⟩ := paramsCode_ok h
 exact ⟨by omega, h2⟩
def c_domain_schema : Cmd :=
 (qS [qx 2 1664134 6 0, qc 4 0]
 (qS [qf 13 3 2, ql 14 1 13, qm 15 1, qi 16 7 14 15, qL 17 7 16, qq 5 (.alloc 1664327 (.agg [.str [], .sl .nil [], .sl .nil [], .sl .nil [], .sl .nil [], .sl .nil [], .int .i64 0])), qs 7 5 17]
 (qT (.block 0 (qS [qf 19 0 5, ql 20 1 19, qk 21 71 [20], qq 22 (.not (.t 21)), qm 18 22]
 (.cond (.t 18) (.seq (.ops [qc 4 12]) .ret) (qS [qf 24 3 2, ql 25 1 24, qm 26 1, qq 27 (.slice false 7 (.t 25) none (some (.t 26))), qq 28 (.mkfn 80 [.t 5]), qk 29 79 [27, 28], qm 23 29]
 (.cond (.t 23) (.seq (.ops [qc 4 7]) .ret) .skip)))))
 (qT (qS [qL 30 6 2, qf 31 1 5, ql 32 1 31, qk 33 78 [30, 32], qm 6 33]
 (qS [qm 34 6, qv 35 .neq [.i] 34 0]
 (.cond (.t 35) (.seq (.ops [qm 36 6, qm 4 36]) .ret) .skip)))
 (qS [qf 37 1 5, ql 38 1 37, qn 39 38, qq 7 (.alloc 1664449 (.int .i64 0)), qs 1 7 39]
 (qS [qq 40 (.mkfn 81 [.t 7]), qm 8 40]
 (qT (qS [qf 41 2 5, ql 42 1 41, qn 43 42, qv 44 .gtr [] 43 8]
 (.cond (.t 44) (.seq (.ops [qc 4 2]) .ret) .skip))
 (qT (qS [qf 45 2 5, ql 46 1 45, qm 47 8, qk 48 82 [46, 47]]
 (.cond (.t 48) (.seq (.ops [qc 4 3]) .ret) .skip))
 (qT (qS [qL 49 6 2, qf 50 1 5, ql 51 1 50, qf 52 3 5, ql 53 1 52, qk 54 28 [49, 51, 53], qm 9 54]
 (qS [qm 55 9, qv 56 .neq [.i] 55 0]
 (.cond (.t 56) (.seq (.ops [qm 57 9, qm 4 57]) .ret) .skip)))
 (qT (qS [qf 58 4 5, ql 59 1 58, qf 60 5 5, ql 61 1 60, qq 62 (.bsl 1 [.t 59, .t 61]), qn 63 62, qc 64 0]
 (.block 1 (.loop (qS [qu 65 .lss [] 64 63]
 (qT (.cond (.t 65) .skip (.exit 1))
 (qT (.block 2 (qS [qi 66 1 62 64, ql 67 1 66, qm 11 67]
 (qS [qL 68 6 2, qf 69 1 5, ql 70 1 69, qm 71 11, qq 72 (.call .f (.c (.fn 83 [])) [.t 68, .t 70, .t 71, .c (.int .i64 8)]), qm 12 72]
 (qS [qm 73 12, qv 74 .neq [.i] 73 0]
 (.cond (.t 74) (.seq (.ops [qm 75 12, qm 4 75]) .ret) .skip)))))
 (.ops [qv 76 .add [] 64 1, qm 64 76])))))))
 (qT (qS [qf 77 6 5, ql 78 1 77, qv 79 .lss [] 78 0, qm 80 79, qg 81 80 false (.faddr 6 (.t 5)), qg 82 80 false (.load false 1 (.t 81)), qg 83 80 false (.bin .gtr false [] (.t 82) (.c (.int .i64 100))), qq 84 (.pick (.t 80) (.c (.bool true)) (.t 83))]
 (.cond (.t 84) (.seq (.ops [qc 4 3]) .ret) .skip))
 (.seq (.ops [qc 4 0]) .ret))))))))))))
def r_domain_schema : List RVar := [.tmp 4]
def n_domain_schema : Nat := 85
theorem k_domain_schema : chkFn PG 26 n_domain_schema r_domain_schema c_domain_schema = true := by kernel_rfl
theorem f_domain_schema (d : Dom) (hd : DoTy d) (ho : DoOk d) (i : Nat) (s : Sch) (hp : d.schemas[i]? = some s) : Fc PG 26 [domV d, .int .i64 i] (.int .i64 (schCode d i)) := by
 have hlt := get_lt hp
 have hpl := ho.schemas.1
 have hso := ho.schemas.2 s (mem_get hp)
 have hst := hso.types
 have hsd := hso.diff
 have hN := f_types_IsName s.name hso.name
 have hC := f_ContainsFunc_Schema (d.schemas.take i) (fun q => q.name == s.name) 80 [.cptr .p (schV s) 0] (by simp; omega) (fun _ _ => rfl) rfl (fun u _ => f_domain_schema_1 u s)
 have hP := f_domain_Params d ho.types.1 s.types (by omega)
 have hcode : schCode d i = if nameB s.name = false then 12 else if (d.schemas.take i).any (fun q => q.name == s.name) = true then 7 else schSelf d s := by simp only [schCode, hp]
 rw [hcode]
 clear hcode
 generalize (d.schemas.take i).any (fun q => q.name == s.name) = b2 at *
 generalize nameB s.name = b1 at *
 cases b1 with
 | false =>
  rw [if_pos rfl]
  refine Fn.step mixed k_domain_schema ?_
  repeat' (first | refine i_s rfl ?_ | refine sw ?_ | refine c_t rfl ?_ | refine jd rfl rfl ?_ | refine i_stb rfl ?_ | refine i_alloc rfl ?_ | refine i_box rfl rfl ?_ | refine sf rfl rfl hN ?_ | fail)
  all_goals first
   | exact e_ret ⟨rfl, _, rfl, rfl⟩
   | (exfalso; clear hN hC hP; simp at *; done)
 | true =>
  rw [if_neg (by simp)]
  cases b2 with
  | true =>
   rw [if_pos rfl]
   refine Fn.step mixed k_domain_schema ?_
   repeat' (first | refine i_s rfl ?_ | refine sw ?_ | refine c_t rfl ?_ | refine c_f rfl ?_ | refine jd rfl rfl ?_ | refine jh rfl rfl ?_ | refine i_stb rfl ?_ | refine i_alloc rfl ?_ | refine i_box rfl rfl ?_ | refine sf rfl rfl hN ?_ | refine sf rfl rfl hC ?_ | fail)
   all_goals first
    | exact e_ret ⟨rfl, _, rfl, rfl⟩
    | (exfalso; clear hN hC hP; simp at *; done)
  | false =>
   rw [if_neg (by simp)]
   by_cases h1 : paramsCode d.types.length s.types = 0
   · have hps := schSelf_ps h1
     rw [h1] at hP
     by_cases h2 : s.diff.length > 8
     · have e : schSelf d s = 2 := by unfold schSelf; rw [if_neg (by simp [h1]), if_pos h2]
       rw [e]
       refine Fn.step mixed k_domain_schema ?_
       repeat' (first | refine i_len rfl ?_ | refine i_s rfl ?_ | refine sw ?_ | refine c_f rfl ?_ | refine jd rfl rfl ?_ | refine jh rfl rfl ?_ | refine i_stb rfl ?_ | refine i_alloc rfl ?_ | refine i_box rfl rfl ?_ | refine c_cond rfl (fun h => ?_) (fun h => ?_) | refine sf rfl rfl hN ?_ | refine sf rfl rfl hC ?_ | refine sf rfl rfl hP ?_ | fail)
       all_goals first
        | exact e_ret ⟨rfl, _, rfl, rfl⟩
        | (exfalso; clear hN hC hP; simp at *; omega)
     · have hD := f_ContainsFunc_2_int s.diff (pairBad s.types.length) 81 [.cptr .p (.int .i64 s.types.length) 0] (by omega) (fun _ _ => rfl) rfl (fun q _ => f_domain_schema_2 q s.types.length)
       cases h3 : s.diff.any (pairBad s.types.length) with
       | true =>
        have e : schSelf d s = 3 := by unfold schSelf; rw [if_neg (by simp [h1]), if_neg h2, if_pos h3]
        rw [e]
        rw [h3] at hD
        refine Fn.step mixed k_domain_schema ?_
        repeat' (first | refine i_len rfl ?_ | refine i_s rfl ?_ | refine sw ?_ | refine c_t rfl ?_ | refine c_f rfl ?_ | refine jd rfl rfl ?_ | refine jh rfl rfl ?_ | refine i_stb rfl ?_ | refine i_alloc rfl ?_ | refine i_box rfl rfl ?_ | refine c_cond rfl (fun h => ?_) (fun h => ?_) | refine sf rfl rfl hN ?_ | refine sf rfl rfl hC ?_ | refine sf rfl rfl hP ?_ | refine sf rfl rfl hD ?_ | fail)
        all_goals first
         | exact e_ret ⟨rfl, _, rfl, rfl⟩
         | (exfalso; clear hN hC hP hD; simp at *; omega)
       | false =>
        rw [h3] at hD
        have hL := f_domain_literals d hd s.types hps s.pre hso.pre hso.preA
        have hA1 := f_domain_atoms d hd s.types hps s.add (by have := hso.add; omega) hso.addA 8 (by omega)
        have hA2 := f_domain_atoms d hd s.types hps s.del (by have := hso.del; omega) hso.delA 8 (by omega)
        have e : schSelf d s = if atomsCode d s.types (s.pre.map Lit.at_) 8 ≠ 0 then atomsCode d s.types (s.pre.map Lit.at_) 8 else if atomsCode d s.types s.add 8 ≠ 0 then atomsCode d s.types s.add 8 else if atomsCode d s.types s.del 8 ≠ 0 then atomsCode d s.types s.del 8
         else if s.cost < 0 ∨ s.cost > 100 then 3 else 0 := by unfold schSelf; rw [if_neg (by simp [h1]), if_neg h2, if_neg (by simp [h3])]
        rw [e]
        clear e ho hso hps h1 h3
        generalize atomsCode d s.types (s.pre.map Lit.at_) 8 = c1 at *
        generalize atomsCode d s.types s.add 8 = c2 at *
        generalize atomsCode d s.types s.del 8 = c3 at *
        by_cases z1 : c1 = 0
        · subst z1
          rw [if_neg (by simp)]
          refine Fn.step mixed k_domain_schema ?_
          repeat' (first | refine i_len rfl ?_ | refine i_s rfl ?_ | refine sw ?_ | refine c_f rfl ?_ | refine jd rfl rfl ?_ | refine jh rfl rfl ?_ | refine i_stb rfl ?_ | refine i_alloc rfl ?_ | refine i_box rfl rfl ?_ | refine c_cond rfl (fun h => ?_) (fun h => ?_) | refine sf rfl rfl hN ?_ | refine sf rfl rfl hC ?_ | refine sf rfl rfl hP ?_ | refine sf rfl rfl hD ?_ | refine sf rfl rfl hL ?_ | fail)
          all_goals first
           | (exfalso; clear hN hC hP hD hL hA1 hA2; simp at *; omega)
           | skip
          clear hN hC hP hD hL
          refine c_for 2 (fun k => [(2, .bptr 1664134 0), (5, .bptr 1664327 0), (62, .sl .p ([s.add, s.del].map fun l => V.sl .p (l.map atV))), (63, .int .i64 2), (64, .int .i64 k)]) (fun _ => [(1664134, .box (domV d)), (1664327, .box (schV s))]) (fun k => (0 < k → c2 = 0) ∧ (1 < k → c3 = 0)) (by simp) ft fun k hk hi => ?_
          have ha : ([s.add, s.del] : List (List At))[0]? = some s.add := rfl
          have hb : ([s.add, s.del] : List (List At))[1]? = some s.del := rfl
          have hk3 : k = 0 ∨ k = 1 ∨ k = 2 := by omega
          rcases hk3 with rfl | rfl | rfl
          · clear hi hA2
            by_cases z2 : c2 = 0
            · subst z2
              repeat' (first | refine i_s rfl ?_ | refine sw ?_ | refine c_t rfl ?_ | refine c_f rfl ?_ | refine ja rfl rfl ?_ | refine jd rfl rfl ?_ | refine sf rfl rfl hA1 ?_ | fail)
              all_goals first
               | (exact e_for (by omega) ⟨fun _ => rfl, fun h => by omega⟩ ft)
               | (exfalso; clear hA1; simp at *; done)
            · rw [if_pos z2]
              repeat' (first | refine i_s rfl ?_ | refine sw ?_ | refine c_t rfl ?_ | refine ja rfl rfl ?_ | refine jd rfl rfl ?_ | refine c_cond rfl (fun h => ?_) (fun h => ?_) | refine sf rfl rfl hA1 ?_ | fail)
              all_goals first
               | exact e_ret ⟨rfl, _, rfl, rfl⟩
               | (exfalso; clear hA1; simp_all; done)
          · have z2 := hi.1 (by omega)
            rw [if_neg (by simp [z2])]
            clear hA1 hi
            by_cases z3 : c3 = 0
            · subst z3
              repeat' (first | refine i_s rfl ?_ | refine sw ?_ | refine c_t rfl ?_ | refine c_f rfl ?_ | refine ja rfl rfl ?_ | refine jd rfl rfl ?_ | refine sf rfl rfl hA2 ?_ | fail)
              all_goals first
               | (exact e_for (by omega) ⟨fun _ => z2, fun h => rfl⟩ ft)
               | (exfalso; clear hA2; simp at *; done)
            · rw [if_pos z3]
              repeat' (first | refine i_s rfl ?_ | refine sw ?_ | refine c_t rfl ?_ | refine ja rfl rfl ?_ | refine jd rfl rfl ?_ | refine c_cond rfl (fun h => ?_) (fun h => ?_) | refine sf rfl rfl hA2 ?_ | fail)
              all_goals first
               | exact e_ret ⟨rfl, _, rfl, rfl⟩
               | (exfalso; clear hA2; simp_all; done)
          · have z2 := hi.1 (by omega)
            have z3 := hi.2 (by omega)
            rw [if_neg (by simp [z2]), if_neg (by simp [z3])]
            clear hA1 hA2 hi
            repeat' (first | refine i_s rfl ?_ | refine sw ?_ | refine i_gt rfl ?_ | refine i_gf rfl ?_ | refine c_t rfl ?_ | refine c_f rfl ?_ | (refine sp ?_ ?_ <;> try intro h) | fail)
            all_goals first
             | (refine e_ret ⟨rfl, _, rfl, congrArg (V.int .i64) ?_⟩; simp at *; omega)
             | (exfalso; simp at *; omega)
             | (refine e_ret ⟨rfl, _, rfl, congrArg (V.int .i64) ?_⟩; simp at *; (repeat' split) <;> omega)
        · rw [if_pos z1]
          refine Fn.step mixed k_domain_schema ?_
          repeat' (first | refine i_len rfl ?_ | refine i_s rfl ?_ | refine sw ?_ | refine c_f rfl ?_ | refine jd rfl rfl ?_ | refine jh rfl rfl ?_ | refine i_stb rfl ?_ | refine i_alloc rfl ?_ | refine i_box rfl rfl ?_ | refine c_cond rfl (fun h => ?_) (fun h => ?_) | refine sf rfl rfl hN ?_ | refine sf rfl rfl hC ?_ | refine sf rfl rfl hP ?_ | refine sf rfl rfl hD ?_ | refine sf rfl rfl hL ?_ | fail)
          all_goals first
           | exact e_ret ⟨rfl, _, rfl, rfl⟩
           | (exfalso; clear hN hC hP hD hL hA1 hA2; simp at *; omega)
           | (exfalso; clear hN hC hP hD hL hA1 hA2; simp_all; done)
   · have e : schSelf d s = paramsCode d.types.length s.types := by unfold schSelf; rw [if_pos h1]
     rw [e]
     clear e ho hso
     generalize paramsCode d.types.length s.types = c at *
     refine Fn.step mixed k_domain_schema ?_
     repeat' (first | refine i_len rfl ?_ | refine i_s rfl ?_ | refine sw ?_ | refine c_f rfl ?_ | refine jd rfl rfl ?_ | refine jh rfl rfl ?_ | refine i_stb rfl ?_ | refine i_alloc rfl ?_ | refine i_box rfl rfl ?_ | refine c_cond rfl (fun h => ?_) (fun h => ?_) | refine sf rfl rfl hN ?_ | refine sf rfl rfl hC ?_ | refine sf rfl rfl hP ?_ | fail)
     all_goals first
      | exact e_ret ⟨rfl, _, rfl, rfl⟩
      | (exfalso; clear hN hC hP; simp_all; done)
def c_R1_SchemaCode : Cmd :=
 (qS [qx 2 2112134 6 0, qx 3 2112199 7 1, qc 4 0]
 (qS [qL 7 6 2, qf 8 1 3, ql 9 1 8, qk 10 32 [7, 9], qm 5 10]
 (qT (qS [qm 11 5, qv 12 .neq [.i] 11 0]
 (.cond (.t 12) (.seq (.ops [qm 13 5, qm 4 13]) .ret) .skip))
 (qT (qS [qf 14 2 3, ql 15 1 14, qn 16 15, qv 17 .gtr [] 16 8]
 (.cond (.t 17) (.seq (.ops [qc 4 2]) .ret) .skip))
 (qT (qS [qc 6 0]
 (.block 0 (.loop (qT (qS [qm 18 6, qf 19 2 3, ql 20 1 19, qn 21 20, qu 22 .lss [] 18 21]
 (.cond (.t 22) .skip (.exit 0)))
 (qT (.block 1 (qS [qf 25 2 3, ql 26 1 25, qm 27 6, qi 28 2 26 27, qf 29 0 28, ql 30 1 29, qv 31 .lss [] 30 0, qm 32 31, qg 33 32 false (.faddr 2 (.t 3)), qg 34 32 false (.load false 1 (.t 33)), qg 35 32 false (.mov (.t 6)), qg 36 32 false (.iaddr 2 (.t 34) (.t 35)), qg 37 32 false (.faddr 1 (.t 36)), qg 38 32 false (.load false 1 (.t 37)), qg 39 32 false (.faddr 2 (.t 3)), qg 40 32 false (.load false 1 (.t 39)), qg 41 32 false (.mov (.t 6)), qg 42 32 false (.iaddr 2 (.t 40) (.t 41)), qg 43 32 false (.faddr 0 (.t 42)), qg 44 32 false (.load false 1 (.t 43)), qg 45 32 false (.bin .leq false [] (.t 38) (.t 44)), qq 46 (.pick (.t 32) (.c (.bool true)) (.t 45)), qm 47 46, qg 48 47 false (.faddr 2 (.t 3)), qg 49 47 false (.load false 1 (.t 48)), qg 50 47 false (.mov (.t 6)), qg 51 47 false (.iaddr 2 (.t 49) (.t 50)), qg 52 47 false (.faddr 1 (.t 51)), qg 53 47 false (.load false 1 (.t 52)), qg 54 47 false (.faddr 1 (.t 3)), qg 55 47 false (.load false 1 (.t 54)), qg 56 47 false (.len false (.t 55)), qg 57 47 false (.bin .geq false [] (.t 53) (.t 56)), qq 58 (.pick (.t 47) (.c (.bool true)) (.t 57))]
 (.cond (.t 58) (.seq (.ops [qc 4 3]) .ret) .skip)))
 (.ops [qm 23 6, qv 24 .add [] 23 1, qm 6 24]))))))
 (qS [qL 59 6 2, qf 60 1 3, ql 61 1 60, qf 62 3 3, ql 63 1 62, qk 64 36 [63], qq 65 (.call .f (.c (.fn 34 [])) [.t 59, .t 61, .t 64, .c (.int .i64 8)]), qm 5 65]
 (qT (qS [qm 66 5, qv 67 .eql [.i] 66 0]
 (.cond (.t 67) (.ops [qL 68 6 2, qf 69 1 3, ql 70 1 69, qf 71 4 3, ql 72 1 71, qq 73 (.call .f (.c (.fn 34 [])) [.t 68, .t 70, .t 72, .c (.int .i64 8)]), qm 5 73]) .skip))
 (qT (qS [qm 74 5, qv 75 .eql [.i] 74 0]
 (.cond (.t 75) (.ops [qL 76 6 2, qf 77 1 3, ql 78 1 77, qf 79 5 3, ql 80 1 79, qq 81 (.call .f (.c (.fn 34 [])) [.t 76, .t 78, .t 80, .c (.int .i64 8)]), qm 5 81]) .skip))
 (qT (qS [qm 82 5, qv 83 .eql [.i] 82 0, qm 84 83, qg 85 84 true (.faddr 6 (.t 3)), qg 86 84 true (.load false 1 (.t 85)), qg 87 84 true (.call .f (.c (.fn 17 [])) [.t 86, .c (.int .i64 0), .c (.int .i64 100)]), qg 88 84 true (.not (.t 87)), qq 89 (.pick (.t 84) (.t 88) (.c (.bool false)))]
 (.cond (.t 89) (.ops [qc 5 3]) .skip))
 (.seq (.ops [qm 90 5, qm 4 90]) .ret))))))))))
def r_R1_SchemaCode : List RVar := [.tmp 4]
def n_R1_SchemaCode : Nat := 91
theorem k_R1_SchemaCode : chkFn PG 33 n_R1_SchemaCode r_R1_SchemaCode c_R1_SchemaCode = true := by kernel_rfl
theorem f_R1_SchemaCode (d : Dom) (hd : DoTy d) (ho : DoOk d) (s : Sch) (hso : SchOk s) : Fc PG 33 [domV d, schV s] (.int .i64 (schSelf d s)) := by
 have hst := hso.types
 have hsd := hso.diff
 have hP := f_R1_TypesCode d ho.types.1 s.types (by omega)
 by_cases h1 : paramsCode d.types.length s.types = 0
 · have hps := schSelf_ps h1
   rw [h1] at hP
   by_cases h2 : s.diff.length > 8
   · have e : schSelf d s = 2 := by unfold schSelf; rw [if_neg (by simp [h1]), if_pos h2]
     rw [e]
     refine Fn.step mixed k_R1_SchemaCode ?_
     repeat' (first | refine i_len rfl ?_ | refine i_s rfl ?_ | refine sw ?_ | refine c_f rfl ?_ | refine i_box rfl rfl ?_ | refine c_cond rfl (fun h => ?_) (fun h => ?_) | refine sf rfl rfl hP ?_ | fail)
     all_goals first
      | exact e_ret ⟨rfl, _, rfl, rfl⟩
      | (exfalso; clear hP; simp at *; omega)
   · have hO := f_R1_AtomsOf s.pre hso.pre
     have hL := f_R1_AtomsCode d hd ho.preds.1 s.types hps (s.pre.map Lit.at_) (by have := hso.pre; simp; omega) (by intro a ha; obtain ⟨x, hx, rfl⟩ := List.mem_map.1 ha; exact hso.preA x hx) 8 (by omega)
     have hA1 := f_R1_AtomsCode d hd ho.preds.1 s.types hps s.add (by have := hso.add; omega) hso.addA 8 (by omega)
     have hA2 := f_R1_AtomsCode d hd ho.preds.1 s.types hps s.del (by have := hso.del; omega) hso.delA 8 (by omega)
     have hI := f_R1_In s.cost 0 100
     have e : schSelf d s = if s.diff.any (pairBad s.types.length) = true then 3 else if atomsCode d s.types (s.pre.map Lit.at_) 8 ≠ 0 then atomsCode d s.types (s.pre.map Lit.at_) 8 else if atomsCode d s.types s.add 8 ≠ 0 then atomsCode d s.types s.add 8 else if atomsCode d s.types s.del 8 ≠ 0 then atomsCode d s.types s.del 8
      else if s.cost < 0 ∨ s.cost > 100 then 3 else 0 := by unfold schSelf; rw [if_neg (by simp [h1]), if_neg h2]
     rw [e]
     clear e ho hso hps h1
     generalize atomsCode d s.types (s.pre.map Lit.at_) 8 = c1 at *
     generalize atomsCode d s.types s.add 8 = c2 at *
     generalize atomsCode d s.types s.del 8 = c3 at *
     refine Fn.step mixed k_R1_SchemaCode ?_
     repeat' (first | refine i_len rfl ?_ | refine i_s rfl ?_ | refine sw ?_ | refine c_f rfl ?_ | refine i_box rfl rfl ?_ | refine c_cond rfl (fun h => ?_) (fun h => ?_) | refine sf rfl rfl hP ?_ | fail)
     all_goals first
      | (exfalso; clear hP hL hA1 hA2 hI hO; simp at *; omega)
      | skip
     clear hP
     refine c_for s.diff.length (fun k => [(2, .bptr 2112134 0), (3, .bptr 2112199 0), (6, .int .i64 k)]) (fun _ => [(2112134, .box (domV d)), (2112199, .box (schV s))]) (fun k => (s.diff.take k).any (pairBad s.types.length) = false) (by simp) ft fun k hk hi => ?_
     by_cases hlt : k < s.diff.length
     · obtain ⟨p, hp⟩ := get_some hlt
       clear hL hA1 hA2 hI hO
       have hpb : pairBad s.types.length p = (decide (p.1 < 0) || (decide (p.2 ≤ p.1) || decide ((s.types.length : Int) ≤ p.2))) := rfl
       cases hb : pairBad s.types.length p with
       | true =>
        rw [hb] at hpb
        rw [if_pos (List.any_eq_true.2 ⟨p, mem_get hp, hb⟩)]
        clear hi hb
        repeat' (first | refine i_len rfl ?_ | refine i_s rfl ?_ | refine sw ?_ | refine i_gt rfl ?_ | refine i_gf rfl ?_ | refine c_t rfl ?_ | refine ja rfl rfl ?_ | refine jd rfl rfl ?_ | (refine sp ?_ ?_ <;> try intro h) | fail)
        all_goals first
         | exact e_ret ⟨rfl, _, rfl, rfl⟩
         | (exfalso; simp at *; omega)
       | false =>
        rw [hb] at hpb
        have hnx : (s.diff.take (k + 1)).any (pairBad s.types.length) = false := by rw [take_succ_get hp, List.any_append, hi]; simp [hb]
        clear hi hb
        repeat' (first | refine i_len rfl ?_ | refine i_s rfl ?_ | refine sw ?_ | refine i_gt rfl ?_ | refine i_gf rfl ?_ | refine c_t rfl ?_ | refine ja rfl rfl ?_ | refine jd rfl rfl ?_ | (refine sp ?_ ?_ <;> try intro h) | fail)
        all_goals first
         | (exact e_for hlt hnx ft)
         | (exfalso; simp at *; omega)
     · rw [List.take_of_length_le (by omega)] at hi
       rw [if_neg (by simp [hi])]
       clear hi
       by_cases z1 : c1 = 0
       · subst z1
         rw [if_neg (by simp)]
         by_cases z2 : c2 = 0
         · subst z2
           rw [if_neg (by simp)]
           by_cases z3 : c3 = 0
           · subst z3
             rw [if_neg (by simp)]
             have hIe : (decide ((0 : Int) ≤ s.cost) && decide (s.cost ≤ 100)) = decide (¬ (s.cost < 0 ∨ s.cost > 100)) := by rw [Bool.eq_iff_iff]; simp
             rw [hIe] at hI
             by_cases z4 : s.cost < 0 ∨ s.cost > 100
             · rw [if_pos z4]
               rw [decide_eq_false (fun h => h z4)] at hI
               repeat' (first | refine i_len rfl ?_ | refine i_s rfl ?_ | refine sw ?_ | refine i_gt rfl ?_ | refine c_t rfl ?_ | refine c_cond rfl (fun h => ?_) (fun h => ?_) | refine sf rfl rfl hO ?_ | refine sf rfl rfl hL ?_ | refine sf rfl rfl hA1 ?_ | refine sf rfl rfl hA2 ?_ | refine sf rfl rfl hI ?_ | fail)
               all_goals first
                | exact e_ret ⟨rfl, _, rfl, rfl⟩
                | (exfalso; clear hO hL hA1 hA2 hI; simp at *; done)
                | (exfalso; clear hO hL hA1 hA2 hI; simp at *; omega)
             · rw [if_neg z4]
               rw [decide_eq_true z4] at hI
               repeat' (first | refine i_len rfl ?_ | refine i_s rfl ?_ | refine sw ?_ | refine i_gt rfl ?_ | refine c_t rfl ?_ | refine c_f rfl ?_ | refine c_cond rfl (fun h => ?_) (fun h => ?_) | refine sf rfl rfl hO ?_ | refine sf rfl rfl hL ?_ | refine sf rfl rfl hA1 ?_ | refine sf rfl rfl hA2 ?_ | refine sf rfl rfl hI ?_ | fail)
               all_goals first
                | exact e_ret ⟨rfl, _, rfl, rfl⟩
                | (exfalso; clear hO hL hA1 hA2 hI; simp at *; done)
                | (exfalso; clear hO hL hA1 hA2 hI; simp at *; omega)
           · rw [if_pos z3]
             repeat' (first | refine i_len rfl ?_ | refine i_s rfl ?_ | refine sw ?_ | refine i_gt rfl ?_ | refine i_gf rfl ?_ | refine c_t rfl ?_ | refine c_f rfl ?_ | (refine sp ?_ ?_ <;> try intro h) | refine sf rfl rfl hO ?_ | refine sf rfl rfl hL ?_ | refine sf rfl rfl hA1 ?_ | refine sf rfl rfl hA2 ?_ | refine sf rfl rfl hI ?_ | fail)
             all_goals first
              | exact e_ret ⟨rfl, _, rfl, rfl⟩
              | (exfalso; clear hO hL hA1 hA2 hI; simp at *; done)
              | (exfalso; clear hO hL hA1 hA2 hI; simp_all; done)
              | (exfalso; clear hO hL hA1 hA2 hI; simp at *; omega)
         · rw [if_pos z2]
           repeat' (first | refine i_len rfl ?_ | refine i_s rfl ?_ | refine sw ?_ | refine i_gt rfl ?_ | refine i_gf rfl ?_ | refine c_t rfl ?_ | refine c_f rfl ?_ | (refine sp ?_ ?_ <;> try intro h) | refine sf rfl rfl hO ?_ | refine sf rfl rfl hL ?_ | refine sf rfl rfl hA1 ?_ | refine sf rfl rfl hA2 ?_ | refine sf rfl rfl hI ?_ | fail)
           all_goals first
            | exact e_ret ⟨rfl, _, rfl, rfl⟩
            | (exfalso; clear hO hL hA1 hA2 hI; simp at *; done)
            | (exfalso; clear hO hL hA1 hA2 hI; simp_all; done)
            | (exfalso; clear hO hL hA1 hA2 hI; simp at *; omega)
       · rw [if_pos z1]
         repeat' (first | refine i_len rfl ?_ | refine i_s rfl ?_ | refine sw ?_ | refine i_gt rfl ?_ | refine i_gf rfl ?_ | refine c_f rfl ?_ | (refine sp ?_ ?_ <;> try intro h) | refine sf rfl rfl hO ?_ | refine sf rfl rfl hL ?_ | refine sf rfl rfl hA1 ?_ | refine sf rfl rfl hA2 ?_ | refine sf rfl rfl hI ?_ | fail)
         all_goals first
          | exact e_ret ⟨rfl, _, rfl, rfl⟩
          | (exfalso; clear hO hL hA1 hA2 hI; simp at *; done)
          | (exfalso; clear hO hL hA1 hA2 hI; simp_all; done)
          | (exfalso; clear hO hL hA1 hA2 hI; simp at *; omega)
 · have e : schSelf d s = paramsCode d.types.length s.types := by unfold schSelf; rw [if_pos h1]
   rw [e]
   clear e ho hso
   generalize paramsCode d.types.length s.types = c at *
   refine Fn.step mixed k_R1_SchemaCode ?_
   repeat' (first | refine i_len rfl ?_ | refine i_s rfl ?_ | refine sw ?_ | refine i_box rfl rfl ?_ | refine c_cond rfl (fun h => ?_) (fun h => ?_) | refine sf rfl rfl hP ?_ | fail)
   all_goals first
    | exact e_ret ⟨rfl, _, rfl, rfl⟩
    | (exfalso; clear hP; simp_all; done)
def c_domain_start_1 : Cmd :=
 (qS [qx 2 5440130 2 0, qb 3 false]
 (.seq (.ops [qL 4 2 1, qL 5 2 2, qk 6 86 [4, 5], qv 7 .eql [.i] 6 0, qm 3 7]) .ret))
def r_domain_start_1 : List RVar := [.tmp 3]
def n_domain_start_1 : Nat := 8
theorem k_domain_start_1 : chkFn PG 85 n_domain_start_1 r_domain_start_1 c_domain_start_1 = true := by kernel_rfl
theorem f_domain_start_1 (u t : At) (hu : AtOk u) (ht : AtOk t) : Fc PG 85 [atV u, .cptr .p (atV t) 0] (.bool (decide (t = u))) := by
 have h := f_domain_Compare t u ht hu
 refine Fn.step mixed k_domain_start_1 ?_
 repeat' (first | refine i_s rfl ?_ | refine sw ?_ | refine i_box rfl rfl ?_ | refine sf rfl rfl h ?_ | fail)
 refine e_ret ⟨rfl, _, rfl, congrArg V.bool ?_⟩
 by_cases e : t = u
 · rw [atomOrd_zero.2 e, decide_eq_true e]; rfl
 · have : atomOrd t u ≠ 0 := fun h => e (atomOrd_zero.1 h)
   rw [decide_eq_false e]
   simpa using this
def c_domain_start : Cmd :=
 (qS [qx 1 1728070 6 0, qc 2 0]
 (qT (qS [qL 6 6 1, qf 7 4 1, ql 8 1 7, qq 9 (.call .f (.c (.fn 83 [])) [.t 6, .c (.sl .nil []), .t 8, .c (.int .i64 40)]), qm 3 9]
 (qS [qm 10 3, qv 11 .neq [.i] 10 0]
 (.cond (.t 11) (.seq (.ops [qm 12 3, qm 2 12]) .ret) .skip)))
 (qT (qS [qf 13 4 1, ql 14 1 13, qn 15 14, qc 16 0]
 (.block 0 (.loop (qS [qu 17 .lss [] 16 15]
 (qT (.cond (.t 17) .skip (.exit 0))
 (qT (.block 1 (qS [qm 18 16, qi 19 2 14 16, qL 20 2 19, qq 5 (.alloc 1728322 (.agg [.int .i64 0, .sl .nil []])), qm 4 18, qs 2 5 20]
 (qS [qf 21 4 1, ql 22 1 21, qm 23 4, qq 24 (.slice false 2 (.t 22) none (some (.t 23))), qq 25 (.mkfn 85 [.t 5]), qk 26 84 [24, 25]]
 (.cond (.t 26) (.seq (.ops [qc 2 7]) .ret) .skip))))
 (.ops [qv 27 .add [] 16 1, qm 16 27])))))))
 (.seq (.ops [qc 2 0]) .ret))))
def r_domain_start : List RVar := [.tmp 2]
def n_domain_start : Nat := 28
theorem k_domain_start : chkFn PG 27 n_domain_start r_domain_start c_domain_start = true := by kernel_rfl
theorem f_domain_start (d : Dom) (hd : DoTy d) (ho : DoOk d) : Fc PG 27 [domV d] (.int .i64 (startCode d)) := by
 have hil := ho.init.1
 have hA := f_domain_atoms d hd [] ⟨by simp, by simp⟩ d.init (by omega) ho.init.2 40 (by omega)
 unfold startCode
 by_cases z : atomsCode d [] d.init 40 = 0
 · rw [if_neg (by simp [z])]
   rw [z] at hA
   refine Fn.step mixed k_domain_start ?_
   repeat' (first | refine i_len rfl ?_ | refine i_s rfl ?_ | refine sw ?_ | refine c_f rfl ?_ | refine i_box rfl rfl ?_ | refine sf rfl rfl hA ?_ | fail)
   all_goals first
    | (exfalso; clear hA; simp at *; done)
    | skip
   clear hA
   refine c_for d.init.length (fun k => [(1, .bptr 1728070 0), (14, .sl .p (d.init.map atV)), (15, .int .i64 d.init.length), (16, .int .i64 k)]) (fun _ => [(1728070, .box (domV d))]) (fun k => ∀ j, j < k → dupBad d.init j = none) all_zero ft fun k hk hi => ?_
   by_cases hlt : k < d.init.length
   · obtain ⟨x, hx⟩ := get_some hlt
     have hxo := ho.init.2 x (mem_get hx)
     have hC := f_ContainsFunc_Atom (d.init.take k) (fun u => decide (x = u)) 85 [.cptr .p (atV x) 0] (by simp; omega) (fun _ _ => rfl) rfl (fun u hu => f_domain_start_1 u x (ho.init.2 u (List.mem_of_mem_take hu)) hxo)
     have hbad : dupBad d.init k = if x ∈ d.init.take k then some 7 else none := by simp only [dupBad, hx]
     have hany : (d.init.take k).any (fun u => decide (x = u)) = decide (x ∈ d.init.take k) := by
      rw [Bool.eq_iff_iff]
      simp
     rw [hany] at hC
     by_cases hm : x ∈ d.init.take k
     · rw [if_pos hm] at hbad
       rw [decide_eq_true hm] at hC
       rw [scan0_hit hi hlt hbad]
       clear hi hbad hm hany ho
       repeat' (first | refine i_s rfl ?_ | refine sw ?_ | refine c_t rfl ?_ | refine jd rfl rfl ?_ | refine jh rfl rfl ?_ | refine i_stb rfl ?_ | refine i_alloc rfl ?_ | refine c_cond rfl (fun h => ?_) (fun h => ?_) | refine sf rfl rfl hC ?_ | fail)
       all_goals first
        | exact e_ret ⟨rfl, _, rfl, rfl⟩
        | (exfalso; clear hC; simp at *; omega)
     · rw [if_neg hm] at hbad
       rw [decide_eq_false hm] at hC
       clear hm hany ho
       repeat' (first | refine i_s rfl ?_ | refine sw ?_ | refine c_f rfl ?_ | refine ja rfl rfl ?_ | refine jd rfl rfl ?_ | refine jh rfl rfl ?_ | refine i_stb rfl ?_ | refine i_alloc rfl ?_ | refine c_cond rfl (fun h => ?_) (fun h => ?_) | refine sf rfl rfl hC ?_ | fail)
       all_goals first
        | (exact e_for hlt (all_succ hi hbad) ft)
        | (exfalso; clear hC; simp at *; omega)
   · rw [scan0_none fun j hj => hi j (by omega)]
     clear hi ho
     repeat' (first | refine i_s rfl ?_ | refine sw ?_ | refine c_cond rfl (fun h => ?_) (fun h => ?_))
     all_goals first
      | exact e_ret ⟨rfl, _, rfl, rfl⟩
      | (exfalso; simp at *; omega)
 · rw [if_pos z]
   clear ho
   generalize atomsCode d [] d.init 40 = c at *
   refine Fn.step mixed k_domain_start ?_
   repeat' (first | refine i_len rfl ?_ | refine i_s rfl ?_ | refine sw ?_ | refine i_box rfl rfl ?_ | refine c_cond rfl (fun h => ?_) (fun h => ?_) | refine sf rfl rfl hA ?_ | fail)
   all_goals first
    | exact e_ret ⟨rfl, _, rfl, rfl⟩
    | (exfalso; clear hA; simp_all; done)
end Hm
end
section
namespace Hm
open Go
set_option maxRecDepth 100000
set_option maxHeartbeats 1000000
theorem obBad_code (n : Nat) (l : List Obj) (i : Nat) : ∀ f, obBad n l i = some f → f.code ≠ 0 := by
 intro f h
 unfold obBad at h
 split at h
 · cases h
 · repeat' split at h
   all_goals cases h
   all_goals simp
theorem objectsFault_valid {n : Nat} {l : List Obj} (h : objectsFault n l = okF) : l.length ≤ 8 ∧ ∀ o ∈ l, -1 ≤ o.type ∧ o.type < n := by
 unfold objectsFault at h
 split at h
 · cases h
 · rename_i h8
   have hs := getD_ok (scan_prop (bad := obBad n l) (fun o => ∀ f, o = some f → f.code ≠ 0) (by simp) (fun i => obBad_code n l i) l.length 0) h
   refine ⟨by omega, fun o ho => ?_⟩
   obtain ⟨i, hi, e⟩ := List.getElem_of_mem ho
   have hg : l[i]? = some o := by rw [← e]; exact List.getElem?_eq_getElem hi
   have := scan_all _ _ hs i (Nat.zero_le _) (by omega)
   unfold obBad at this
   rw [hg] at this
   simp only at this
   split at this
   · cases this
   · split at this
     · cases this
     · split at this
       · cases this
       · omega
theorem objectsFault_code (n : Nat) (l : List Obj) : (objectsFault n l).code = 0 ↔ objectsFault n l = okF := by
 refine ⟨fun h => ?_, fun h => by rw [h]; rfl⟩
 unfold objectsFault at h ⊢
 split at h
 · cases h
 · rename_i h8
   rw [if_neg h8]
   have := scan_prop (bad := obBad n l) (fun o => ∀ f, o = some f → f.code ≠ 0) (by simp) (fun i => obBad_code n l i) l.length 0
   cases hs : scan (obBad n l) 0 l.length with
   | none => rfl
   | some f => rw [hs] at h; exact absurd h (this f hs)
end Hm
end
section
namespace Hm
open Go
set_option maxRecDepth 100000
set_option maxHeartbeats 4000000
theorem doTy_of {d : Dom} (h1 : typesFault d.types = okF) (h2 : objectsFault d.types.length d.objects = okF) : DoTy d := by
 obtain ⟨h3, h4⟩ := objectsFault_valid h2
 exact ⟨typesFault_valid h1, h3, h4⟩
def c_domain_Validate : Cmd :=
 (qS [qx 1 512070 6 0, qq 2 (.alloc 512130 (.agg [.int .i64 0, .int .i64 0]))]
 (qT (qS [qf 11 0 1, ql 12 1 11, qk 13 23 [12], qq 3 (.alloc 512194 (.agg [.int .i64 0, .int .i64 0])), qs 2 3 13]
 (qS [qL 14 2 3, qq 15 (.build [.int .i64 0, .int .i64 0] []), qq 16 (.bin .neq true [.i, .i] (.t 14) (.t 15))]
 (.cond (.t 16) (.seq (.ops [qf 17 0 3, ql 18 1 17, qq 19 (.build [.int .i64 0, .int .i64 0] [(0 , 1 , .t 18), (1 , 1 , .c (.int .i64 (-1)))]), qs 2 2 19]) .ret) .skip)))
 (qT (qS [qf 20 0 1, ql 21 1 20, qf 22 1 1, ql 23 1 22, qk 24 24 [21, 23], qq 4 (.alloc 512258 (.agg [.int .i64 0, .int .i64 0])), qs 2 4 24]
 (qS [qL 25 2 4, qq 26 (.build [.int .i64 0, .int .i64 0] []), qq 27 (.bin .neq true [.i, .i] (.t 25) (.t 26))]
 (.cond (.t 27) (.seq (.ops [qf 28 0 4, ql 29 1 28, qq 30 (.build [.int .i64 0, .int .i64 0] [(0 , 1 , .t 29), (1 , 1 , .c (.int .i64 (-2)))]), qs 2 2 30]) .ret) .skip)))
 (qT (qS [qf 31 2 1, ql 32 1 31, qn 33 32, qv 34 .gtr [] 33 8]
 (.cond (.t 34) (.seq (.ops [qq 35 (.build [.int .i64 0, .int .i64 0] [(0 , 1 , .c (.int .i64 2)), (1 , 1 , .c (.int .i64 (-3)))]), qs 2 2 35]) .ret) .skip))
 (qT (qS [qf 36 2 1, ql 37 1 36, qn 38 37, qc 39 0]
 (.block 0 (.loop (qS [qu 40 .lss [] 39 38]
 (qT (.cond (.t 40) .skip (.exit 0))
 (qT (.block 1 (qS [qm 41 39, qm 5 41]
 (qS [qL 42 6 1, qm 43 5, qk 44 25 [42, 43], qm 6 44]
 (qS [qm 45 6, qv 46 .neq [.i] 45 0]
 (.cond (.t 46) (.seq (.ops [qm 47 6, qq 48 (.build [.int .i64 0, .int .i64 0] [(0 , 1 , .t 47), (1 , 1 , .c (.int .i64 (-3)))]), qs 2 2 48]) .ret) .skip)))))
 (.ops [qv 49 .add [] 39 1, qm 39 49])))))))
 (qT (qS [qf 50 3 1, ql 51 1 50, qn 52 51, qv 53 .gtr [] 52 8]
 (.cond (.t 53) (.seq (.ops [qq 54 (.build [.int .i64 0, .int .i64 0] [(0 , 1 , .c (.int .i64 2)), (1 , 1 , .c (.int .i64 (-4)))]), qs 2 2 54]) .ret) .skip))
 (qT (qS [qf 55 3 1, ql 56 1 55, qn 57 56, qc 58 0]
 (.block 2 (.loop (qS [qu 59 .lss [] 58 57]
 (qT (.cond (.t 59) .skip (.exit 2))
 (qT (.block 3 (qS [qm 60 58, qm 7 60]
 (qS [qL 61 6 1, qm 62 7, qk 63 26 [61, 62], qm 8 63]
 (qS [qm 64 8, qv 65 .neq [.i] 64 0]
 (.cond (.t 65) (.seq (.ops [qm 66 8, qm 67 7, qq 68 (.build [.int .i64 0, .int .i64 0] [(0 , 1 , .t 66), (1 , 1 , .t 67)]), qs 2 2 68]) .ret) .skip)))))
 (.ops [qv 69 .add [] 58 1, qm 58 69])))))))
 (qT (qS [qL 70 6 1, qk 71 27 [70], qm 9 71]
 (qS [qm 72 9, qv 73 .neq [.i] 72 0]
 (.cond (.t 73) (.seq (.ops [qm 74 9, qq 75 (.build [.int .i64 0, .int .i64 0] [(0 , 1 , .t 74), (1 , 1 , .c (.int .i64 (-5)))]), qs 2 2 75]) .ret) .skip)))
 (qT (qS [qL 76 6 1, qf 77 5 1, ql 78 1 77, qq 79 (.call .f (.c (.fn 28 [])) [.t 76, .c (.sl .nil []), .t 78]), qm 10 79]
 (qS [qm 80 10, qv 81 .neq [.i] 80 0]
 (.cond (.t 81) (.seq (.ops [qm 82 10, qq 83 (.build [.int .i64 0, .int .i64 0] [(0 , 1 , .t 82), (1 , 1 , .c (.int .i64 (-6)))]), qs 2 2 83]) .ret) .skip)))
 (.seq (.ops [qq 84 (.build [.int .i64 0, .int .i64 0] []), qs 2 2 84]) .ret))))))))))
def r_domain_Validate : List RVar := [.cell true 2 2]
def n_domain_Validate : Nat := 85
theorem k_domain_Validate : chkFn PG 8 n_domain_Validate r_domain_Validate c_domain_Validate = true := by kernel_rfl
theorem f_domain_Validate (d : Dom) (ho : DoOk d) : Fc PG 8 [domV d] (ftV (domFault d)) := by
 have hT := f_types_Validate d.types ho.types
 have hO := f_types_Objects d.types ho.types.1 d.objects ho.objects
 unfold domFault
 by_cases t1 : typesFault d.types = okF
 · rw [if_neg (by simp [t1])]
   rw [t1] at hT
   by_cases t2 : objectsFault d.types.length d.objects = okF
   · rw [if_neg (by simp [t2])]
     rw [t2] at hO
     have hd := doTy_of t1 t2
     have hpl := ho.preds.1
     have hsl := ho.schemas.1
     by_cases t3 : d.preds.length > 8
     · rw [if_pos t3]
       refine Fn.step mixed k_domain_Validate ?_
       repeat' (first | refine i_len rfl ?_ | refine i_s rfl ?_ | refine sw ?_ | refine c_f rfl ?_ | refine i_stb rfl ?_ | refine i_alloc rfl ?_ | refine i_box rfl rfl ?_ | refine c_cond rfl (fun h => ?_) (fun h => ?_) | refine sf rfl rfl hT ?_ | refine sf rfl rfl hO ?_ | fail)
       all_goals first
        | exact e_ret ⟨rfl, _, rfl, rfl⟩
        | (exfalso; clear hT hO; simp at *; omega)
        | (exfalso; clear hT hO; simp_all; done)
     · rw [if_neg t3]
       refine Fn.step mixed k_domain_Validate ?_
       repeat' (first | refine i_len rfl ?_ | refine i_s rfl ?_ | refine sw ?_ | refine c_f rfl ?_ | refine i_stb rfl ?_ | refine i_alloc rfl ?_ | refine i_box rfl rfl ?_ | refine c_cond rfl (fun h => ?_) (fun h => ?_) | refine sf rfl rfl hT ?_ | refine sf rfl rfl hO ?_ | fail)
       all_goals first
        | (exfalso; clear hT hO; simp at *; omega)
        | (exfalso; clear hT hO; simp [okF] at *; done)
        | skip
       clear hT hO
       refine c_for d.preds.length (fun k => [(1, .bptr 512070 0), (2, .bptr 512130 0), (38, .int .i64 d.preds.length), (39, .int .i64 k)]) (fun _ => [(512070, .box (domV d)), (512130, .box (ftV okF))]) (fun k => ∀ j, j < k → nzF (prdCode d) (fun _ => -3) j = none) all_zero ft fun k hk hi => ?_
       by_cases hlt : k < d.preds.length
       · obtain ⟨p, hp⟩ := get_some hlt
         have hP := f_domain_predicate d ho k p hp
         by_cases z : prdCode d k = 0
         · have hn : nzF (prdCode d) (fun _ => -3) k = none := by unfold nzF; rw [if_pos z]
           rw [z] at hP
           clear ho
           repeat' (first | refine i_len rfl ?_ | refine i_s rfl ?_ | refine sw ?_ | refine c_f rfl ?_ | refine ja rfl rfl ?_ | refine i_stb rfl ?_ | refine c_cond rfl (fun h => ?_) (fun h => ?_) | refine sf rfl rfl hP ?_ | fail)
           all_goals first
            | (exact e_for hlt (all_succ hi hn) ft)
            | (exfalso; clear hP; simp at *; omega)
         · rw [scan0_hit hi hlt (show nzF (prdCode d) (fun _ => -3) k = some ⟨prdCode d k, -3⟩ by unfold nzF; rw [if_neg z])]
           clear hi ho
           generalize prdCode d k = c at *
           repeat' (first | refine i_len rfl ?_ | refine i_s rfl ?_ | refine sw ?_ | refine ja rfl rfl ?_ | refine i_stb rfl ?_ | refine c_cond rfl (fun h => ?_) (fun h => ?_) | refine sf rfl rfl hP ?_ | fail)
           all_goals first
            | exact e_ret ⟨rfl, _, rfl, rfl⟩
            | (exfalso; clear hP; simp at *; omega)
       · rw [scan0_none fun j hj => hi j (by omega)]
         clear hi
         by_cases t4 : d.schemas.length > 8
         · simp only
           rw [if_pos t4]
           clear ho
           repeat' (first | refine i_len rfl ?_ | refine i_s rfl ?_ | refine sw ?_ | refine i_stb rfl ?_ | refine c_cond rfl (fun h => ?_) (fun h => ?_))
           all_goals first
            | exact e_ret ⟨rfl, _, rfl, rfl⟩
            | (exfalso; simp at *; omega)
         · simp only
           rw [if_neg t4]
           repeat' (first | refine i_len rfl ?_ | refine i_s rfl ?_ | refine sw ?_ | refine i_stb rfl ?_ | refine c_cond rfl (fun h => ?_) (fun h => ?_))
           all_goals first
            | (exfalso; simp at *; omega)
            | skip
           refine c_for d.schemas.length (fun k => [(1, .bptr 512070 0), (2, .bptr 512130 0), (57, .int .i64 d.schemas.length), (58, .int .i64 k)]) (fun _ => [(512070, .box (domV d)), (512130, .box (ftV okF))]) (fun k => ∀ j, j < k → nzF (schCode d) (fun i => i) j = none) all_zero ft fun k hk hi => ?_
           by_cases hlt : k < d.schemas.length
           · obtain ⟨s, hs⟩ := get_some hlt
             have hP := f_domain_schema d hd ho k s hs
             by_cases z : schCode d k = 0
             · have hn : nzF (schCode d) (fun i => i) k = none := by unfold nzF; rw [if_pos z]
               rw [z] at hP
               clear ho
               repeat' (first | refine i_s rfl ?_ | refine sw ?_ | refine c_f rfl ?_ | refine ja rfl rfl ?_ | refine c_cond rfl (fun h => ?_) (fun h => ?_) | refine sf rfl rfl hP ?_ | fail)
               all_goals first
                | (exact e_for hlt (all_succ hi hn) ft)
                | (exfalso; clear hP; simp at *; omega)
             · rw [scan0_hit hi hlt (show nzF (schCode d) (fun i => i) k = some ⟨schCode d k, k⟩ by unfold nzF; rw [if_neg z])]
               clear hi ho
               generalize schCode d k = c at *
               repeat' (first | refine i_s rfl ?_ | refine sw ?_ | refine ja rfl rfl ?_ | refine i_stb rfl ?_ | refine c_cond rfl (fun h => ?_) (fun h => ?_) | refine sf rfl rfl hP ?_ | fail)
               all_goals first
                | exact e_ret ⟨rfl, _, rfl, rfl⟩
                | (exfalso; clear hP; simp at *; omega)
           · rw [scan0_none fun j hj => hi j (by omega)]
             clear hi
             simp only
             have hS := f_domain_start d hd ho
             have hG := f_domain_literals d hd [] ⟨by simp, by simp⟩ d.goal ho.goal.1 ho.goal.2
             clear ho
             generalize startCode d = c1 at *
             generalize atomsCode d [] (d.goal.map Lit.at_) 8 = c2 at *
             by_cases z1 : c1 = 0
             · subst z1
               rw [if_neg (by simp)]
               by_cases z2 : c2 = 0
               · subst z2
                 rw [if_neg (by simp)]
                 repeat' (first | refine i_s rfl ?_ | refine sw ?_ | refine c_f rfl ?_ | refine i_stb rfl ?_ | refine c_cond rfl (fun h => ?_) (fun h => ?_) | refine sf rfl rfl hS ?_ | refine sf rfl rfl hG ?_ | fail)
                 all_goals first
                  | exact e_ret ⟨rfl, _, rfl, rfl⟩
                  | (exfalso; clear hS hG; simp at *; omega)
               · rw [if_pos z2]
                 repeat' (first | refine i_s rfl ?_ | refine sw ?_ | refine c_f rfl ?_ | refine i_stb rfl ?_ | refine c_cond rfl (fun h => ?_) (fun h => ?_) | refine sf rfl rfl hS ?_ | refine sf rfl rfl hG ?_ | fail)
                 all_goals first
                  | exact e_ret ⟨rfl, _, rfl, rfl⟩
                  | (exfalso; clear hS hG; simp at *; omega)
             · rw [if_pos z1]
               repeat' (first | refine i_s rfl ?_ | refine sw ?_ | refine i_stb rfl ?_ | refine c_cond rfl (fun h => ?_) (fun h => ?_) | refine sf rfl rfl hS ?_ | refine sf rfl rfl hG ?_ | fail)
               all_goals first
                | exact e_ret ⟨rfl, _, rfl, rfl⟩
                | (exfalso; clear hS hG; simp at *; omega)
   · rw [if_pos t2]
     have ht2 : (objectsFault d.types.length d.objects).code ≠ 0 := fun h => t2 ((objectsFault_code _ _).1 h)
     clear ho
     generalize objectsFault d.types.length d.objects = F at *
     refine Fn.step mixed k_domain_Validate ?_
     repeat' (first | refine i_len rfl ?_ | refine i_s rfl ?_ | refine sw ?_ | refine c_f rfl ?_ | refine i_stb rfl ?_ | refine i_alloc rfl ?_ | refine i_box rfl rfl ?_ | refine c_cond rfl (fun h => ?_) (fun h => ?_) | refine sf rfl rfl hT ?_ | refine sf rfl rfl hO ?_ | fail)
     all_goals first
      | exact e_ret ⟨rfl, _, rfl, rfl⟩
      | (exfalso; clear hT hO; simp at *; omega)
      | (exfalso; clear hT hO; simp_all; done)
      | (exfalso; clear hT hO; simp [okF] at *; done)
 · rw [if_pos t1]
   have ht1 : (typesFault d.types).code ≠ 0 := fun h => t1 ((typesFault_code _).1 h)
   clear ho hO
   generalize typesFault d.types = F at *
   refine Fn.step mixed k_domain_Validate ?_
   repeat' (first | refine i_s rfl ?_ | refine sw ?_ | refine i_stb rfl ?_ | refine i_alloc rfl ?_ | refine i_box rfl rfl ?_ | refine c_cond rfl (fun h => ?_) (fun h => ?_) | refine sf rfl rfl hT ?_ | fail)
   all_goals first
    | exact e_ret ⟨rfl, _, rfl, rfl⟩
    | (exfalso; clear hT; simp at *; omega)
    | (exfalso; clear hT; simp_all; done)
    | (exfalso; clear hT; simp [okF] at *; done)
abbrev BX : Nat := 705153
abbrev WNS : List Nat := [705153, 715522]
abbrev wS (b : Nat) (R : List Sx) : List (Nat × Blk) := [(705153, .box (.tag b [.sl (.own 715522) (R.map sxV)])), (715522, .vec R.length)]
abbrev fnV (e : Nat × List V) : V := .fn e.1 e.2
structure El (b : Nat) (e : Nat × List V) (t : Tr) : Prop where
 pure : pureL e.2 = true
 cl : ∀ ns, closedL ns e.2 = true
 run : ∀ (G : Type) (H : HT G) (g : G) (R : List Sx), R.length + tsz t ≤ 1000000 → Cc PG H e.1 e.2 WNS (stOf (wS b R)) g fun r σ' g' => (r = .int .i64 ((R.length + tsz t : Nat) - 1 : Int) ∧ σ' = stOf (wS b (R ++ flt R.length t))) ∧ g' = g
def Els (b : Nat) (es : List (Nat × List V)) (ts : List Tr) : Prop := es.length = ts.length ∧ ∀ (i : Nat) (e : Nat × List V) (t : Tr), es[i]? = some e → ts[i]? = some t → El b e t
theorem Els.nil (b : Nat) : Els b [] [] := ⟨rfl, fun i e t h => by simp at h⟩
theorem Els.cons {b : Nat} {e : Nat × List V} {t : Tr} {es : List (Nat × List V)} {ts : List Tr} (h : El b e t) (k : Els b es ts) : Els b (e :: es) (t :: ts) := by
 refine ⟨by simp [k.1], fun i e' t' h1 h2 => ?_⟩
 cases i with
 | zero =>
  simp only [List.getElem?_cons_zero, Option.some.injEq] at h1 h2
  subst h1 h2
  exact h
 | succ i => exact k.2 i e' t' (by simpa using h1) (by simpa using h2)
theorem Els.append {b : Nat} {es fs : List (Nat × List V)} {ts us : List Tr} (h : Els b es ts) (k : Els b fs us) : Els b (es ++ fs) (ts ++ us) := by
 induction es generalizing ts with
 | nil =>
  cases ts with
  | nil => exact k
  | cons t r => have := h.1; simp at this
 | cons e es ih =>
  cases ts with
  | nil => have := h.1; simp at this
  | cons t r =>
   refine Els.cons (h.2 0 e t rfl rfl) (ih ⟨by have := h.1; simpa using this, fun i e' t' h1 h2 => h.2 (i + 1) e' t' (by simpa using h1) (by simpa using h2)⟩)
theorem Els.map {α : Type} {b : Nat} {f : α → Nat × List V} {T : α → Tr} : ∀ {l : List α}, (∀ x ∈ l, El b (f x) (T x)) → Els b (l.map f) (l.map T)
 | [], _ => Els.nil b
 | x :: r, h => Els.cons (h x (by simp)) (Els.map fun y hy => h y (by simp [hy]))
theorem tszL_take {l : List Tr} {k : Nat} {t : Tr} (h : l[k]? = some t) : tszL (l.take (k + 1)) = tszL (l.take k) + tsz t := by
 rw [take_succ_get h, tszL_append]; simp [tszL]
theorem tszL_take_le : ∀ (l : List Tr) (k : Nat), tszL (l.take k) ≤ tszL l
 | [], k => by simp
 | t :: r, 0 => by simp [tszL]
 | t :: r, k + 1 => by have := tszL_take_le r k; simp only [List.take_succ_cons, tszL]; omega
theorem wS_vec (R : List Sx) (x : Sx) : Blk.vec (R.length + 1) = .vec (R ++ [x]).length := by simp
theorem wS_nil (R : List Sx) (n : Nat) : R ++ fltL n [] = R := by simp [fltL]
def c_domain_writer_symbol : Cmd :=
 (qS [qc 4 0]
 (qS [qm 5 0, qm 6 0, qq 7 (.nilck (.t 6)), qf 8 0 7, ql 9 1 8, qm 10 1, qq 11 (.build [.str [], .sl .p []] [(0 , 1 , .t 10)]), qq 12 (.bsl 2 [.t 11]), qq 13 (.append 2 40 120 (.t 9) (.t 12)), qq 14 (.nilck (.t 5)), qf 15 0 14, qs 1 15 13]
 (.seq (.ops [qm 16 0, qq 17 (.nilck (.t 16)), qf 18 0 17, ql 19 1 18, qn 20 19, qv 21 .sub [] 20 1, qm 4 21]) .ret)))
def r_domain_writer_symbol : List RVar := [.tmp 4]
def n_domain_writer_symbol : Nat := 22
theorem k_domain_writer_symbol : chkFn PG 93 n_domain_writer_symbol r_domain_writer_symbol c_domain_writer_symbol = true := by kernel_rfl
theorem ct_symbol {G : Type} {H : HT G} (b : Nat) (s : List UInt8) (R : List Sx) (hR : R.length ≤ 1000000) (g : G) : Cc PG H 93 [.raw b 0, .str s] WNS (stOf (wS b R)) g fun r σ' g' => (r = .int .i64 R.length ∧ σ' = stOf (wS b (R ++ [⟨s, []⟩]))) ∧ g' = g := by
 refine CT.step _ mixed k_domain_writer_symbol (fun nm hnm => stOf_mem _ nm hnm) fun hM => ?_
 repeat (first | refine i_s rfl ?_ | refine sw ?_)
 refine i_ldr BX rfl rfl rfl ?_
 repeat refine i_s rfl ?_
 refine i_appM (c := (⟨s, []⟩ : Sx)) rfl rfl rfl rfl rfl (by omega) (by omega) ?_
 repeat refine i_s rfl ?_
 refine i_str BX rfl rfl rfl ?_
 refine i_nil ?_
 refine e_seq ?_
 refine c_cut [(0, .raw b 0)] (wS b (R ++ [(⟨s, []⟩ : Sx)])) ⟨⟨rfl, trivial⟩, ⟨rfl, ?_, trivial⟩, rfl⟩ ?_
 · exact wS_vec R ⟨s, []⟩
 have hl : (R ++ [(⟨s, []⟩ : Sx)]).length = R.length + 1 := by simp
 generalize R ++ [(⟨s, []⟩ : Sx)] = R2 at *
 repeat (first | refine i_s rfl ?_ | refine sw ?_)
 refine i_ldr BX rfl rfl rfl ?_
 repeat (first | refine i_len rfl ?_ | refine i_s rfl ?_ | refine sw ?_ | refine jb rfl rfl ?_)
 refine e_ret ⟨rfl, _, rfl, rfl, rfl, ⟨?_, restr_stOf _ _⟩, rfl⟩
 show V.int .i64 _ = _
 congr 1
 omega
def c_domain_writer_name_1 : Cmd :=
 (qS [qc 2 0]
 (.seq (.ops [ql 3 1 0, ql 4 1 1, qq 5 (.call (.s [705153, 715522]) (.c (.fn 93 [])) [.t 3, .t 4]), qm 2 5]) .ret))
def r_domain_writer_name_1 : List RVar := [.tmp 2]
def n_domain_writer_name_1 : Nat := 6
theorem k_domain_writer_name_1 : chkFn PG 92 n_domain_writer_name_1 r_domain_writer_name_1 c_domain_writer_name_1 = true := by kernel_rfl
theorem el_name (b : Nat) (s : List UInt8) : El b (92, [.cptr .p (.raw b 0) 0, .cptr .p (.str s) 0]) (.sym s) := by
 refine ⟨rfl, fun ns => rfl, fun G H g R hR => ?_⟩
 refine CT.step _ mixed k_domain_writer_name_1 (fun nm hnm => stOf_mem _ nm hnm) fun hM => ?_
 repeat (first | refine i_s rfl ?_ | refine sw ?_)
 refine i_cs rfl rfl rfl rfl (ct_symbol b s R (by omega) g) ?_
 rintro _ _ _ ⟨⟨rfl, rfl⟩, rfl⟩
 repeat (first | refine i_s rfl ?_ | refine sw ?_)
 refine e_ret ⟨rfl, _, rfl, rfl, rfl, ⟨?_, ?_⟩, rfl⟩
 · show V.int .i64 _ = _
   congr 1
   simp [tsz]
 · exact restr_stOf _ _
def c_domain_writer_name : Cmd :=
 (qS [qx 2 2688129 1 0, qx 3 2688193 1 1, qq 4 (.mov (.c (.nilfn)))]
 (.seq (.ops [qq 5 (.mkfn 92 [.t 2, .t 3]), qm 4 5]) .ret))
def r_domain_writer_name : List RVar := [.tmp 4]
def n_domain_writer_name : Nat := 6
theorem k_domain_writer_name : chkFn PG 42 n_domain_writer_name r_domain_writer_name c_domain_writer_name = true := by kernel_rfl
theorem f_writer_name (b : Nat) (s : List UInt8) : Fc PG 42 [.raw b 0, .str s] (fnV (92, [.cptr .p (.raw b 0) 0, .cptr .p (.str s) 0])) := by
 refine Fn.step mixed k_domain_writer_name ?_
 repeat' (first | refine i_s rfl ?_ | refine sw ?_ | refine i_box rfl rfl ?_)
 exact e_ret ⟨rfl, _, rfl, rfl⟩
def c_domain_writer_list : Cmd :=
 (qS [qc 4 0]
 (qS [qq 5 (.newVec 2624321)]
 (.seq (qS [qm 8 1, qn 9 8, qc 10 0]
 (.block 0 (.loop (qS [qu 11 .lss [] 10 9]
 (qT (.cond (.t 11) .skip (.exit 0))
 (qT (.block 1 (qS [qi 12 1 8 10, ql 13 1 12, qm 7 13]
 (.ops [qm 14 5, qm 15 7, qq 16 (.call (.s [705153, 715522]) (.t 15) []), qq 17 (.bsl 1 [.t 16]), qq 18 (.append 1 8 3 (.t 14) (.t 17)), qm 5 18])))
 (.ops [qv 19 .add [] 10 1, qm 10 19]))))))) (qT (.frz 5)
 (qS [qm 20 0, qm 21 0, qq 22 (.nilck (.t 21)), qf 23 0 22, ql 24 1 23, qm 25 5, qq 26 (.build [.str [], .sl .nil []] [(1 , 1 , .t 25)]), qq 27 (.bsl 2 [.t 26]), qq 28 (.append 2 40 120 (.t 24) (.t 27)), qq 29 (.nilck (.t 20)), qf 30 0 29, qs 1 30 28]
 (.seq (.ops [qm 31 0, qq 32 (.nilck (.t 31)), qf 33 0 32, ql 34 1 33, qn 35 34, qv 36 .sub [] 35 1, qm 4 36]) .ret))))))
def r_domain_writer_list : List RVar := [.tmp 4]
def n_domain_writer_list : Nat := 37
theorem k_domain_writer_list : chkFn PG 41 n_domain_writer_list r_domain_writer_list c_domain_writer_list = true := by kernel_rfl
theorem ct_wlist {G : Type} {H : HT G} (b : Nat) (es : List (Nat × List V)) (ts : List Tr) (hE : Els b es ts) (R : List Sx) (hR : R.length + tsz (.lst ts) ≤ 1000000) (hl : es.length ≤ 1000000) (g : G) : Cc PG H 41 [.raw b 0, .sl .p (es.map fnV)] WNS (stOf (wS b R)) g fun r σ' g' => (r = .int .i64 ((R.length + tsz (.lst ts) : Nat) - 1 : Int) ∧ σ' = stOf (wS b (R ++ flt R.length (.lst ts)))) ∧ g' = g := by
 obtain ⟨hlen, hE⟩ := hE
 refine CT.step _ mixed k_domain_writer_list (fun nm hnm => stOf_mem _ nm hnm) fun hM => ?_
 repeat (first | refine i_len rfl ?_ | refine i_s rfl ?_ | refine sw ?_ | refine i_nv rfl ?_)
 refine c_for es.length (fun k => [(0, .raw b 0), (5, .sl (.own 2624321) ((chs R.length (ts.take k)).map i64V)), (8, .sl .p (es.map fnV)), (9, .int .i64 es.length), (10, .int .i64 k)])
  (fun k => (2624321, .vec (chs R.length (ts.take k)).length) :: wS b (R ++ fltL R.length (ts.take k))) (fun _ => True) trivial ⟨⟨rfl, rfl, rfl, rfl, rfl, trivial⟩, ⟨rfl, ?_, ?_, trivial⟩, rfl⟩ fun k hk _ => ?_
 · show _ = Blk.box (.tag b [.sl _ ((R ++ fltL R.length []).map sxV)])
   rw [wS_nil]; rfl
 · show _ = Blk.vec (R ++ fltL R.length []).length
   rw [wS_nil]; rfl
 have hsz := tszL_take_le ts k
 have hRl : (R ++ fltL R.length (ts.take k)).length = R.length + tszL (ts.take k) := by rw [List.length_append, fltL_len]
 simp only [tsz] at hR
 have hcl : (chs R.length (ts.take k)).length = k := by rw [chs_len]; simp; omega
 by_cases hlt : k < es.length
 · obtain ⟨e, he⟩ := get_some hlt
   obtain ⟨t, ht⟩ := get_some (l := ts) (k := k) (by omega)
   have hEl := hE k e t he ht
   have hs1 := tszL_take ht
   have hs2 := tszL_take_le ts (k + 1)
   have hrun := hEl.run G H g (R ++ fltL R.length (ts.take k)) (by omega)
   have hcl2 := hEl.cl
   have e1 : R ++ fltL R.length (ts.take (k + 1)) = (R ++ fltL R.length (ts.take k)) ++ flt (R.length + tszL (ts.take k)) t := by
    rw [take_succ_get ht, fltL_append, List.append_assoc]; simp [fltL]
   have e2 : chs R.length (ts.take (k + 1)) = chs R.length (ts.take k) ++ [((R.length + tszL (ts.take k) + tsz t : Nat) : Int) - 1] := by
    rw [take_succ_get ht, chs_append]; simp [chs]
   rw [hRl] at hrun
   clear hEl hE
   repeat' (first | refine i_s rfl ?_ | refine sw ?_ | refine jd rfl rfl ?_ | refine c_cond rfl (fun h => ?_) (fun h => ?_))
   all_goals first
    | (exfalso; clear hrun hcl2; simp at *; done)
    | (exfalso; clear hrun hcl2; simp at *; omega)
    | skip
   refine i_cs rfl (hcl2 _) rfl rfl hrun ?_
   rintro _ _ _ ⟨⟨rfl, rfl⟩, rfl⟩
   repeat refine i_s rfl ?_
   refine i_appM (c := ((R.length + tszL (ts.take k) + tsz t : Nat) : Int) - 1) rfl rfl rfl rfl rfl (by omega) (by omega) ?_
   repeat (first | refine i_s rfl ?_ | refine sw ?_ | refine ja rfl rfl ?_)
   refine e_for hlt trivial ⟨⟨rfl, ?_, rfl, rfl, rfl, trivial⟩, ⟨?_, ?_, ?_, trivial⟩, rfl⟩
   · rw [e2]; rfl
   · rw [e2]; simp; rfl
   · rw [e1]; rfl
   · rw [e1]; rfl
 have hge : k = es.length := by omega
 subst hge
 have htk : ts.take es.length = ts := List.take_of_length_le (by omega)
 rw [htk] at hcl hRl ⊢
 repeat (first | refine i_s rfl ?_ | refine sw ?_)
 refine c_f (by exact congrArg V.bool (by simp)) ?_
 repeat refine sw ?_
 refine c_frzv rfl rfl ?_
 repeat (first | refine i_s rfl ?_ | refine sw ?_)
 refine i_ldr BX rfl rfl rfl ?_
 repeat refine i_s rfl ?_
 refine i_appM (c := (⟨[], chs R.length ts⟩ : Sx)) rfl rfl rfl rfl rfl (by omega) (by omega) ?_
 repeat refine i_s rfl ?_
 refine i_str BX rfl rfl rfl ?_
 refine i_nil ?_
 refine e_seq ?_
 have e3 : R ++ flt R.length (.lst ts) = (R ++ fltL R.length ts) ++ [(⟨[], chs R.length ts⟩ : Sx)] := by simp [flt]
 rw [e3]
 refine c_cut [(0, .raw b 0)] (wS b ((R ++ fltL R.length ts) ++ [(⟨[], chs R.length ts⟩ : Sx)])) ⟨⟨rfl, trivial⟩, ⟨rfl, ?_, trivial⟩, rfl⟩ ?_
 · exact wS_vec (R ++ fltL R.length ts) ⟨[], chs R.length ts⟩
 have hl2 : ((R ++ fltL R.length ts) ++ [(⟨[], chs R.length ts⟩ : Sx)]).length = R.length + tszL ts + 1 := by rw [List.length_append, hRl]; rfl
 generalize (R ++ fltL R.length ts) ++ [(⟨[], chs R.length ts⟩ : Sx)] = R2 at *
 repeat (first | refine i_s rfl ?_ | refine sw ?_)
 refine i_ldr BX rfl rfl rfl ?_
 repeat (first | refine i_len rfl ?_ | refine i_s rfl ?_ | refine sw ?_ | refine jb rfl rfl ?_)
 refine e_ret ⟨rfl, _, rfl, rfl, rfl, ⟨?_, restr_stOf _ _⟩, rfl⟩
 show V.int .i64 _ = _
 congr 1
 simp only [tsz]
 omega
abbrev NA : Nat := 5760513
abbrev wSA (b : Nat) (R : List Sx) (k : Blk) : List (Nat × Blk) := [(705153, .box (.tag b [.sl (.own 715522) (R.map sxV)])), (715522, .vec R.length), (5760513, k)]
def c_listA : Cmd :=
 (.seq (.ops [qc 4 0]) (qT (.frz 1)
 (qS [qq 5 (.newVec 2624321)]
 (.seq (qS [qm 8 1, qn 9 8, qc 10 0]
 (.block 0 (.loop (qS [qu 11 .lss [] 10 9]
 (qT (.cond (.t 11) .skip (.exit 0))
 (qT (.block 1 (qS [qi 12 1 8 10, ql 13 1 12, qm 7 13]
 (.ops [qm 14 5, qm 15 7, qq 16 (.call (.s [705153, 715522]) (.t 15) []), qq 17 (.bsl 1 [.t 16]), qq 18 (.append 1 8 3 (.t 14) (.t 17)), qm 5 18])))
 (.ops [qv 19 .add [] 10 1, qm 10 19]))))))) (qT (.frz 5)
 (qS [qm 20 0, qm 21 0, qq 22 (.nilck (.t 21)), qf 23 0 22, ql 24 1 23, qm 25 5, qq 26 (.build [.str [], .sl .nil []] [(1 , 1 , .t 25)]), qq 27 (.bsl 2 [.t 26]), qq 28 (.append 2 40 120 (.t 24) (.t 27)), qq 29 (.nilck (.t 20)), qf 30 0 29, qs 1 30 28]
 (.seq (.ops [qm 31 0, qq 32 (.nilck (.t 31)), qf 33 0 32, ql 34 1 33, qn 35 34, qv 36 .sub [] 35 1, qm 4 36]) .ret)))))))
def r_listA : List RVar := [.tmp 4]
def n_listA : Nat := 37
theorem k_listA : chkFn PG 41 n_listA r_listA c_listA = true := by kernel_rfl
theorem ct_listA {G : Type} {H : HT G} (b : Nat) (es : List (Nat × List V)) (ts : List Tr) (hE : Els b es ts) (R : List Sx) (hR : R.length + tsz (.lst ts) ≤ 1000000) (hl : es.length ≤ 1000000) (g : G) : Cc PG H 41 [.raw b 0, .sl (.own NA) (es.map fnV)] [705153, 715522, 5760513] (stOf (wSA b R (.vec es.length))) g fun r σ' g' => (r = .int .i64 ((R.length + tsz (.lst ts) : Nat) - 1 : Int) ∧ ∃ k, σ' = stOf (wSA b (R ++ flt R.length (.lst ts)) k)) ∧ g' = g := by
 obtain ⟨hlen, hE⟩ := hE
 refine CT.step _ mixed k_listA (fun nm hnm => stOf_mem _ nm hnm) fun hM => ?_
 repeat (first | refine i_s rfl ?_ | refine sw ?_)
 refine c_frzv rfl rfl ?_
 repeat (first | refine i_len rfl ?_ | refine i_s rfl ?_ | refine sw ?_ | refine i_nv rfl ?_)
 refine c_for es.length (fun k => [(0, .raw b 0), (5, .sl (.own 2624321) ((chs R.length (ts.take k)).map i64V)), (8, .sl .p (es.map fnV)), (9, .int .i64 es.length), (10, .int .i64 k)])
  (fun k => (2624321, .vec (chs R.length (ts.take k)).length) :: wSA b (R ++ fltL R.length (ts.take k)) .dead) (fun _ => True) trivial ⟨⟨rfl, rfl, rfl, rfl, rfl, trivial⟩, ⟨rfl, ?_, ?_, rfl, trivial⟩, rfl⟩ fun k hk _ => ?_
 · show _ = Blk.box (.tag b [.sl _ ((R ++ fltL R.length []).map sxV)])
   rw [wS_nil]; rfl
 · show _ = Blk.vec (R ++ fltL R.length []).length
   rw [wS_nil]; rfl
 have hsz := tszL_take_le ts k
 have hRl : (R ++ fltL R.length (ts.take k)).length = R.length + tszL (ts.take k) := by rw [List.length_append, fltL_len]
 simp only [tsz] at hR
 have hcl : (chs R.length (ts.take k)).length = k := by rw [chs_len]; simp; omega
 by_cases hlt : k < es.length
 · obtain ⟨e, he⟩ := get_some hlt
   obtain ⟨t, ht⟩ := get_some (l := ts) (k := k) (by omega)
   have hEl := hE k e t he ht
   have hs1 := tszL_take ht
   have hs2 := tszL_take_le ts (k + 1)
   have hrun := hEl.run G H g (R ++ fltL R.length (ts.take k)) (by omega)
   have hcl2 := hEl.cl
   have e1 : R ++ fltL R.length (ts.take (k + 1)) = (R ++ fltL R.length (ts.take k)) ++ flt (R.length + tszL (ts.take k)) t := by
    rw [take_succ_get ht, fltL_append, List.append_assoc]; simp [fltL]
   have e2 : chs R.length (ts.take (k + 1)) = chs R.length (ts.take k) ++ [((R.length + tszL (ts.take k) + tsz t : Nat) : Int) - 1] := by
    rw [take_succ_get ht, chs_append]; simp [chs]
   rw [hRl] at hrun
   clear hEl hE
   repeat' (first | refine i_s rfl ?_ | refine sw ?_ | refine jd rfl rfl ?_ | refine c_cond rfl (fun h => ?_) (fun h => ?_))
   all_goals first
    | (exfalso; clear hrun hcl2; simp at *; done)
    | (exfalso; clear hrun hcl2; simp at *; omega)
    | skip
   refine i_cs rfl (hcl2 _) rfl rfl hrun ?_
   rintro _ _ _ ⟨⟨rfl, rfl⟩, rfl⟩
   repeat refine i_s rfl ?_
   refine i_appM (c := ((R.length + tszL (ts.take k) + tsz t : Nat) : Int) - 1) rfl rfl rfl rfl rfl (by omega) (by omega) ?_
   repeat (first | refine i_s rfl ?_ | refine sw ?_ | refine ja rfl rfl ?_)
   refine e_for hlt trivial ⟨⟨rfl, ?_, rfl, rfl, rfl, trivial⟩, ⟨?_, ?_, ?_, rfl, trivial⟩, rfl⟩
   · rw [e2]; rfl
   · rw [e2]; simp; rfl
   · rw [e1]; rfl
   · rw [e1]; rfl
 have hge : k = es.length := by omega
 subst hge
 have htk : ts.take es.length = ts := List.take_of_length_le (by omega)
 rw [htk] at hcl hRl ⊢
 repeat (first | refine i_s rfl ?_ | refine sw ?_)
 refine c_f (by exact congrArg V.bool (by simp)) ?_
 repeat refine sw ?_
 refine c_frzv rfl rfl ?_
 repeat (first | refine i_s rfl ?_ | refine sw ?_)
 refine i_ldr BX rfl rfl rfl ?_
 repeat refine i_s rfl ?_
 refine i_appM (c := (⟨[], chs R.length ts⟩ : Sx)) rfl rfl rfl rfl rfl (by omega) (by omega) ?_
 repeat refine i_s rfl ?_
 refine i_str BX rfl rfl rfl ?_
 refine i_nil ?_
 refine e_seq ?_
 have e3 : R ++ flt R.length (.lst ts) = (R ++ fltL R.length ts) ++ [(⟨[], chs R.length ts⟩ : Sx)] := by simp [flt]
 rw [e3]
 refine c_cut [(0, .raw b 0)] (wSA b ((R ++ fltL R.length ts) ++ [(⟨[], chs R.length ts⟩ : Sx)]) .dead) ⟨⟨rfl, trivial⟩, ⟨rfl, ?_, rfl, trivial⟩, rfl⟩ ?_
 · exact wS_vec (R ++ fltL R.length ts) ⟨[], chs R.length ts⟩
 have hl2 : ((R ++ fltL R.length ts) ++ [(⟨[], chs R.length ts⟩ : Sx)]).length = R.length + tszL ts + 1 := by rw [List.length_append, hRl]; rfl
 generalize (R ++ fltL R.length ts) ++ [(⟨[], chs R.length ts⟩ : Sx)] = R2 at *
 repeat (first | refine i_s rfl ?_ | refine sw ?_)
 refine i_ldr BX rfl rfl rfl ?_
 repeat (first | refine i_len rfl ?_ | refine i_s rfl ?_ | refine sw ?_ | refine jb rfl rfl ?_)
 refine e_ret ⟨rfl, _, rfl, rfl, rfl, ⟨?_, _, restr_stOf _ _⟩, rfl⟩
 show V.int .i64 _ = _
 congr 1
 simp only [tsz]
 omega
def c_domain_writer_section : Cmd :=
 (qS [qx 3 2432193 1 0, qx 4 2432257 1 1, qx 5 2432321 1 2, qq 6 (.mov (.c (.nilfn)))]
 (.seq (.ops [qq 7 (.mkfn 90 [.t 3, .t 4, .t 5]), qm 6 7]) .ret))
def r_domain_writer_section : List RVar := [.tmp 6]
def n_domain_writer_section : Nat := 8
theorem k_domain_writer_section : chkFn PG 38 n_domain_writer_section r_domain_writer_section c_domain_writer_section = true := by kernel_rfl
theorem f_writer_section (b : Nat) (name : List UInt8) (es : List (Nat × List V)) : Fc PG 38 [.raw b 0, .str name, .sl .p (es.map fnV)] (fnV (90, [.cptr .p (.raw b 0) 0, .cptr .p (.str name) 0, .cptr .p (.sl .p (es.map fnV)) 0])) := by
 refine Fn.step mixed k_domain_writer_section ?_
 repeat' (first | refine i_s rfl ?_ | refine sw ?_ | refine i_box rfl rfl ?_)
 exact e_ret ⟨rfl, _, rfl, rfl⟩
def c_domain_writer_section_1 : Cmd :=
 (qS [qc 3 0]
 (.seq (.opsT (.node 0 6 (.leaf [0, 1, 2, 3, 5, 4, 6, 7, 8]) (.leaf [1, 2, 3, 5, 4, 6, 0, 7, 8])) [ql 4 1 0, ql 5 1 0, ql 6 1 1, qk 7 42 [5, 6], qq 8 (.bslO 5760513 1 [.t 7]), ql 9 1 2, qq 10 (.append 1 8 78 (.t 8) (.t 9)), qq 11 (.call (.s [705153, 715522, 5760513]) (.c (.fn 41 [])) [.t 4, .t 10]), qm 3 11]) .ret))
def r_domain_writer_section_1 : List RVar := [.tmp 3]
def n_domain_writer_section_1 : Nat := 12
theorem k_domain_writer_section_1 : chkFn PG 90 n_domain_writer_section_1 r_domain_writer_section_1 c_domain_writer_section_1 = true := by kernel_rfl
theorem el_section (b : Nat) (name : List UInt8) (es : List (Nat × List V)) (ts : List Tr) (hE : Els b es ts) (hl : es.length ≤ 100000) : El b (90, [.cptr .p (.raw b 0) 0, .cptr .p (.str name) 0, .cptr .p (.sl .p (es.map fnV)) 0]) (secT name ts) := by
 refine ⟨rfl, fun ns => rfl, fun G H g R hR => ?_⟩
 have hN := f_writer_name b name
 have hE2 := Els.cons (el_name b name) hE
 refine CT.step _ mixed k_domain_writer_section_1 (fun nm hnm => stOf_mem _ nm hnm) fun hM => ?_
 repeat (first | refine i_s rfl ?_ | refine sw ?_)
 refine c_node ?_ ?_
 all_goals
  repeat (first | refine i_s rfl ?_ | refine sw ?_ | refine sf rfl rfl hN ?_)
  refine i_bslo rfl rfl rfl rfl ?_
  skip
  refine i_app rfl rfl rfl rfl rfl (fun row hrow => ?_) (by simp; omega) (by simp; omega) ?_
  · obtain ⟨c, _, rfl⟩ := List.mem_map.1 hrow
    exact ⟨rfl, rfl⟩
  repeat refine i_s rfl ?_
  refine i_cs rfl rfl rfl (by show [_, _, (NA, Blk.vec (1 + (es.map fnV).length))] = wSA b R (.vec (_ :: es).length); simp [Nat.add_comm]; exact ⟨rfl, rfl⟩) (ct_listA b ((92, [.cptr .p (.raw b 0) 0, .cptr .p (.str name) 0]) :: es) (.sym name :: ts) hE2 R hR (by simp only [List.length_cons]; omega) g) ?_
  rintro _ _ _ ⟨⟨rfl, k, rfl⟩, rfl⟩
  repeat (first | refine i_s rfl ?_ | refine sw ?_)
  exact e_ret ⟨rfl, _, rfl, rfl, rfl, ⟨rfl, restr_stOf _ _⟩, rfl⟩
structure Wr {α : Type} (b : Nat) (wf : Nat × List V) (f : α → V) (T : α → Tr) (ok : α → Prop) : Prop where
 pure : pureL wf.2 = true
 cl : ∀ ns, closedL ns wf.2 = true
 run : ∀ x, ok x → ∀ (G : Type) (H : HT G) (g : G) (R : List Sx), R.length + tsz (T x) ≤ 1000000 → Cc PG H wf.1 (f x :: wf.2) WNS (stOf (wS b R)) g fun r σ' g' => (r = .int .i64 ((R.length + tsz (T x) : Nat) - 1 : Int) ∧ σ' = stOf (wS b (R ++ flt R.length (T x)))) ∧ g' = g
def c_domain_each_int_1 : Cmd :=
 (qS [qc 2 0]
 (.seq (.ops [ql 3 1 0, ql 4 1 1, qq 5 (.call (.s [705153, 715522]) (.t 3) [.t 4]), qm 2 5]) .ret))
def r_domain_each_int_1 : List RVar := [.tmp 2]
def n_domain_each_int_1 : Nat := 6
theorem k_domain_each_int_1 : chkFn PG 140 n_domain_each_int_1 r_domain_each_int_1 c_domain_each_int_1 = true := by kernel_rfl
abbrev eE_int (wf : Nat × List V) (x : Int) : Nat × List V := (140, [.cptr .p (fnV wf) 0, .cptr .p (i64V x) 0])
theorem el_each_int {b : Nat} {wf : Nat × List V} {T : Int → Tr} {ok : (Int) → Prop} (hW : Wr b wf i64V T ok) (x : Int) (hx : ok x) : El b (eE_int wf x) (T x) := by
 refine ⟨rfl, fun ns => rfl, fun G H g R hR => ?_⟩
 have hrun := hW.run x hx G H g R hR
 have hcl := hW.cl
 obtain ⟨f1, f2⟩ := wf
 clear hW
 refine CT.step _ mixed k_domain_each_int_1 (fun nm hnm => stOf_mem _ nm hnm) fun hM => ?_
 repeat (first | refine i_s rfl ?_ | refine sw ?_)
 refine i_cs rfl (by show (closedB _ _ && closedL _ f2) = true; rw [hcl]; rfl) rfl rfl hrun ?_
 rintro _ _ _ ⟨⟨rfl, rfl⟩, rfl⟩
 repeat (first | refine i_s rfl ?_ | refine sw ?_)
 exact e_ret ⟨rfl, _, rfl, rfl, rfl, ⟨rfl, restr_stOf _ _⟩, rfl⟩
def c_domain_each_int : Cmd :=
 (.seq (.ops [qx 3 6144193 1 1, qq 4 (.mov (.c (.sl .nil [])))]) (qT (.frz 3)
 (qS [qq 5 (.newVec 6144321)]
 (qT (qS [qm 8 0, qn 9 8, qc 10 0]
 (.block 0 (.loop (qS [qu 11 .lss [] 10 9]
 (qT (.cond (.t 11) .skip (.exit 0))
 (qT (.block 1 (.seq (.ops [qi 12 1 8 10, ql 13 1 12, qq 7 (.alloc 6144449 (.int .i64 0)), qs 1 7 13]) (qT (.frz 7)
 (.ops [qm 14 5, qq 15 (.mkfn 140 [.t 3, .t 7]), qq 16 (.bsl 1 [.t 15]), qq 17 (.append 1 8 78 (.t 14) (.t 16)), qm 5 17]))))
 (.ops [qv 18 .add [] 10 1, qm 10 18])))))))
 (.seq (.ops [qm 19 5, qm 4 19]) .ret)))))
def r_domain_each_int : List RVar := [.tmp 4]
def n_domain_each_int : Nat := 20
theorem k_domain_each_int : chkFn PG 96 n_domain_each_int r_domain_each_int c_domain_each_int = true := by kernel_rfl
theorem f_each_int (wf : Nat × List V) (hp : pureL wf.2 = true) (l : List (Int)) (hl : l.length ≤ 1000000) : Fc PG 96 [.sl .p (l.map i64V), fnV wf] (.sl .p ((l.map (eE_int wf)).map fnV)) := by
 refine Fn.step mixed k_domain_each_int ?_
 repeat (first | refine i_s rfl ?_ | refine sw ?_ | refine i_box rfl rfl ?_)
 refine c_frzb rfl rfl hp ?_
 repeat (first | refine i_len rfl ?_ | refine i_s rfl ?_ | refine sw ?_ | refine i_nv rfl ?_)
 refine c_for l.length (fun k => [(3, .cptr .p (fnV wf) 0), (5, .sl (.own 6144321) (((l.take k).map (eE_int wf)).map fnV)), (8, .sl .p (l.map i64V)), (9, .int .i64 l.length), (10, .int .i64 k)]) (fun k => [(6144321, .vec ((l.take k).map (eE_int wf)).length)]) (fun _ => True) trivial ft fun k hk _ => ?_
 by_cases hlt : k < l.length
 · obtain ⟨x, hx⟩ := get_some hlt
   have hkl : ((l.take k).map (eE_int wf)).length = k := by simp; omega
   have e1 : (l.take (k + 1)).map (eE_int wf) = (l.take k).map (eE_int wf) ++ [eE_int wf x] := by rw [take_succ_get hx, List.map_append]; rfl
   repeat' (first | refine i_s rfl ?_ | refine sw ?_ | refine jd rfl rfl ?_ | refine i_stb rfl ?_ | refine i_alloc rfl ?_ | refine c_cond rfl (fun h => ?_) (fun h => ?_))
   all_goals first
    | (exfalso; simp at *; done)
    | (exfalso; simp at *; omega)
    | skip
   refine c_frzb rfl rfl rfl ?_
   repeat (first | refine i_s rfl ?_ | refine sw ?_)
   refine i_appM (c := eE_int wf x) rfl rfl rfl rfl rfl (by omega) (by omega) ?_
   repeat (first | refine i_s rfl ?_ | refine sw ?_ | refine ja rfl rfl ?_)
   refine e_for hlt trivial ⟨⟨rfl, ?_, rfl, rfl, rfl, trivial⟩, ⟨?_, trivial⟩, rfl⟩
   · rw [e1]; rfl
   · rw [e1]; simp; rfl
 have hge : k = l.length := by omega
 subst hge
 rw [List.take_length]
 repeat' (first | refine i_s rfl ?_ | refine sw ?_ | refine c_cond rfl (fun h => ?_) (fun h => ?_))
 all_goals first
  | exact e_ret ⟨rfl, _, rfl, rfl⟩
  | (exfalso; simp at *; done)
  | (exfalso; simp at *; omega)
theorem els_each_int {b : Nat} {wf : Nat × List V} {T : Int → Tr} {ok : (Int) → Prop} (hW : Wr b wf i64V T ok) {l : List (Int)} (h : ∀ x ∈ l, ok x) : Els b (l.map (eE_int wf)) (l.map T) := Els.map fun x hx => el_each_int hW x (h x hx)
def c_domain_each_2_int_1 : Cmd :=
 (qS [qc 2 0]
 (.seq (.ops [ql 3 1 0, qL 4 2 1, qq 5 (.call (.s [705153, 715522]) (.t 3) [.t 4]), qm 2 5]) .ret))
def r_domain_each_2_int_1 : List RVar := [.tmp 2]
def n_domain_each_2_int_1 : Nat := 6
theorem k_domain_each_2_int_1 : chkFn PG 141 n_domain_each_2_int_1 r_domain_each_2_int_1 c_domain_each_2_int_1 = true := by kernel_rfl
abbrev eE_2_int (wf : Nat × List V) (x : Int × Int) : Nat × List V := (141, [.cptr .p (fnV wf) 0, .cptr .p (pairV x) 0])
theorem el_each_2_int {b : Nat} {wf : Nat × List V} {T : Int × Int → Tr} {ok : (Int × Int) → Prop} (hW : Wr b wf pairV T ok) (x : Int × Int) (hx : ok x) : El b (eE_2_int wf x) (T x) := by
 refine ⟨rfl, fun ns => rfl, fun G H g R hR => ?_⟩
 have hrun := hW.run x hx G H g R hR
 have hcl := hW.cl
 obtain ⟨f1, f2⟩ := wf
 clear hW
 refine CT.step _ mixed k_domain_each_2_int_1 (fun nm hnm => stOf_mem _ nm hnm) fun hM => ?_
 repeat (first | refine i_s rfl ?_ | refine sw ?_)
 refine i_cs rfl (by show (closedB _ _ && closedL _ f2) = true; rw [hcl]; rfl) rfl rfl hrun ?_
 rintro _ _ _ ⟨⟨rfl, rfl⟩, rfl⟩
 repeat (first | refine i_s rfl ?_ | refine sw ?_)
 exact e_ret ⟨rfl, _, rfl, rfl, rfl, ⟨rfl, restr_stOf _ _⟩, rfl⟩
def c_domain_each_2_int : Cmd :=
 (.seq (.ops [qx 3 6272193 1 1, qq 4 (.mov (.c (.sl .nil [])))]) (qT (.frz 3)
 (qS [qq 5 (.newVec 6272321)]
 (qT (qS [qm 8 0, qn 9 8, qc 10 0]
 (.block 0 (.loop (qS [qu 11 .lss [] 10 9]
 (qT (.cond (.t 11) .skip (.exit 0))
 (qT (.block 1 (.seq (.ops [qi 12 2 8 10, qL 13 2 12, qq 7 (.alloc 6272450 (.agg [.int .i64 0, .int .i64 0])), qs 2 7 13]) (qT (.frz 7)
 (.ops [qm 14 5, qq 15 (.mkfn 141 [.t 3, .t 7]), qq 16 (.bsl 1 [.t 15]), qq 17 (.append 1 8 78 (.t 14) (.t 16)), qm 5 17]))))
 (.ops [qv 18 .add [] 10 1, qm 10 18])))))))
 (.seq (.ops [qm 19 5, qm 4 19]) .ret)))))
def r_domain_each_2_int : List RVar := [.tmp 4]
def n_domain_each_2_int : Nat := 20
theorem k_domain_each_2_int : chkFn PG 98 n_domain_each_2_int r_domain_each_2_int c_domain_each_2_int = true := by kernel_rfl
theorem f_each_2_int (wf : Nat × List V) (hp : pureL wf.2 = true) (l : List (Int × Int)) (hl : l.length ≤ 1000000) : Fc PG 98 [.sl .p (l.map pairV), fnV wf] (.sl .p ((l.map (eE_2_int wf)).map fnV)) := by
 refine Fn.step mixed k_domain_each_2_int ?_
 repeat (first | refine i_s rfl ?_ | refine sw ?_ | refine i_box rfl rfl ?_)
 refine c_frzb rfl rfl hp ?_
 repeat (first | refine i_len rfl ?_ | refine i_s rfl ?_ | refine sw ?_ | refine i_nv rfl ?_)
 refine c_for l.length (fun k => [(3, .cptr .p (fnV wf) 0), (5, .sl (.own 6272321) (((l.take k).map (eE_2_int wf)).map fnV)), (8, .sl .p (l.map pairV)), (9, .int .i64 l.length), (10, .int .i64 k)]) (fun k => [(6272321, .vec ((l.take k).map (eE_2_int wf)).length)]) (fun _ => True) trivial ft fun k hk _ => ?_
 by_cases hlt : k < l.length
 · obtain ⟨x, hx⟩ := get_some hlt
   have hkl : ((l.take k).map (eE_2_int wf)).length = k := by simp; omega
   have e1 : (l.take (k + 1)).map (eE_2_int wf) = (l.take k).map (eE_2_int wf) ++ [eE_2_int wf x] := by rw [take_succ_get hx, List.map_append]; rfl
   repeat' (first | refine i_s rfl ?_ | refine sw ?_ | refine jd rfl rfl ?_ | refine i_stb rfl ?_ | refine i_alloc rfl ?_ | refine c_cond rfl (fun h => ?_) (fun h => ?_))
   all_goals first
    | (exfalso; simp at *; done)
    | (exfalso; simp at *; omega)
    | skip
   refine c_frzb rfl rfl rfl ?_
   repeat (first | refine i_s rfl ?_ | refine sw ?_)
   refine i_appM (c := eE_2_int wf x) rfl rfl rfl rfl rfl (by omega) (by omega) ?_
   repeat (first | refine i_s rfl ?_ | refine sw ?_ | refine ja rfl rfl ?_)
   refine e_for hlt trivial ⟨⟨rfl, ?_, rfl, rfl, rfl, trivial⟩, ⟨?_, trivial⟩, rfl⟩
   · rw [e1]; rfl
   · rw [e1]; simp; rfl
 have hge : k = l.length := by omega
 subst hge
 rw [List.take_length]
 repeat' (first | refine i_s rfl ?_ | refine sw ?_ | refine c_cond rfl (fun h => ?_) (fun h => ?_))
 all_goals first
  | exact e_ret ⟨rfl, _, rfl, rfl⟩
  | (exfalso; simp at *; done)
  | (exfalso; simp at *; omega)
theorem els_each_2_int {b : Nat} {wf : Nat × List V} {T : Int × Int → Tr} {ok : (Int × Int) → Prop} (hW : Wr b wf pairV T ok) {l : List (Int × Int)} (h : ∀ x ∈ l, ok x) : Els b (l.map (eE_2_int wf)) (l.map T) := Els.map fun x hx => el_each_2_int hW x (h x hx)
def c_domain_each_Atom_1 : Cmd :=
 (qS [qc 2 0]
 (.seq (.ops [ql 3 1 0, qL 4 2 1, qq 5 (.call (.s [705153, 715522]) (.t 3) [.t 4]), qm 2 5]) .ret))
def r_domain_each_Atom_1 : List RVar := [.tmp 2]
def n_domain_each_Atom_1 : Nat := 6
theorem k_domain_each_Atom_1 : chkFn PG 143 n_domain_each_Atom_1 r_domain_each_Atom_1 c_domain_each_Atom_1 = true := by kernel_rfl
abbrev eE_Atom (wf : Nat × List V) (x : At) : Nat × List V := (143, [.cptr .p (fnV wf) 0, .cptr .p (atV x) 0])
theorem el_each_Atom {b : Nat} {wf : Nat × List V} {T : At → Tr} {ok : (At) → Prop} (hW : Wr b wf atV T ok) (x : At) (hx : ok x) : El b (eE_Atom wf x) (T x) := by
 refine ⟨rfl, fun ns => rfl, fun G H g R hR => ?_⟩
 have hrun := hW.run x hx G H g R hR
 have hcl := hW.cl
 obtain ⟨f1, f2⟩ := wf
 clear hW
 refine CT.step _ mixed k_domain_each_Atom_1 (fun nm hnm => stOf_mem _ nm hnm) fun hM => ?_
 repeat (first | refine i_s rfl ?_ | refine sw ?_)
 refine i_cs rfl (by show (closedB _ _ && closedL _ f2) = true; rw [hcl]; rfl) rfl rfl hrun ?_
 rintro _ _ _ ⟨⟨rfl, rfl⟩, rfl⟩
 repeat (first | refine i_s rfl ?_ | refine sw ?_)
 exact e_ret ⟨rfl, _, rfl, rfl, rfl, ⟨rfl, restr_stOf _ _⟩, rfl⟩
def c_domain_each_Atom : Cmd :=
 (.seq (.ops [qx 3 6528193 1 1, qq 4 (.mov (.c (.sl .nil [])))]) (qT (.frz 3)
 (qS [qq 5 (.newVec 6528321)]
 (qT (qS [qm 8 0, qn 9 8, qc 10 0]
 (.block 0 (.loop (qS [qu 11 .lss [] 10 9]
 (qT (.cond (.t 11) .skip (.exit 0))
 (qT (.block 1 (.seq (.ops [qi 12 2 8 10, qL 13 2 12, qq 7 (.alloc 6528450 (.agg [.int .i64 0, .sl .nil []])), qs 2 7 13]) (qT (.frz 7)
 (.ops [qm 14 5, qq 15 (.mkfn 143 [.t 3, .t 7]), qq 16 (.bsl 1 [.t 15]), qq 17 (.append 1 8 78 (.t 14) (.t 16)), qm 5 17]))))
 (.ops [qv 18 .add [] 10 1, qm 10 18])))))))
 (.seq (.ops [qm 19 5, qm 4 19]) .ret)))))
def r_domain_each_Atom : List RVar := [.tmp 4]
def n_domain_each_Atom : Nat := 20
theorem k_domain_each_Atom : chkFn PG 102 n_domain_each_Atom r_domain_each_Atom c_domain_each_Atom = true := by kernel_rfl
theorem f_each_Atom (wf : Nat × List V) (hp : pureL wf.2 = true) (l : List (At)) (hl : l.length ≤ 1000000) : Fc PG 102 [.sl .p (l.map atV), fnV wf] (.sl .p ((l.map (eE_Atom wf)).map fnV)) := by
 refine Fn.step mixed k_domain_each_Atom ?_
 repeat (first | refine i_s rfl ?_ | refine sw ?_ | refine i_box rfl rfl ?_)
 refine c_frzb rfl rfl hp ?_
 repeat (first | refine i_len rfl ?_ | refine i_s rfl ?_ | refine sw ?_ | refine i_nv rfl ?_)
 refine c_for l.length (fun k => [(3, .cptr .p (fnV wf) 0), (5, .sl (.own 6528321) (((l.take k).map (eE_Atom wf)).map fnV)), (8, .sl .p (l.map atV)), (9, .int .i64 l.length), (10, .int .i64 k)]) (fun k => [(6528321, .vec ((l.take k).map (eE_Atom wf)).length)]) (fun _ => True) trivial ft fun k hk _ => ?_
 by_cases hlt : k < l.length
 · obtain ⟨x, hx⟩ := get_some hlt
   have hkl : ((l.take k).map (eE_Atom wf)).length = k := by simp; omega
   have e1 : (l.take (k + 1)).map (eE_Atom wf) = (l.take k).map (eE_Atom wf) ++ [eE_Atom wf x] := by rw [take_succ_get hx, List.map_append]; rfl
   repeat' (first | refine i_s rfl ?_ | refine sw ?_ | refine jd rfl rfl ?_ | refine i_stb rfl ?_ | refine i_alloc rfl ?_ | refine c_cond rfl (fun h => ?_) (fun h => ?_))
   all_goals first
    | (exfalso; simp at *; done)
    | (exfalso; simp at *; omega)
    | skip
   refine c_frzb rfl rfl rfl ?_
   repeat (first | refine i_s rfl ?_ | refine sw ?_)
   refine i_appM (c := eE_Atom wf x) rfl rfl rfl rfl rfl (by omega) (by omega) ?_
   repeat (first | refine i_s rfl ?_ | refine sw ?_ | refine ja rfl rfl ?_)
   refine e_for hlt trivial ⟨⟨rfl, ?_, rfl, rfl, rfl, trivial⟩, ⟨?_, trivial⟩, rfl⟩
   · rw [e1]; rfl
   · rw [e1]; simp; rfl
 have hge : k = l.length := by omega
 subst hge
 rw [List.take_length]
 repeat' (first | refine i_s rfl ?_ | refine sw ?_ | refine c_cond rfl (fun h => ?_) (fun h => ?_))
 all_goals first
  | exact e_ret ⟨rfl, _, rfl, rfl⟩
  | (exfalso; simp at *; done)
  | (exfalso; simp at *; omega)
theorem els_each_Atom {b : Nat} {wf : Nat × List V} {T : At → Tr} {ok : (At) → Prop} (hW : Wr b wf atV T ok) {l : List (At)} (h : ∀ x ∈ l, ok x) : Els b (l.map (eE_Atom wf)) (l.map T) := Els.map fun x hx => el_each_Atom hW x (h x hx)
def c_domain_each_Literal_1 : Cmd :=
 (qS [qc 2 0]
 (.seq (.ops [ql 3 1 0, qL 4 3 1, qq 5 (.call (.s [705153, 715522]) (.t 3) [.t 4]), qm 2 5]) .ret))
def r_domain_each_Literal_1 : List RVar := [.tmp 2]
def n_domain_each_Literal_1 : Nat := 6
theorem k_domain_each_Literal_1 : chkFn PG 145 n_domain_each_Literal_1 r_domain_each_Literal_1 c_domain_each_Literal_1 = true := by kernel_rfl
abbrev eE_Literal (wf : Nat × List V) (x : Lit) : Nat × List V := (145, [.cptr .p (fnV wf) 0, .cptr .p (litV x) 0])
theorem el_each_Literal {b : Nat} {wf : Nat × List V} {T : Lit → Tr} {ok : (Lit) → Prop} (hW : Wr b wf litV T ok) (x : Lit) (hx : ok x) : El b (eE_Literal wf x) (T x) := by
 refine ⟨rfl, fun ns => rfl, fun G H g R hR => ?_⟩
 have hrun := hW.run x hx G H g R hR
 have hcl := hW.cl
 obtain ⟨f1, f2⟩ := wf
 clear hW
 refine CT.step _ mixed k_domain_each_Literal_1 (fun nm hnm => stOf_mem _ nm hnm) fun hM => ?_
 repeat (first | refine i_s rfl ?_ | refine sw ?_)
 refine i_cs rfl (by show (closedB _ _ && closedL _ f2) = true; rw [hcl]; rfl) rfl rfl hrun ?_
 rintro _ _ _ ⟨⟨rfl, rfl⟩, rfl⟩
 repeat (first | refine i_s rfl ?_ | refine sw ?_)
 exact e_ret ⟨rfl, _, rfl, rfl, rfl, ⟨rfl, restr_stOf _ _⟩, rfl⟩
def c_domain_each_Literal : Cmd :=
 (.seq (.ops [qx 3 6720193 1 1, qq 4 (.mov (.c (.sl .nil [])))]) (qT (.frz 3)
 (qS [qq 5 (.newVec 6720321)]
 (qT (qS [qm 8 0, qn 9 8, qc 10 0]
 (.block 0 (.loop (qS [qu 11 .lss [] 10 9]
 (qT (.cond (.t 11) .skip (.exit 0))
 (qT (.block 1 (.seq (.ops [qi 12 3 8 10, qL 13 3 12, qq 7 (.alloc 6720451 (.agg [.bool false, .int .i64 0, .sl .nil []])), qs 3 7 13]) (qT (.frz 7)
 (.ops [qm 14 5, qq 15 (.mkfn 145 [.t 3, .t 7]), qq 16 (.bsl 1 [.t 15]), qq 17 (.append 1 8 78 (.t 14) (.t 16)), qm 5 17]))))
 (.ops [qv 18 .add [] 10 1, qm 10 18])))))))
 (.seq (.ops [qm 19 5, qm 4 19]) .ret)))))
def r_domain_each_Literal : List RVar := [.tmp 4]
def n_domain_each_Literal : Nat := 20
theorem k_domain_each_Literal : chkFn PG 105 n_domain_each_Literal r_domain_each_Literal c_domain_each_Literal = true := by kernel_rfl
theorem f_each_Literal (wf : Nat × List V) (hp : pureL wf.2 = true) (l : List (Lit)) (hl : l.length ≤ 1000000) : Fc PG 105 [.sl .p (l.map litV), fnV wf] (.sl .p ((l.map (eE_Literal wf)).map fnV)) := by
 refine Fn.step mixed k_domain_each_Literal ?_
 repeat (first | refine i_s rfl ?_ | refine sw ?_ | refine i_box rfl rfl ?_)
 refine c_frzb rfl rfl hp ?_
 repeat (first | refine i_len rfl ?_ | refine i_s rfl ?_ | refine sw ?_ | refine i_nv rfl ?_)
 refine c_for l.length (fun k => [(3, .cptr .p (fnV wf) 0), (5, .sl (.own 6720321) (((l.take k).map (eE_Literal wf)).map fnV)), (8, .sl .p (l.map litV)), (9, .int .i64 l.length), (10, .int .i64 k)]) (fun k => [(6720321, .vec ((l.take k).map (eE_Literal wf)).length)]) (fun _ => True) trivial ft fun k hk _ => ?_
 by_cases hlt : k < l.length
 · obtain ⟨x, hx⟩ := get_some hlt
   have hkl : ((l.take k).map (eE_Literal wf)).length = k := by simp; omega
   have e1 : (l.take (k + 1)).map (eE_Literal wf) = (l.take k).map (eE_Literal wf) ++ [eE_Literal wf x] := by rw [take_succ_get hx, List.map_append]; rfl
   repeat' (first | refine i_s rfl ?_ | refine sw ?_ | refine jd rfl rfl ?_ | refine i_stb rfl ?_ | refine i_alloc rfl ?_ | refine c_cond rfl (fun h => ?_) (fun h => ?_))
   all_goals first
    | (exfalso; simp at *; done)
    | (exfalso; simp at *; omega)
    | skip
   refine c_frzb rfl rfl rfl ?_
   repeat (first | refine i_s rfl ?_ | refine sw ?_)
   refine i_appM (c := eE_Literal wf x) rfl rfl rfl rfl rfl (by omega) (by omega) ?_
   repeat (first | refine i_s rfl ?_ | refine sw ?_ | refine ja rfl rfl ?_)
   refine e_for hlt trivial ⟨⟨rfl, ?_, rfl, rfl, rfl, trivial⟩, ⟨?_, trivial⟩, rfl⟩
   · rw [e1]; rfl
   · rw [e1]; simp; rfl
 have hge : k = l.length := by omega
 subst hge
 rw [List.take_length]
 repeat' (first | refine i_s rfl ?_ | refine sw ?_ | refine c_cond rfl (fun h => ?_) (fun h => ?_))
 all_goals first
  | exact e_ret ⟨rfl, _, rfl, rfl⟩
  | (exfalso; simp at *; done)
  | (exfalso; simp at *; omega)
theorem els_each_Literal {b : Nat} {wf : Nat × List V} {T : Lit → Tr} {ok : (Lit) → Prop} (hW : Wr b wf litV T ok) {l : List (Lit)} (h : ∀ x ∈ l, ok x) : Els b (l.map (eE_Literal wf)) (l.map T) := Els.map fun x hx => el_each_Literal hW x (h x hx)
def c_domain_each_Type_1 : Cmd :=
 (qS [qc 2 0]
 (.seq (.ops [ql 3 1 0, qL 4 2 1, qq 5 (.call (.s [705153, 715522]) (.t 3) [.t 4]), qm 2 5]) .ret))
def r_domain_each_Type_1 : List RVar := [.tmp 2]
def n_domain_each_Type_1 : Nat := 6
theorem k_domain_each_Type_1 : chkFn PG 91 n_domain_each_Type_1 r_domain_each_Type_1 c_domain_each_Type_1 = true := by kernel_rfl
abbrev eE_Type (wf : Nat × List V) (x : Typ) : Nat × List V := (91, [.cptr .p (fnV wf) 0, .cptr .p (tyV x) 0])
theorem el_each_Type {b : Nat} {wf : Nat × List V} {T : Typ → Tr} {ok : (Typ) → Prop} (hW : Wr b wf tyV T ok) (x : Typ) (hx : ok x) : El b (eE_Type wf x) (T x) := by
 refine ⟨rfl, fun ns => rfl, fun G H g R hR => ?_⟩
 have hrun := hW.run x hx G H g R hR
 have hcl := hW.cl
 obtain ⟨f1, f2⟩ := wf
 clear hW
 refine CT.step _ mixed k_domain_each_Type_1 (fun nm hnm => stOf_mem _ nm hnm) fun hM => ?_
 repeat (first | refine i_s rfl ?_ | refine sw ?_)
 refine i_cs rfl (by show (closedB _ _ && closedL _ f2) = true; rw [hcl]; rfl) rfl rfl hrun ?_
 rintro _ _ _ ⟨⟨rfl, rfl⟩, rfl⟩
 repeat (first | refine i_s rfl ?_ | refine sw ?_)
 exact e_ret ⟨rfl, _, rfl, rfl, rfl, ⟨rfl, restr_stOf _ _⟩, rfl⟩
def c_domain_each_Type : Cmd :=
 (.seq (.ops [qx 3 2496193 1 1, qq 4 (.mov (.c (.sl .nil [])))]) (qT (.frz 3)
 (qS [qq 5 (.newVec 2496321)]
 (qT (qS [qm 8 0, qn 9 8, qc 10 0]
 (.block 0 (.loop (qS [qu 11 .lss [] 10 9]
 (qT (.cond (.t 11) .skip (.exit 0))
 (qT (.block 1 (.seq (.ops [qi 12 2 8 10, qL 13 2 12, qq 7 (.alloc 2496450 (.agg [.str [], .int .i64 0])), qs 2 7 13]) (qT (.frz 7)
 (.ops [qm 14 5, qq 15 (.mkfn 91 [.t 3, .t 7]), qq 16 (.bsl 1 [.t 15]), qq 17 (.append 1 8 78 (.t 14) (.t 16)), qm 5 17]))))
 (.ops [qv 18 .add [] 10 1, qm 10 18])))))))
 (.seq (.ops [qm 19 5, qm 4 19]) .ret)))))
def r_domain_each_Type : List RVar := [.tmp 4]
def n_domain_each_Type : Nat := 20
theorem k_domain_each_Type : chkFn PG 39 n_domain_each_Type r_domain_each_Type c_domain_each_Type = true := by kernel_rfl
theorem f_each_Type (wf : Nat × List V) (hp : pureL wf.2 = true) (l : List (Typ)) (hl : l.length ≤ 1000000) : Fc PG 39 [.sl .p (l.map tyV), fnV wf] (.sl .p ((l.map (eE_Type wf)).map fnV)) := by
 refine Fn.step mixed k_domain_each_Type ?_
 repeat (first | refine i_s rfl ?_ | refine sw ?_ | refine i_box rfl rfl ?_)
 refine c_frzb rfl rfl hp ?_
 repeat (first | refine i_len rfl ?_ | refine i_s rfl ?_ | refine sw ?_ | refine i_nv rfl ?_)
 refine c_for l.length (fun k => [(3, .cptr .p (fnV wf) 0), (5, .sl (.own 2496321) (((l.take k).map (eE_Type wf)).map fnV)), (8, .sl .p (l.map tyV)), (9, .int .i64 l.length), (10, .int .i64 k)]) (fun k => [(2496321, .vec ((l.take k).map (eE_Type wf)).length)]) (fun _ => True) trivial ft fun k hk _ => ?_
 by_cases hlt : k < l.length
 · obtain ⟨x, hx⟩ := get_some hlt
   have hkl : ((l.take k).map (eE_Type wf)).length = k := by simp; omega
   have e1 : (l.take (k + 1)).map (eE_Type wf) = (l.take k).map (eE_Type wf) ++ [eE_Type wf x] := by rw [take_succ_get hx, List.map_append]; rfl
   repeat' (first | refine i_s rfl ?_ | refine sw ?_ | refine jd rfl rfl ?_ | refine i_stb rfl ?_ | refine i_alloc rfl ?_ | refine c_cond rfl (fun h => ?_) (fun h => ?_))
   all_goals first
    | (exfalso; simp at *; done)
    | (exfalso; simp at *; omega)
    | skip
   refine c_frzb rfl rfl rfl ?_
   repeat (first | refine i_s rfl ?_ | refine sw ?_)
   refine i_appM (c := eE_Type wf x) rfl rfl rfl rfl rfl (by omega) (by omega) ?_
   repeat (first | refine i_s rfl ?_ | refine sw ?_ | refine ja rfl rfl ?_)
   refine e_for hlt trivial ⟨⟨rfl, ?_, rfl, rfl, rfl, trivial⟩, ⟨?_, trivial⟩, rfl⟩
   · rw [e1]; rfl
   · rw [e1]; simp; rfl
 have hge : k = l.length := by omega
 subst hge
 rw [List.take_length]
 repeat' (first | refine i_s rfl ?_ | refine sw ?_ | refine c_cond rfl (fun h => ?_) (fun h => ?_))
 all_goals first
  | exact e_ret ⟨rfl, _, rfl, rfl⟩
  | (exfalso; simp at *; done)
  | (exfalso; simp at *; omega)
theorem els_each_Type {b : Nat} {wf : Nat × List V} {T : Typ → Tr} {ok : (Typ) → Prop} (hW : Wr b wf tyV T ok) {l : List (Typ)} (h : ∀ x ∈ l, ok x) : Els b (l.map (eE_Type wf)) (l.map T) := Els.map fun x hx => el_each_Type hW x (h x hx)
def c_domain_each_Object_1 : Cmd :=
 (qS [qc 2 0]
 (.seq (.ops [ql 3 1 0, qL 4 2 1, qq 5 (.call (.s [705153, 715522]) (.t 3) [.t 4]), qm 2 5]) .ret))
def r_domain_each_Object_1 : List RVar := [.tmp 2]
def n_domain_each_Object_1 : Nat := 6
theorem k_domain_each_Object_1 : chkFn PG 94 n_domain_each_Object_1 r_domain_each_Object_1 c_domain_each_Object_1 = true := by kernel_rfl
abbrev eE_Object (wf : Nat × List V) (x : Obj) : Nat × List V := (94, [.cptr .p (fnV wf) 0, .cptr .p (obV x) 0])
theorem el_each_Object {b : Nat} {wf : Nat × List V} {T : Obj → Tr} {ok : (Obj) → Prop} (hW : Wr b wf obV T ok) (x : Obj) (hx : ok x) : El b (eE_Object wf x) (T x) := by
 refine ⟨rfl, fun ns => rfl, fun G H g R hR => ?_⟩
 have hrun := hW.run x hx G H g R hR
 have hcl := hW.cl
 obtain ⟨f1, f2⟩ := wf
 clear hW
 refine CT.step _ mixed k_domain_each_Object_1 (fun nm hnm => stOf_mem _ nm hnm) fun hM => ?_
 repeat (first | refine i_s rfl ?_ | refine sw ?_)
 refine i_cs rfl (by show (closedB _ _ && closedL _ f2) = true; rw [hcl]; rfl) rfl rfl hrun ?_
 rintro _ _ _ ⟨⟨rfl, rfl⟩, rfl⟩
 repeat (first | refine i_s rfl ?_ | refine sw ?_)
 exact e_ret ⟨rfl, _, rfl, rfl, rfl, ⟨rfl, restr_stOf _ _⟩, rfl⟩
def c_domain_each_Object : Cmd :=
 (.seq (.ops [qx 3 2816193 1 1, qq 4 (.mov (.c (.sl .nil [])))]) (qT (.frz 3)
 (qS [qq 5 (.newVec 2816321)]
 (qT (qS [qm 8 0, qn 9 8, qc 10 0]
 (.block 0 (.loop (qS [qu 11 .lss [] 10 9]
 (qT (.cond (.t 11) .skip (.exit 0))
 (qT (.block 1 (.seq (.ops [qi 12 2 8 10, qL 13 2 12, qq 7 (.alloc 2816450 (.agg [.str [], .int .i64 0])), qs 2 7 13]) (qT (.frz 7)
 (.ops [qm 14 5, qq 15 (.mkfn 94 [.t 3, .t 7]), qq 16 (.bsl 1 [.t 15]), qq 17 (.append 1 8 78 (.t 14) (.t 16)), qm 5 17]))))
 (.ops [qv 18 .add [] 10 1, qm 10 18])))))))
 (.seq (.ops [qm 19 5, qm 4 19]) .ret)))))
def r_domain_each_Object : List RVar := [.tmp 4]
def n_domain_each_Object : Nat := 20
theorem k_domain_each_Object : chkFn PG 44 n_domain_each_Object r_domain_each_Object c_domain_each_Object = true := by kernel_rfl
theorem f_each_Object (wf : Nat × List V) (hp : pureL wf.2 = true) (l : List (Obj)) (hl : l.length ≤ 1000000) : Fc PG 44 [.sl .p (l.map obV), fnV wf] (.sl .p ((l.map (eE_Object wf)).map fnV)) := by
 refine Fn.step mixed k_domain_each_Object ?_
 repeat (first | refine i_s rfl ?_ | refine sw ?_ | refine i_box rfl rfl ?_)
 refine c_frzb rfl rfl hp ?_
 repeat (first | refine i_len rfl ?_ | refine i_s rfl ?_ | refine sw ?_ | refine i_nv rfl ?_)
 refine c_for l.length (fun k => [(3, .cptr .p (fnV wf) 0), (5, .sl (.own 2816321) (((l.take k).map (eE_Object wf)).map fnV)), (8, .sl .p (l.map obV)), (9, .int .i64 l.length), (10, .int .i64 k)]) (fun k => [(2816321, .vec ((l.take k).map (eE_Object wf)).length)]) (fun _ => True) trivial ft fun k hk _ => ?_
 by_cases hlt : k < l.length
 · obtain ⟨x, hx⟩ := get_some hlt
   have hkl : ((l.take k).map (eE_Object wf)).length = k := by simp; omega
   have e1 : (l.take (k + 1)).map (eE_Object wf) = (l.take k).map (eE_Object wf) ++ [eE_Object wf x] := by rw [take_succ_get hx, List.map_append]; rfl
   repeat' (first | refine i_s rfl ?_ | refine sw ?_ | refine jd rfl rfl ?_ | refine i_stb rfl ?_ | refine i_alloc rfl ?_ | refine c_cond rfl (fun h => ?_) (fun h => ?_))
   all_goals first
    | (exfalso; simp at *; done)
    | (exfalso; simp at *; omega)
    | skip
   refine c_frzb rfl rfl rfl ?_
   repeat (first | refine i_s rfl ?_ | refine sw ?_)
   refine i_appM (c := eE_Object wf x) rfl rfl rfl rfl rfl (by omega) (by omega) ?_
   repeat (first | refine i_s rfl ?_ | refine sw ?_ | refine ja rfl rfl ?_)
   refine e_for hlt trivial ⟨⟨rfl, ?_, rfl, rfl, rfl, trivial⟩, ⟨?_, trivial⟩, rfl⟩
   · rw [e1]; rfl
   · rw [e1]; simp; rfl
 have hge : k = l.length := by omega
 subst hge
 rw [List.take_length]
 repeat' (first | refine i_s rfl ?_ | refine sw ?_ | refine c_cond rfl (fun h => ?_) (fun h => ?_))
 all_goals first
  | exact e_ret ⟨rfl, _, rfl, rfl⟩
  | (exfalso; simp at *; done)
  | (exfalso; simp at *; omega)
theorem els_each_Object {b : Nat} {wf : Nat × List V} {T : Obj → Tr} {ok : (Obj) → Prop} (hW : Wr b wf obV T ok) {l : List (Obj)} (h : ∀ x ∈ l, ok x) : Els b (l.map (eE_Object wf)) (l.map T) := Els.map fun x hx => el_each_Object hW x (h x hx)
def c_domain_each_Predicate_1 : Cmd :=
 (qS [qc 2 0]
 (.seq (.ops [ql 3 1 0, qL 4 2 1, qq 5 (.call (.s [705153, 715522]) (.t 3) [.t 4]), qm 2 5]) .ret))
def r_domain_each_Predicate_1 : List RVar := [.tmp 2]
def n_domain_each_Predicate_1 : Nat := 6
theorem k_domain_each_Predicate_1 : chkFn PG 95 n_domain_each_Predicate_1 r_domain_each_Predicate_1 c_domain_each_Predicate_1 = true := by kernel_rfl
abbrev eE_Predicate (wf : Nat × List V) (x : Prd) : Nat × List V := (95, [.cptr .p (fnV wf) 0, .cptr .p (prdV x) 0])
theorem el_each_Predicate {b : Nat} {wf : Nat × List V} {T : Prd → Tr} {ok : (Prd) → Prop} (hW : Wr b wf prdV T ok) (x : Prd) (hx : ok x) : El b (eE_Predicate wf x) (T x) := by
 refine ⟨rfl, fun ns => rfl, fun G H g R hR => ?_⟩
 have hrun := hW.run x hx G H g R hR
 have hcl := hW.cl
 obtain ⟨f1, f2⟩ := wf
 clear hW
 refine CT.step _ mixed k_domain_each_Predicate_1 (fun nm hnm => stOf_mem _ nm hnm) fun hM => ?_
 repeat (first | refine i_s rfl ?_ | refine sw ?_)
 refine i_cs rfl (by show (closedB _ _ && closedL _ f2) = true; rw [hcl]; rfl) rfl rfl hrun ?_
 rintro _ _ _ ⟨⟨rfl, rfl⟩, rfl⟩
 repeat (first | refine i_s rfl ?_ | refine sw ?_)
 exact e_ret ⟨rfl, _, rfl, rfl, rfl, ⟨rfl, restr_stOf _ _⟩, rfl⟩
def c_domain_each_Predicate : Cmd :=
 (.seq (.ops [qx 3 2944193 1 1, qq 4 (.mov (.c (.sl .nil [])))]) (qT (.frz 3)
 (qS [qq 5 (.newVec 2944321)]
 (qT (qS [qm 8 0, qn 9 8, qc 10 0]
 (.block 0 (.loop (qS [qu 11 .lss [] 10 9]
 (qT (.cond (.t 11) .skip (.exit 0))
 (qT (.block 1 (.seq (.ops [qi 12 2 8 10, qL 13 2 12, qq 7 (.alloc 2944450 (.agg [.str [], .sl .nil []])), qs 2 7 13]) (qT (.frz 7)
 (.ops [qm 14 5, qq 15 (.mkfn 95 [.t 3, .t 7]), qq 16 (.bsl 1 [.t 15]), qq 17 (.append 1 8 78 (.t 14) (.t 16)), qm 5 17]))))
 (.ops [qv 18 .add [] 10 1, qm 10 18])))))))
 (.seq (.ops [qm 19 5, qm 4 19]) .ret)))))
def r_domain_each_Predicate : List RVar := [.tmp 4]
def n_domain_each_Predicate : Nat := 20
theorem k_domain_each_Predicate : chkFn PG 46 n_domain_each_Predicate r_domain_each_Predicate c_domain_each_Predicate = true := by kernel_rfl
theorem f_each_Predicate (wf : Nat × List V) (hp : pureL wf.2 = true) (l : List (Prd)) (hl : l.length ≤ 1000000) : Fc PG 46 [.sl .p (l.map prdV), fnV wf] (.sl .p ((l.map (eE_Predicate wf)).map fnV)) := by
 refine Fn.step mixed k_domain_each_Predicate ?_
 repeat (first | refine i_s rfl ?_ | refine sw ?_ | refine i_box rfl rfl ?_)
 refine c_frzb rfl rfl hp ?_
 repeat (first | refine i_len rfl ?_ | refine i_s rfl ?_ | refine sw ?_ | refine i_nv rfl ?_)
 refine c_for l.length (fun k => [(3, .cptr .p (fnV wf) 0), (5, .sl (.own 2944321) (((l.take k).map (eE_Predicate wf)).map fnV)), (8, .sl .p (l.map prdV)), (9, .int .i64 l.length), (10, .int .i64 k)]) (fun k => [(2944321, .vec ((l.take k).map (eE_Predicate wf)).length)]) (fun _ => True) trivial ft fun k hk _ => ?_
 by_cases hlt : k < l.length
 · obtain ⟨x, hx⟩ := get_some hlt
   have hkl : ((l.take k).map (eE_Predicate wf)).length = k := by simp; omega
   have e1 : (l.take (k + 1)).map (eE_Predicate wf) = (l.take k).map (eE_Predicate wf) ++ [eE_Predicate wf x] := by rw [take_succ_get hx, List.map_append]; rfl
   repeat' (first | refine i_s rfl ?_ | refine sw ?_ | refine jd rfl rfl ?_ | refine i_stb rfl ?_ | refine i_alloc rfl ?_ | refine c_cond rfl (fun h => ?_) (fun h => ?_))
   all_goals first
    | (exfalso; simp at *; done)
    | (exfalso; simp at *; omega)
    | skip
   refine c_frzb rfl rfl rfl ?_
   repeat (first | refine i_s rfl ?_ | refine sw ?_)
   refine i_appM (c := eE_Predicate wf x) rfl rfl rfl rfl rfl (by omega) (by omega) ?_
   repeat (first | refine i_s rfl ?_ | refine sw ?_ | refine ja rfl rfl ?_)
   refine e_for hlt trivial ⟨⟨rfl, ?_, rfl, rfl, rfl, trivial⟩, ⟨?_, trivial⟩, rfl⟩
   · rw [e1]; rfl
   · rw [e1]; simp; rfl
 have hge : k = l.length := by omega
 subst hge
 rw [List.take_length]
 repeat' (first | refine i_s rfl ?_ | refine sw ?_ | refine c_cond rfl (fun h => ?_) (fun h => ?_))
 all_goals first
  | exact e_ret ⟨rfl, _, rfl, rfl⟩
  | (exfalso; simp at *; done)
  | (exfalso; simp at *; omega)
theorem els_each_Predicate {b : Nat} {wf : Nat × List V} {T : Prd → Tr} {ok : (Prd) → Prop} (hW : Wr b wf prdV T ok) {l : List (Prd)} (h : ∀ x ∈ l, ok x) : Els b (l.map (eE_Predicate wf)) (l.map T) := Els.map fun x hx => el_each_Predicate hW x (h x hx)
def ItoaOk : Prop := ∀ n : Nat, n ≤ 100 → Fc PG 100 [.int .i64 n] (.str (dig n))
theorem itoa_at (hI : ItoaOk) {x : Int} (h0 : 0 ≤ x) (h1 : x ≤ 100) : Fc PG 100 [.int .i64 x] (.str (dig x.toNat)) := by
 have := hI x.toNat (by omega)
 rw [show ((x.toNat : Nat) : Int) = x from by omega] at this
 exact this
def c_domain_typeName : Cmd :=
 (qS [qx 2 2752134 6 0, qq 4 (.mov (.c (.str [])))]
 (qT (qS [qm 5 1, qv 6 .lss [] 5 0]
 (.cond (.t 6) (.seq (.ops [qq 4 (.mov (.c (.str [111, 98, 106, 101, 99, 116])))]) .ret) .skip))
 (.seq (.ops [qf 7 0 2, ql 8 1 7, qm 9 1, qi 10 2 8 9, qf 11 0 10, ql 12 1 11, qm 4 12]) .ret)))
def r_domain_typeName : List RVar := [.tmp 4]
def n_domain_typeName : Nat := 13
theorem k_domain_typeName : chkFn PG 43 n_domain_typeName r_domain_typeName c_domain_typeName = true := by kernel_rfl
theorem f_typeName (d : Dom) (t : Int) (h1 : t < d.types.length) : Fc PG 43 [domV d, .int .i64 t] (.str (typeNm d t)) := by
 by_cases h0 : t < 0
 · have e : typeNm d t = objectS := by unfold typeNm; rw [if_pos h0]
   rw [e]
   refine Fn.step mixed k_domain_typeName ?_
   repeat' (first | refine i_s rfl ?_ | refine sw ?_ | refine i_box rfl rfl ?_ | refine c_cond rfl (fun h => ?_) (fun h => ?_))
   all_goals first
    | exact e_ret ⟨rfl, _, rfl, rfl⟩
    | (exfalso; simp at *; done)
    | (exfalso; simp at *; omega)
 · obtain ⟨x, hx⟩ := get_some (l := d.types) (k := t.toNat) (by omega)
   have e : typeNm d t = x.name := by unfold typeNm; rw [if_neg h0, hx]
   rw [e]
   refine Fn.step mixed k_domain_typeName ?_
   repeat' (first | refine i_s rfl ?_ | refine sw ?_ | refine jd rfl rfl ?_ | refine i_box rfl rfl ?_ | refine c_cond rfl (fun h => ?_) (fun h => ?_))
   all_goals first
    | exact e_ret ⟨rfl, _, rfl, rfl⟩
    | (exfalso; simp at *; done)
    | (exfalso; simp at *; omega)
abbrev rdC (b : Nat) (d : Dom) : List V := [.cptr .p (.raw b 0) 0, .cptr .p (domV d) 0]
def c_domain_writer_typeNames_1 : Cmd :=
 (qS [qc 4 0]
 (.seq (.ops [ql 5 1 1, qL 6 6 2, qm 7 0, qk 8 43 [6, 7], qq 9 (.call (.s [705153, 715522]) (.c (.fn 93 [])) [.t 5, .t 8]), qm 4 9]) .ret))
def r_domain_writer_typeNames_1 : List RVar := [.tmp 4]
def n_domain_writer_typeNames_1 : Nat := 10
theorem k_domain_writer_typeNames_1 : chkFn PG 97 n_domain_writer_typeNames_1 r_domain_writer_typeNames_1 c_domain_writer_typeNames_1 = true := by kernel_rfl
abbrev wfNm (b : Nat) (d : Dom) : Nat × List V := (97, rdC b d)
theorem wr_nm (b : Nat) (d : Dom) : Wr b (wfNm b d) i64V (nmT d) (fun t => t < d.types.length) := by
 refine ⟨rfl, fun ns => rfl, fun t ht G H g R hR => ?_⟩
 have hT := f_typeName d t ht
 have hR2 : R.length ≤ 1000000 := by omega
 refine CT.step _ mixed k_domain_writer_typeNames_1 (fun nm hnm => stOf_mem _ nm hnm) fun hM => ?_
 repeat (first | refine i_s rfl ?_ | refine sw ?_ | refine sf rfl rfl hT ?_)
 refine i_cs rfl rfl rfl rfl (ct_symbol b (typeNm d t) R hR2 g) ?_
 rintro _ _ _ ⟨⟨rfl, rfl⟩, rfl⟩
 repeat (first | refine i_s rfl ?_ | refine sw ?_)
 refine e_ret ⟨rfl, _, rfl, rfl, rfl, ⟨?_, restr_stOf _ _⟩, rfl⟩
 show V.int .i64 _ = _
 simp [nmT, tsz]
def c_domain_writer_typeNames : Cmd :=
 (.seq (.ops [qx 3 3072193 1 0, qx 4 3072262 6 1, qq 6 (.mov (.c (.sl .nil [])))]) (.seq (.frz 4) (qT (.frz 3)
 (.seq (.ops [qm 7 2, qq 8 (.mkfn 97 [.t 3, .t 4]), qk 9 96 [7, 8], qm 6 9]) .ret))))
def r_domain_writer_typeNames : List RVar := [.tmp 6]
def n_domain_writer_typeNames : Nat := 10
theorem k_domain_writer_typeNames : chkFn PG 48 n_domain_writer_typeNames r_domain_writer_typeNames c_domain_writer_typeNames = true := by kernel_rfl
theorem f_typeNamesW (b : Nat) (d : Dom) (l : List Int) (hl : l.length ≤ 1000000) : Fc PG 48 [.raw b 0, domV d, .sl .p (l.map i64V)] (.sl .p ((l.map (eE_int (wfNm b d))).map fnV)) := by
 have hE := f_each_int (wfNm b d) rfl l hl
 refine Fn.step mixed k_domain_writer_typeNames ?_
 repeat (first | refine i_s rfl ?_ | refine sw ?_ | refine i_box rfl rfl ?_)
 refine c_frzb rfl rfl rfl ?_
 repeat refine sw ?_
 refine c_frzb rfl rfl rfl ?_
 repeat (first | refine i_s rfl ?_ | refine sw ?_ | refine sf rfl rfl hE ?_)
 exact e_ret ⟨rfl, _, rfl, rfl⟩
def c_domain_writer_atom_1 : Cmd :=
 (qS [qc 4 0]
 (qT (qS [qm 5 0, qv 6 .lss [] 5 0]
 (.cond (.t 6) (.seq (.ops [ql 7 1 1, qm 8 0, qq 9 (.bin .sub false [] (.c (.int .i64 (-1))) (.t 8)), qk 10 100 [9], qq 11 (.bin .add false [] (.c (.str [63])) (.t 10)), qq 12 (.call (.s [705153, 715522]) (.c (.fn 93 [])) [.t 7, .t 11]), qm 4 12]) .ret) .skip))
 (.seq (.ops [ql 13 1 1, qf 14 1 2, ql 15 1 14, qm 16 0, qi 17 2 15 16, qf 18 0 17, ql 19 1 18, qq 20 (.call (.s [705153, 715522]) (.c (.fn 93 [])) [.t 13, .t 19]), qm 4 20]) .ret)))
def r_domain_writer_atom_1 : List RVar := [.tmp 4]
def n_domain_writer_atom_1 : Nat := 21
theorem k_domain_writer_atom_1 : chkFn PG 144 n_domain_writer_atom_1 r_domain_writer_atom_1 c_domain_writer_atom_1 = true := by kernel_rfl
abbrev wfArg (b : Nat) (d : Dom) : Nat × List V := (144, rdC b d)
theorem wr_arg (hI : ItoaOk) (b : Nat) (d : Dom) : Wr b (wfArg b d) i64V (argT d) (fun x => -100 ≤ x ∧ x < d.objects.length) := by
 refine ⟨rfl, fun ns => rfl, fun x hx G H g R hR => ?_⟩
 obtain ⟨x0, x1⟩ := hx
 have hR2 : R.length ≤ 1000000 := by omega
 by_cases h : x < 0
 · have hT := itoa_at hI (x := -1 - x) (by omega) (by omega)
   have e : argT d x = .sym ([63] ++ dig (-1 - x).toNat) := by unfold argT argS; rw [if_pos h]; rfl
   rw [e]
   refine CT.step _ mixed k_domain_writer_atom_1 (fun nm hnm => stOf_mem _ nm hnm) fun hM => ?_
   repeat' (first | refine i_s rfl ?_ | refine sw ?_ | refine jb rfl rfl ?_ | refine c_cond rfl (fun h => ?_) (fun h => ?_) | refine sf rfl rfl hT ?_ | fail)
   all_goals first
    | (exfalso; clear hT; simp at *; done)
    | (exfalso; clear hT; simp at *; omega)
    | skip
   have hdl : (dig (-1 - x).toNat).length ≤ 3 := digF_len _ _ 3 (by omega) (by omega)
   refine i_cat rfl rfl (by simp only [List.length_cons, List.length_nil]; omega) ?_
   skip
   refine i_cs rfl rfl rfl rfl (ct_symbol b ([63] ++ dig (-1 - x).toNat) R hR2 g) ?_
   rintro _ _ _ ⟨⟨rfl, rfl⟩, rfl⟩
   repeat (first | refine i_s rfl ?_ | refine sw ?_)
   refine e_ret ⟨rfl, _, rfl, rfl, rfl, ⟨?_, restr_stOf _ _⟩, rfl⟩
   show V.int .i64 _ = _
   simp [tsz]
 · obtain ⟨o, ho⟩ := get_some (l := d.objects) (k := x.toNat) (by omega)
   have e : argT d x = .sym o.name := by unfold argT argS objNm; rw [if_neg h, ho]
   rw [e]
   refine CT.step _ mixed k_domain_writer_atom_1 (fun nm hnm => stOf_mem _ nm hnm) fun hM => ?_
   repeat' (first | refine i_s rfl ?_ | refine sw ?_ | refine jd rfl rfl ?_ | refine c_cond rfl (fun h => ?_) (fun h => ?_))
   all_goals first
    | (exfalso; simp at *; done)
    | (exfalso; simp at *; omega)
    | skip
   refine i_cs rfl rfl rfl rfl (ct_symbol b o.name R hR2 g) ?_
   rintro _ _ _ ⟨⟨rfl, rfl⟩, rfl⟩
   repeat (first | refine i_s rfl ?_ | refine sw ?_)
   refine e_ret ⟨rfl, _, rfl, rfl, rfl, ⟨?_, restr_stOf _ _⟩, rfl⟩
   show V.int .i64 _ = _
   simp [tsz]
structure AtW (d : Dom) (a : At) : Prop where
 p0 : 0 ≤ a.pred
 p1 : a.pred < d.preds.length
 l : a.args.length ≤ 1000
 r : ∀ x ∈ a.args, -100 ≤ x ∧ x < d.objects.length
def c_domain_writer_atom : Cmd :=
 (.seq (.ops [qx 3 6656193 1 0, qx 4 6656262 6 1, qx 5 6656322 2 2, qc 6 0]) (.seq (.frz 4) (qT (.frz 3)
 (qS [qf 8 1 5, ql 9 1 8, qq 10 (.mkfn 144 [.t 3, .t 4]), qk 11 96 [9, 10], qm 7 11]
 (.seq (.ops [ql 12 1 3, qf 13 2 4, ql 14 1 13, qf 15 0 5, ql 16 1 15, qi 17 2 14 16, qf 18 0 17, ql 19 1 18, qm 20 7, qk 21 38 [12, 19, 20], qq 22 (.call (.s [705153, 715522]) (.t 21) []), qm 6 22]) .ret)))))
def r_domain_writer_atom : List RVar := [.tmp 6]
def n_domain_writer_atom : Nat := 23
theorem k_domain_writer_atom : chkFn PG 104 n_domain_writer_atom r_domain_writer_atom c_domain_writer_atom = true := by kernel_rfl
theorem ct_atom {G : Type} {H : HT G} (hI : ItoaOk) (b : Nat) (d : Dom) (a : At) (ha : AtW d a) (R : List Sx) (hR : R.length + tsz (atT d a) ≤ 1000000) (g : G) : Cc PG H 104 [.raw b 0, domV d, atV a] WNS (stOf (wS b R)) g fun r σ' g' => (r = .int .i64 ((R.length + tsz (atT d a) : Nat) - 1 : Int) ∧ σ' = stOf (wS b (R ++ flt R.length (atT d a)))) ∧ g' = g := by
 have p0 := ha.p0
 have p1 := ha.p1
 have hl := ha.l
 obtain ⟨p, hp⟩ := get_some (l := d.preds) (k := a.pred.toNat) (by omega)
 have hE := f_each_int (wfArg b d) rfl a.args (by omega)
 have hS := f_writer_section b p.name (a.args.map (eE_int (wfArg b d)))
 have e : atT d a = secT p.name (a.args.map (argT d)) := by unfold atT prdNm; rw [hp]
 rw [e] at hR ⊢
 have hrun := (el_section b p.name _ _ (els_each_int (wr_arg hI b d) ha.r) (by simp; omega)).run G H g R hR
 refine CT.step _ mixed k_domain_writer_atom (fun nm hnm => stOf_mem _ nm hnm) fun hM => ?_
 repeat (first | refine i_s rfl ?_ | refine sw ?_ | refine i_box rfl rfl ?_)
 refine c_frzb rfl rfl rfl ?_
 repeat refine sw ?_
 refine c_frzb rfl rfl rfl ?_
 repeat (first | refine i_s rfl ?_ | refine sw ?_ | refine jd rfl rfl ?_ | refine sf rfl rfl hE ?_ | refine sf rfl rfl hS ?_)
 refine i_cs rfl rfl rfl rfl hrun ?_
 rintro _ _ _ ⟨⟨rfl, rfl⟩, rfl⟩
 repeat (first | refine i_s rfl ?_ | refine sw ?_)
 exact e_ret ⟨rfl, _, rfl, rfl, rfl, ⟨rfl, restr_stOf _ _⟩, rfl⟩
def c_domain_writer_atoms_1 : Cmd :=
 (qS [qx 3 6592194 2 0, qc 4 0]
 (.seq (.ops [ql 5 1 1, qL 6 6 2, qL 7 2 3, qq 8 (.call (.s [705153, 715522]) (.c (.fn 104 [])) [.t 5, .t 6, .t 7]), qm 4 8]) .ret))
def r_domain_writer_atoms_1 : List RVar := [.tmp 4]
def n_domain_writer_atoms_1 : Nat := 9
theorem k_domain_writer_atoms_1 : chkFn PG 103 n_domain_writer_atoms_1 r_domain_writer_atoms_1 c_domain_writer_atoms_1 = true := by kernel_rfl
abbrev wfAt (b : Nat) (d : Dom) : Nat × List V := (103, rdC b d)
theorem wr_at (hI : ItoaOk) (b : Nat) (d : Dom) : Wr b (wfAt b d) atV (atT d) (AtW d) := by
 refine ⟨rfl, fun ns => rfl, fun a ha G H g R hR => ?_⟩
 have hrun := ct_atom (G := G) (H := H) hI b d a ha R hR g
 refine CT.step _ mixed k_domain_writer_atoms_1 (fun nm hnm => stOf_mem _ nm hnm) fun hM => ?_
 repeat (first | refine i_s rfl ?_ | refine sw ?_ | refine i_box rfl rfl ?_)
 refine i_cs rfl rfl rfl rfl hrun ?_
 rintro _ _ _ ⟨⟨rfl, rfl⟩, rfl⟩
 repeat (first | refine i_s rfl ?_ | refine sw ?_)
 exact e_ret ⟨rfl, _, rfl, rfl, rfl, ⟨rfl, restr_stOf _ _⟩, rfl⟩
abbrev secE (b : Nat) (name : List UInt8) (es : List (Nat × List V)) : Nat × List V := (90, [.cptr .p (.raw b 0) 0, .cptr .p (.str name) 0, .cptr .p (.sl .p (es.map fnV)) 0])
def c_domain_writer_atoms : Cmd :=
 (.seq (.ops [qx 4 3200257 1 0, qx 5 3200326 6 1, qq 8 (.mov (.c (.nilfn)))]) (.seq (.frz 5) (qT (.frz 4)
 (.seq (.ops [ql 9 1 4, qm 10 2, qm 11 3, qq 12 (.mkfn 103 [.t 4, .t 5]), qk 13 102 [11, 12], qk 14 38 [9, 10, 13], qm 8 14]) .ret))))
def r_domain_writer_atoms : List RVar := [.tmp 8]
def n_domain_writer_atoms : Nat := 15
theorem k_domain_writer_atoms : chkFn PG 50 n_domain_writer_atoms r_domain_writer_atoms c_domain_writer_atoms = true := by kernel_rfl
theorem f_atomsW (b : Nat) (d : Dom) (name : List UInt8) (l : List At) (hl : l.length ≤ 1000000) : Fc PG 50 [.raw b 0, domV d, .str name, .sl .p (l.map atV)] (fnV (secE b name (l.map (eE_Atom (wfAt b d))))) := by
 have hE := f_each_Atom (wfAt b d) rfl l hl
 have hS := f_writer_section b name (l.map (eE_Atom (wfAt b d)))
 refine Fn.step mixed k_domain_writer_atoms ?_
 repeat (first | refine i_s rfl ?_ | refine sw ?_ | refine i_box rfl rfl ?_)
 refine c_frzb rfl rfl rfl ?_
 repeat refine sw ?_
 refine c_frzb rfl rfl rfl ?_
 repeat (first | refine i_s rfl ?_ | refine sw ?_ | refine sf rfl rfl hE ?_ | refine sf rfl rfl hS ?_)
 exact e_ret ⟨rfl, _, rfl, rfl⟩
def c_domain_writer_literals_1_1 : Cmd :=
 (qS [qc 3 0]
 (.seq (.ops [ql 4 1 0, qL 5 6 1, qf 6 1 2, qL 7 2 6, qq 8 (.call (.s [705153, 715522]) (.c (.fn 104 [])) [.t 4, .t 5, .t 7]), qm 3 8]) .ret))
def r_domain_writer_literals_1_1 : List RVar := [.tmp 3]
def n_domain_writer_literals_1_1 : Nat := 9
theorem k_domain_writer_literals_1_1 : chkFn PG 107 n_domain_writer_literals_1_1 r_domain_writer_literals_1_1 c_domain_writer_literals_1_1 = true := by kernel_rfl
abbrev eNot (b : Nat) (d : Dom) (x : Lit) : Nat × List V := (107, [.cptr .p (.raw b 0) 0, .cptr .p (domV d) 0, .cptr .p (litV x) 0])
theorem el_not (hI : ItoaOk) (b : Nat) (d : Dom) (x : Lit) (ha : AtW d x.at_) : El b (eNot b d x) (atT d x.at_) := by
 refine ⟨rfl, fun ns => rfl, fun G H g R hR => ?_⟩
 have hrun := ct_atom (G := G) (H := H) hI b d x.at_ ha R hR g
 refine CT.step _ mixed k_domain_writer_literals_1_1 (fun nm hnm => stOf_mem _ nm hnm) fun hM => ?_
 repeat (first | refine i_s rfl ?_ | refine sw ?_)
 refine i_cs rfl rfl rfl rfl hrun ?_
 rintro _ _ _ ⟨⟨rfl, rfl⟩, rfl⟩
 repeat (first | refine i_s rfl ?_ | refine sw ?_)
 exact e_ret ⟨rfl, _, rfl, rfl, rfl, ⟨rfl, restr_stOf _ _⟩, rfl⟩
def c_domain_writer_literals_1 : Cmd :=
 (.seq (.ops [qx 3 6784195 3 0, qc 4 0]) (qT (.frz 3)
 (qT (qS [qf 5 0 3, ql 6 1 5]
 (.cond (.t 6) (.seq (.ops [ql 7 1 1, qq 8 (.mkfn 107 [.t 1, .t 2, .t 3]), qq 9 (.bsl 1 [.t 8]), qq 10 (.call .f (.c (.fn 38 [])) [.t 7, .c (.str [110, 111, 116]), .t 9]), qq 11 (.call (.s [705153, 715522]) (.t 10) []), qm 4 11]) .ret) .skip))
 (.seq (.ops [ql 12 1 1, qL 13 6 2, qf 14 1 3, qL 15 2 14, qq 16 (.call (.s [705153, 715522]) (.c (.fn 104 [])) [.t 12, .t 13, .t 15]), qm 4 16]) .ret))))
def r_domain_writer_literals_1 : List RVar := [.tmp 4]
def n_domain_writer_literals_1 : Nat := 17
theorem k_domain_writer_literals_1 : chkFn PG 106 n_domain_writer_literals_1 r_domain_writer_literals_1 c_domain_writer_literals_1 = true := by kernel_rfl
abbrev wfLit (b : Nat) (d : Dom) : Nat × List V := (106, rdC b d)
theorem wr_lit (hI : ItoaOk) (b : Nat) (d : Dom) : Wr b (wfLit b d) litV (litT d) (fun x => AtW d x.at_) := by
 refine ⟨rfl, fun ns => rfl, fun x ha G H g R hR => ?_⟩
 obtain ⟨neg, a⟩ := x
 cases neg with
 | true =>
  have e : litT d ⟨true, a⟩ = secT notS [atT d a] := by unfold litT; rw [if_pos rfl]
  rw [e] at hR ⊢
  have hS := f_writer_section b notS [eNot b d ⟨true, a⟩]
  have hrun := (el_section b notS [eNot b d ⟨true, a⟩] [atT d a] (Els.cons (el_not hI b d ⟨true, a⟩ ha) (Els.nil b)) (by simp)).run G H g R hR
  refine CT.step _ mixed k_domain_writer_literals_1 (fun nm hnm => stOf_mem _ nm hnm) fun hM => ?_
  repeat (first | refine i_s rfl ?_ | refine sw ?_ | refine i_box rfl rfl ?_)
  refine c_frzb rfl rfl rfl ?_
  repeat (first | refine i_s rfl ?_ | refine sw ?_ | refine c_t rfl ?_ | refine sf rfl rfl hS ?_)
  refine i_cs rfl rfl rfl rfl hrun ?_
  rintro _ _ _ ⟨⟨rfl, rfl⟩, rfl⟩
  repeat (first | refine i_s rfl ?_ | refine sw ?_)
  exact e_ret ⟨rfl, _, rfl, rfl, rfl, ⟨rfl, restr_stOf _ _⟩, rfl⟩
 | false =>
  have e : litT d ⟨false, a⟩ = atT d a := by unfold litT; rw [if_neg (by simp)]
  rw [e] at hR ⊢
  have hrun := ct_atom (G := G) (H := H) hI b d a ha R hR g
  refine CT.step _ mixed k_domain_writer_literals_1 (fun nm hnm => stOf_mem _ nm hnm) fun hM => ?_
  repeat (first | refine i_s rfl ?_ | refine sw ?_ | refine i_box rfl rfl ?_)
  refine c_frzb rfl rfl rfl ?_
  repeat (first | refine i_s rfl ?_ | refine sw ?_ | refine c_f rfl ?_)
  refine i_cs rfl rfl rfl rfl hrun ?_
  rintro _ _ _ ⟨⟨rfl, rfl⟩, rfl⟩
  repeat (first | refine i_s rfl ?_ | refine sw ?_)
  exact e_ret ⟨rfl, _, rfl, rfl, rfl, ⟨rfl, restr_stOf _ _⟩, rfl⟩
def c_domain_writer_literals : Cmd :=
 (.seq (.ops [qx 4 3264257 1 0, qx 5 3264326 6 1, qq 8 (.mov (.c (.nilfn)))]) (.seq (.frz 5) (qT (.frz 4)
 (.seq (.ops [ql 9 1 4, qm 10 2, qm 11 3, qq 12 (.mkfn 106 [.t 4, .t 5]), qk 13 105 [11, 12], qk 14 38 [9, 10, 13], qm 8 14]) .ret))))
def r_domain_writer_literals : List RVar := [.tmp 8]
def n_domain_writer_literals : Nat := 15
theorem k_domain_writer_literals : chkFn PG 51 n_domain_writer_literals r_domain_writer_literals c_domain_writer_literals = true := by kernel_rfl
theorem f_literalsW (b : Nat) (d : Dom) (name : List UInt8) (l : List Lit) (hl : l.length ≤ 1000000) : Fc PG 51 [.raw b 0, domV d, .str name, .sl .p (l.map litV)] (fnV (secE b name (l.map (eE_Literal (wfLit b d))))) := by
 have hE := f_each_Literal (wfLit b d) rfl l hl
 have hS := f_writer_section b name (l.map (eE_Literal (wfLit b d)))
 refine Fn.step mixed k_domain_writer_literals ?_
 repeat (first | refine i_s rfl ?_ | refine sw ?_ | refine i_box rfl rfl ?_)
 refine c_frzb rfl rfl rfl ?_
 repeat refine sw ?_
 refine c_frzb rfl rfl rfl ?_
 repeat (first | refine i_s rfl ?_ | refine sw ?_ | refine sf rfl rfl hE ?_ | refine sf rfl rfl hS ?_)
 exact e_ret ⟨rfl, _, rfl, rfl⟩
theorem atW_of {d : Dom} (hd : DomV d) {ps : List Int} (hps : ps.length ≤ 100) {a : At} (h : atomCode d ps a = 0) : AtW d a ∧ a.args.length ≤ 3 := by
 obtain ⟨⟨p0, p1⟩, p, hp, hl, _⟩ := atom_args h
 have ht := (prdVal_of hd hp).types.1
 refine ⟨⟨p0, p1, by omega, fun x hx => ?_⟩, by omega⟩
 have := atom_rng h x hx
 omega
theorem tszL_map_le {α : Type} {g : α → Tr} {n : Nat} : ∀ {l : List α}, (∀ x ∈ l, tsz (g x) ≤ n) → tszL (l.map g) ≤ l.length * n
 | [], _ => by simp [tszL]
 | x :: r, h => by
  have h1 := h x (by simp)
  have h2 := tszL_map_le (l := r) (fun y hy => h y (by simp [hy]))
  simp only [List.map_cons, tszL, List.length_cons, Nat.add_mul]
  omega
theorem tsz_sec (name : List UInt8) (l : List Tr) : tsz (secT name l) = tszL l + 2 := by simp only [secT, tsz, tszL]; omega
theorem tsz_at (d : Dom) {a : At} (h : a.args.length ≤ 3) : tsz (atT d a) ≤ 5 := by
 unfold atT
 rw [tsz_sec]
 have := tszL_map_le (g := argT d) (n := 1) (l := a.args) (fun x _ => by simp [argT, tsz])
 omega
theorem tsz_lit (d : Dom) {x : Lit} (h : x.at_.args.length ≤ 3) : tsz (litT d x) ≤ 7 := by
 have h1 := tsz_at d h
 unfold litT
 split
 · rw [tsz_sec]
   simp only [tszL]
   omega
 · omega
theorem tsz_sch {d : Dom} (hd : DomV d) {s : Sch} (hs : s ∈ d.schemas) : tsz (schT d s) ≤ 200 := by
 obtain ⟨i, hi⟩ := List.getElem?_of_mem hs
 have hv := (schV2_of hd hi).val
 have h0 := hv.types.1
 have h1 := tszL_map_le (g := nmT d) (n := 1) (l := s.types) (fun x _ => by simp [nmT, tsz])
 have h2 := tszL_map_le (g := pairT) (n := 3) (l := s.diff) (fun x _ => by simp [pairT, tsz, tszL])
 have h3 := tszL_map_le (g := litT d) (n := 7) (l := s.pre) (fun x hx => tsz_lit d (atW_of hd (by omega) (hv.pre x hx)).2)
 have h4 := tszL_map_le (g := atT d) (n := 5) (l := s.add) (fun x hx => tsz_at d (atW_of hd (by omega) (hv.add x hx)).2)
 have h5 := tszL_map_le (g := atT d) (n := 5) (l := s.del) (fun x hx => tsz_at d (atW_of hd (by omega) (hv.del x hx)).2)
 have q2 := hv.dl
 have q3 := hv.prel
 have q4 := hv.addl
 have q5 := hv.dell
 unfold schT
 rw [tsz_sec]
 simp only [tszL, tsz, tsz_sec]
 omega
theorem tsz_dom {d : Dom} (hd : DomV d) (hty : d.types.length ≤ 1000) : tsz (domT d) ≤ 20000 := by
 have h1 := tszL_map_le (g := tyT d) (n := 3) (l := d.types) (fun x _ => by simp [tyT, tsz, tszL])
 have h2 := tszL_map_le (g := obT d) (n := 3) (l := d.objects) (fun x _ => by simp [obT, tsz, tszL])
 have h3 := tszL_map_le (g := prT d) (n := 5) (l := d.preds) (fun x hx => by
  obtain ⟨i, hi⟩ := List.getElem?_of_mem hx
  have ht := (prdVal_of hd hi).types.1
  unfold prT
  rw [tsz_sec]
  have := tszL_map_le (g := nmT d) (n := 1) (l := x.types) (fun x _ => by simp [nmT, tsz])
  omega)
 have h4 := tszL_map_le (g := schT d) (n := 200) (l := d.schemas) (fun x hx => tsz_sch hd hx)
 have hi := (atomsCode_all hd.ini)
 have hg := (atomsCode_all hd.goal)
 have h5 := tszL_map_le (g := atT d) (n := 5) (l := d.init) (fun x hx => tsz_at d (atW_of hd (by simp) (hi.2 x hx)).2)
 have h6 := tszL_map_le (g := litT d) (n := 7) (l := d.goal) (fun x hx => tsz_lit d (atW_of hd (by simp) (hg.2 x.at_ (List.mem_map_of_mem hx))).2)
 have q1 := hd.ty.ol
 have q2 := hd.pl
 have q3 := hd.sl
 have q4 := hi.1
 have q5 := hg.1
 rw [List.length_map] at q5
 unfold domT
 rw [tsz_sec]
 simp only [tszL_append, tszL, tsz_sec]
 omega
mutual
theorem flt_sxs : ∀ (t : Tr) (b : Nat), tok t = true → b + tsz t ≤ 1000000 → ∀ x ∈ flt b t, x.sym.length ≤ 12 ∧ x.ch.length ≤ 1000000 ∧ ∀ c ∈ x.ch, InR .i64 c
 | .sym s, b, ht, hb, x, hx => by
  simp only [flt, List.mem_singleton] at hx
  subst hx
  have hs : symbolB s = true := by simpa [tok] using ht
  refine ⟨?_, by simp, fun c hc => by simp at hc⟩
  unfold symbolB at hs
  simp only [Bool.and_eq_true, decide_eq_true_eq] at hs
  exact hs.2.2
 | .lst l, b, ht, hb, x, hx => by
  simp only [flt, List.mem_append, List.mem_singleton] at hx
  simp only [tsz] at hb
  rcases hx with hx | rfl
  · exact fltL_sxs l b (by simpa [tok] using ht) (by omega) x hx
  · exact ⟨by simp, by rw [chs_len]; have := tszL_len l; omega, fun c hc => chs_rng l b (by omega) c hc⟩
theorem fltL_sxs : ∀ (l : List Tr) (b : Nat), tokL l = true → b + tszL l ≤ 1000000 → ∀ x ∈ fltL b l, x.sym.length ≤ 12 ∧ x.ch.length ≤ 1000000 ∧ ∀ c ∈ x.ch, InR .i64 c
 | [], b, ht, hb, x, hx => by simp [fltL] at hx
 | t :: r, b, ht, hb, x, hx => by
  simp only [fltL, List.mem_append] at hx
  simp only [tokL, Bool.and_eq_true] at ht
  simp only [tszL] at hb
  rcases hx with hx | hx
  · exact flt_sxs t b ht.1 (by omega) x hx
  · exact fltL_sxs r (b + tsz t) ht.2 (by omega) x hx
theorem tszL_len : ∀ l : List Tr, l.length ≤ tszL l
 | [] => by simp [tszL]
 | t :: r => by have := tsz_pos t; have := tszL_len r; simp only [tszL, List.length_cons]; omega
theorem chs_rng : ∀ (l : List Tr) (b : Nat), b + tszL l ≤ 1000000 → ∀ c ∈ chs b l, InR .i64 c
 | [], b, hb, c, hc => by simp [chs] at hc
 | t :: r, b, hb, c, hc => by
  simp only [chs, List.mem_cons] at hc
  simp only [tszL] at hb
  have := tsz_pos t
  rcases hc with rfl | hc
  · exact ⟨by omega, by omega⟩
  · exact chs_rng r (b + tsz t) (by omega) c hc
end
theorem flt_sxsOk {t : Tr} (ht : tok t = true) (hs : tsz t ≤ 1000000) : SxsOk (flt 0 t) := by
 have h := flt_sxs t 0 ht (by omega)
 exact ⟨by rw [flt_len]; omega, fun x hx => by have := h x hx; exact ⟨by omega, by omega⟩, fun x hx => (h x hx).2.2⟩
def c_R1_DomainFault : Cmd :=
 (qS [qx 1 576070 6 0, qq 2 (.alloc 576130 (.agg [.int .i64 0, .int .i64 0]))]
 (qS [qf 13 0 1, ql 14 1 13, qk 15 29 [14], qq 3 (.alloc 576194 (.agg [.int .i64 0, .int .i64 0])), qs 2 3 15]
 (qT (qS [qf 16 0 3, ql 17 1 16, qv 18 .neq [.i] 17 0]
 (.cond (.t 18) (.seq (.ops [qf 19 0 3, ql 20 1 19, qq 21 (.call .f (.c (.fn 20 [])) [.t 20, .c (.int .i64 (-1))]), qs 2 2 21]) .ret) .skip))
 (qS [qf 22 0 1, ql 23 1 22, qf 24 1 1, ql 25 1 24, qk 26 30 [23, 25], qs 2 3 26]
 (qT (qS [qf 27 0 3, ql 28 1 27, qv 29 .neq [.i] 28 0]
 (.cond (.t 29) (.seq (.ops [qf 30 0 3, ql 31 1 30, qq 32 (.call .f (.c (.fn 20 [])) [.t 31, .c (.int .i64 (-2))]), qs 2 2 32]) .ret) .skip))
 (qT (qS [qf 33 2 1, ql 34 1 33, qn 35 34, qv 36 .gtr [] 35 8]
 (.cond (.t 36) (.seq (.ops [qq 37 (.call .f (.c (.fn 20 [])) [.c (.int .i64 2), .c (.int .i64 (-3))]), qs 2 2 37]) .ret) .skip))
 (qT (qS [qc 4 0]
 (.block 0 (.loop (qT (qS [qm 38 4, qf 39 2 1, ql 40 1 39, qn 41 40, qu 42 .lss [] 38 41]
 (.cond (.t 42) .skip (.exit 0)))
 (qT (.block 1 (qS [qf 45 2 1, ql 46 1 45, qm 47 4, qi 48 2 46 47, qL 49 2 48, qq 5 (.alloc 576322 (.agg [.str [], .sl .nil []])), qs 2 5 49]
 (qT (qS [qf 50 0 5, ql 51 1 50, qk 52 31 [51], qq 53 (.not (.t 52)), qm 54 53, qg 55 54 false (.faddr 0 (.t 5)), qg 56 54 false (.load false 1 (.t 55)), qg 57 54 false (.bin .eql false [.s] (.t 56) (.c (.str [110, 111, 116]))), qq 58 (.pick (.t 54) (.c (.bool true)) (.t 57))]
 (.cond (.t 58) (.seq (.ops [qq 59 (.call .f (.c (.fn 20 [])) [.c (.int .i64 12), .c (.int .i64 (-3))]), qs 2 2 59]) .ret) .skip))
 (qT (qS [qc 6 0]
 (.block 2 (.loop (qT (qS [qm 60 6, qm 61 4, qu 62 .lss [] 60 61]
 (.cond (.t 62) .skip (.exit 2)))
 (qT (.block 3 (qS [qf 65 2 1, ql 66 1 65, qm 67 6, qi 68 2 66 67, qf 69 0 68, ql 70 1 69, qf 71 0 5, ql 72 1 71, qu 73 .eql [.s] 70 72]
 (.cond (.t 73) (.seq (.ops [qq 74 (.call .f (.c (.fn 20 [])) [.c (.int .i64 7), .c (.int .i64 (-3))]), qs 2 2 74]) .ret) .skip)))
 (.ops [qm 63 6, qv 64 .add [] 63 1, qm 6 64]))))))
 (qS [qL 75 6 1, qf 76 1 5, ql 77 1 76, qk 78 32 [75, 77], qm 7 78]
 (qS [qm 79 7, qv 80 .neq [.i] 79 0]
 (.cond (.t 80) (.seq (.ops [qm 81 7, qq 82 (.call .f (.c (.fn 20 [])) [.t 81, .c (.int .i64 (-3))]), qs 2 2 82]) .ret) .skip)))))))
 (.ops [qm 43 4, qv 44 .add [] 43 1, qm 4 44]))))))
 (qT (qS [qf 83 3 1, ql 84 1 83, qn 85 84, qv 86 .gtr [] 85 8]
 (.cond (.t 86) (.seq (.ops [qq 87 (.call .f (.c (.fn 20 [])) [.c (.int .i64 2), .c (.int .i64 (-4))]), qs 2 2 87]) .ret) .skip))
 (qT (qS [qc 8 0]
 (.block 4 (.loop (qT (qS [qm 88 8, qf 89 3 1, ql 90 1 89, qn 91 90, qu 92 .lss [] 88 91]
 (.cond (.t 92) .skip (.exit 4)))
 (qT (.block 5 (qT (qS [qf 95 3 1, ql 96 1 95, qm 97 8, qi 98 7 96 97, qf 99 0 98, ql 100 1 99, qk 101 31 [100], qq 102 (.not (.t 101))]
 (.cond (.t 102) (.seq (.ops [qm 103 8, qq 104 (.call .f (.c (.fn 20 [])) [.c (.int .i64 12), .t 103]), qs 2 2 104]) .ret) .skip))
 (qT (qS [qc 9 0]
 (.block 6 (.loop (qT (qS [qm 105 9, qm 106 8, qu 107 .lss [] 105 106]
 (.cond (.t 107) .skip (.exit 6)))
 (qT (.block 7 (qS [qf 110 3 1, ql 111 1 110, qm 112 9, qi 113 7 111 112, qf 114 0 113, ql 115 1 114, qf 116 3 1, ql 117 1 116, qm 118 8, qi 119 7 117 118, qf 120 0 119, ql 121 1 120, qu 122 .eql [.s] 115 121]
 (.cond (.t 122) (.seq (.ops [qm 123 8, qq 124 (.call .f (.c (.fn 20 [])) [.c (.int .i64 7), .t 123]), qs 2 2 124]) .ret) .skip)))
 (.ops [qm 108 9, qv 109 .add [] 108 1, qm 9 109]))))))
 (qS [qL 125 6 1, qf 126 3 1, ql 127 1 126, qm 128 8, qi 129 7 127 128, qL 130 7 129, qk 131 33 [125, 130], qm 10 131]
 (qS [qm 132 10, qv 133 .neq [.i] 132 0]
 (.cond (.t 133) (.seq (.ops [qm 134 10, qm 135 8, qk 136 20 [134, 135], qs 2 2 136]) .ret) .skip))))))
 (.ops [qm 93 8, qv 94 .add [] 93 1, qm 8 94]))))))
 (qS [qL 137 6 1, qf 138 4 1, ql 139 1 138, qq 140 (.call .f (.c (.fn 34 [])) [.t 137, .c (.sl .nil []), .t 139, .c (.int .i64 40)]), qm 11 140]
 (qT (qS [qc 12 0]
 (.block 8 (.loop (qT (qS [qm 141 12, qf 142 4 1, ql 143 1 142, qn 144 143, qu 145 .lss [] 141 144, qm 146 145, qg 147 146 true (.mov (.t 11)), qg 148 146 true (.bin .eql false [.i] (.t 147) (.c (.int .i64 0))), qq 149 (.pick (.t 146) (.t 148) (.c (.bool false)))]
 (.cond (.t 149) .skip (.exit 8)))
 (qT (.block 9 (qS [qf 152 4 1, ql 153 1 152, qm 154 12, qq 155 (.slice false 2 (.t 153) none (some (.t 154))), qf 156 4 1, ql 157 1 156, qm 158 12, qi 159 2 157 158, qL 160 2 159, qk 161 35 [155, 160]]
 (.cond (.t 161) (.ops [qc 11 7]) .skip)))
 (.ops [qm 150 12, qv 151 .add [] 150 1, qm 12 151]))))))
 (qT (qS [qm 162 11, qv 163 .neq [.i] 162 0]
 (.cond (.t 163) (.seq (.ops [qm 164 11, qq 165 (.call .f (.c (.fn 20 [])) [.t 164, .c (.int .i64 (-5))]), qs 2 2 165]) .ret) .skip))
 (qS [qL 166 6 1, qf 167 5 1, ql 168 1 167, qk 169 36 [168], qq 170 (.call .f (.c (.fn 34 [])) [.t 166, .c (.sl .nil []), .t 169, .c (.int .i64 8)]), qm 11 170]
 (qT (qS [qm 171 11, qv 172 .neq [.i] 171 0]
 (.cond (.t 172) (.seq (.ops [qm 173 11, qq 174 (.call .f (.c (.fn 20 [])) [.t 173, .c (.int .i64 (-6))]), qs 2 2 174]) .ret) .skip))
 (.seq (.ops [qq 175 (.build [.int .i64 0, .int .i64 0] []), qs 2 2 175]) .ret)))))))))))))))
def r_R1_DomainFault : List RVar := [.cell true 2 2]
def n_R1_DomainFault : Nat := 176
theorem k_R1_DomainFault : chkFn PG 9 n_R1_DomainFault r_R1_DomainFault c_R1_DomainFault = true := by kernel_rfl
theorem f_R1_DomainFault (d : Dom) (ho : DoOk d) : Fc PG 9 [domV d] (ftV (domFault d)) := by
 have hT := f_R1_TypesFault d.types ho.types
 have hO := f_R1_ObjectsFault d.types ho.types.1 d.objects ho.objects
 unfold domFault
 by_cases t1 : typesFault d.types = okF
 · rw [if_neg (by simp [t1])]
   rw [t1] at hT
   by_cases t2 : objectsFault d.types.length d.objects = okF
   · rw [if_neg (by simp [t2])]
     rw [t2] at hO
     have hd := doTy_of t1 t2
     have hpl := ho.preds.1
     have hsl := ho.schemas.1
     by_cases t3 : d.preds.length > 8
     · rw [if_pos t3]
       refine Fn.step mixed k_R1_DomainFault ?_
       repeat' (first | refine i_len rfl ?_ | refine i_s rfl ?_ | refine sw ?_ | refine c_f rfl ?_ | refine i_stb rfl ?_ | refine i_alloc rfl ?_ | refine i_box rfl rfl ?_ | refine c_cond rfl (fun h => ?_) (fun h => ?_) | refine sf rfl rfl hT ?_ | refine sf rfl rfl hO ?_ | refine sf rfl rfl (f_R1_At _ _) ?_ | fail)
       all_goals first
        | exact e_ret ⟨rfl, _, rfl, rfl⟩
        | (exfalso; clear hT hO; simp at *; omega)
        | (exfalso; clear hT hO; simp_all; done)
     · rw [if_neg t3]
       refine Fn.step mixed k_R1_DomainFault ?_
       repeat' (first | refine i_len rfl ?_ | refine i_s rfl ?_ | refine sw ?_ | refine c_f rfl ?_ | refine i_stb rfl ?_ | refine i_alloc rfl ?_ | refine i_box rfl rfl ?_ | refine c_cond rfl (fun h => ?_) (fun h => ?_) | refine sf rfl rfl hT ?_ | refine sf rfl rfl hO ?_ | refine sf rfl rfl (f_R1_At _ _) ?_ | fail)
       all_goals first
        | (exfalso; clear hT hO; simp at *; omega)
        | (exfalso; clear hT hO; simp [okF] at *; done)
        | skip
       clear hT hO
       refine c_for d.preds.length (fun k => [(1, .bptr 576070 0), (2, .bptr 576130 0), (4, .int .i64 k)]) (fun _ => [(576070, .box (domV d)), (576130, .box (ftV okF))]) (fun k => ∀ j, j < k → nzF (prdCode d) (fun _ => -3) j = none) all_zero ft fun k hk hi => ?_
       by_cases hlt : k < d.preds.length
       · obtain ⟨p, hp⟩ := get_some hlt
         have hpo := ho.preds.2 p (mem_get hp)
         have hN := f_R1_Name p.name hpo.1
         have hC := f_R1_TypesCode d ho.types.1 p.types (by omega)
         have hcode : prdCode d k = if nameB p.name = false ∨ p.name = notS then 12 else if (d.preds.take k).any (fun q => q.name == p.name) = true then 7 else paramsCode d.types.length p.types := by simp only [prdCode, hp]
         by_cases c1 : nameB p.name = false ∨ p.name = notS
         · rw [if_pos c1] at hcode
           rw [scan0_hit hi hlt (show nzF (prdCode d) (fun _ => -3) k = some ⟨12, -3⟩ by unfold nzF; rw [hcode, if_neg (by decide)])]
           clear hi ho hcode hC
           have c3 : nameB p.name = true → (p.name == [110, 111, 116]) = true := fun h => by
            rcases c1 with c1 | c1
            · rw [h] at c1; cases c1
            · rw [c1]; rfl
           generalize nameB p.name = b1 at *
           clear c1
           repeat' (first | refine i_len rfl ?_ | refine i_s rfl ?_ | refine sw ?_ | refine i_gt rfl ?_ | refine i_gf rfl ?_ | refine c_t rfl ?_ | refine jd rfl rfl ?_ | refine i_stb rfl ?_ | refine i_alloc rfl ?_ | (refine sp ?_ ?_ <;> try intro h) | refine sf rfl rfl hN ?_ | refine sf rfl rfl (f_R1_At _ _) ?_ | fail)
           all_goals first
            | exact e_ret ⟨rfl, _, rfl, rfl⟩
            | (exfalso; clear hN; simp at *; omega)
            | (exfalso; clear hN; cases b1 <;> simp_all; done)
         · rw [if_neg c1] at hcode
           have c2 : nameB p.name = true := by
            cases h : nameB p.name with
            | true => rfl
            | false => exact absurd (.inl h) c1
           have c3 : (p.name == [110, 111, 116]) = false := by rw [beq_eq_false_iff_ne]; exact fun h => c1 (.inr h)
           rw [c2] at hN
           clear c1 c2
           repeat' (first | refine i_len rfl ?_ | refine i_s rfl ?_ | refine sw ?_ | refine i_gt rfl ?_ | refine jd rfl rfl ?_ | refine i_stb rfl ?_ | refine i_alloc rfl ?_ | refine c_cond rfl (fun h => ?_) (fun h => ?_) | refine sf rfl rfl hN ?_ | refine sf rfl rfl (f_R1_At _ _) ?_ | fail)
           all_goals first
            | (exfalso; clear hN hC; simp at *; omega)
            | (exfalso; clear hN hC; simp_all; done)
            | skip
           clear hN
           refine c_for k (fun j => [(1, .bptr 576070 0), (2, .bptr 576130 0), (4, .int .i64 k), (5, .bptr 576322 0), (6, .int .i64 j)]) (fun _ => [(576070, .box (domV d)), (576130, .box (ftV okF)), (576322, .box (prdV p))]) (fun j => ∀ i, i < j → ∀ q, d.preds[i]? = some q → (q.name == p.name) = false) all_zero ft fun j hj hij => ?_
           by_cases hjk : j < k
           · obtain ⟨q, hq⟩ := get_some (l := d.preds) (k := j) (by omega)
             clear hC
             cases hqp : q.name == p.name with
             | true =>
              have hany : (d.preds.take k).any (fun q => q.name == p.name) = true := any_take_hit (p := fun u => u.name == p.name) hjk hq hqp
              rw [if_pos hany] at hcode
              rw [scan0_hit hi hlt (show nzF (prdCode d) (fun _ => -3) k = some ⟨7, -3⟩ by unfold nzF; rw [hcode, if_neg (by decide)])]
              clear hi ho hcode hany hij c3
              repeat' (first | refine i_s rfl ?_ | refine sw ?_ | refine ja rfl rfl ?_ | refine jd rfl rfl ?_ | refine i_stb rfl ?_ | refine c_cond rfl (fun h => ?_) (fun h => ?_) | refine sf rfl rfl (f_R1_At _ _) ?_ | fail)
              all_goals first
               | exact e_ret ⟨rfl, _, rfl, rfl⟩
               | (exfalso; simp at *; omega)
               | (exfalso; simp_all; done)
             | false =>
              clear hi ho hcode c3
              repeat' (first | refine i_s rfl ?_ | refine sw ?_ | refine ja rfl rfl ?_ | refine jd rfl rfl ?_ | refine i_stb rfl ?_ | refine c_cond rfl (fun h => ?_) (fun h => ?_) | refine sf rfl rfl (f_R1_At _ _) ?_ | fail)
              all_goals first
               | (exact e_for hjk (all_succ hij fun y hy => by rw [hq] at hy; cases hy; exact hqp) ft)
               | (exfalso; simp at *; omega)
               | (exfalso; simp_all; done)
           · have hany : (d.preds.take k).any (fun q => q.name == p.name) = false := any_take_none fun i hik => hij i (by omega)
             rw [if_neg (by simp [hany])] at hcode
             rw [← hcode] at hC
             clear hcode hany hij c3
             by_cases z : prdCode d k = 0
             · have hn : nzF (prdCode d) (fun _ => -3) k = none := by unfold nzF; rw [if_pos z]
               rw [z] at hC
               clear ho
               repeat' (first | refine i_s rfl ?_ | refine sw ?_ | refine c_f rfl ?_ | refine ja rfl rfl ?_ | refine c_cond rfl (fun h => ?_) (fun h => ?_) | refine sf rfl rfl hC ?_ | fail)
               all_goals first
                | (exact e_for hlt (all_succ hi hn) ft)
                | (exfalso; clear hC; simp at *; omega)
             · rw [scan0_hit hi hlt (show nzF (prdCode d) (fun _ => -3) k = some ⟨prdCode d k, -3⟩ by unfold nzF; rw [if_neg z])]
               clear hi ho
               generalize prdCode d k = c at *
               repeat' (first | refine i_s rfl ?_ | refine sw ?_ | refine ja rfl rfl ?_ | refine i_stb rfl ?_ | refine c_cond rfl (fun h => ?_) (fun h => ?_) | refine sf rfl rfl hC ?_ | refine sf rfl rfl (f_R1_At _ _) ?_ | fail)
               all_goals first
                | exact e_ret ⟨rfl, _, rfl, rfl⟩
                | (exfalso; clear hC; simp at *; omega)
       · rw [scan0_none fun j hj => hi j (by omega)]
         clear hi
         by_cases t4 : d.schemas.length > 8
         · simp only
           rw [if_pos t4]
           clear ho
           repeat' (first | refine i_len rfl ?_ | refine i_s rfl ?_ | refine sw ?_ | refine i_stb rfl ?_ | refine c_cond rfl (fun h => ?_) (fun h => ?_) | refine sf rfl rfl (f_R1_At _ _) ?_ | fail)
           all_goals first
            | exact e_ret ⟨rfl, _, rfl, rfl⟩
            | (exfalso; simp at *; omega)
         · simp only
           rw [if_neg t4]
           repeat' (first | refine i_len rfl ?_ | refine i_s rfl ?_ | refine sw ?_ | refine i_stb rfl ?_ | refine c_cond rfl (fun h => ?_) (fun h => ?_) | refine sf rfl rfl (f_R1_At _ _) ?_ | fail)
           all_goals first
            | (exfalso; simp at *; omega)
            | skip
           refine c_for d.schemas.length (fun k => [(1, .bptr 576070 0), (2, .bptr 576130 0), (8, .int .i64 k)]) (fun _ => [(576070, .box (domV d)), (576130, .box (ftV okF))]) (fun k => ∀ j, j < k → nzF (schCode d) (fun i => i) j = none) all_zero ft fun k hk hi => ?_
           by_cases hlt : k < d.schemas.length
           · obtain ⟨s, hs⟩ := get_some hlt
             have hso := ho.schemas.2 s (mem_get hs)
             have hN := f_R1_Name s.name hso.name
             have hC := f_R1_SchemaCode d hd ho s hso
             have hcode : schCode d k = if nameB s.name = false then 12 else if (d.schemas.take k).any (fun q => q.name == s.name) = true then 7 else schSelf d s := by simp only [schCode, hs]
             cases c1 : nameB s.name with
             | false =>
              rw [if_pos c1] at hcode
              rw [c1] at hN
              rw [scan0_hit hi hlt (show nzF (schCode d) (fun i => i) k = some ⟨12, k⟩ by unfold nzF; rw [hcode, if_neg (by decide)])]
              clear hi ho hcode hC
              repeat' (first | refine i_len rfl ?_ | refine i_s rfl ?_ | refine sw ?_ | refine c_t rfl ?_ | refine jd rfl rfl ?_ | refine i_stb rfl ?_ | refine c_cond rfl (fun h => ?_) (fun h => ?_) | refine sf rfl rfl hN ?_ | refine sf rfl rfl (f_R1_At _ _) ?_ | fail)
              all_goals first
               | exact e_ret ⟨rfl, _, rfl, rfl⟩
               | (exfalso; clear hN; simp at *; omega)
             | true =>
              rw [if_neg (by simp [c1])] at hcode
              rw [c1] at hN
              repeat' (first | refine i_len rfl ?_ | refine i_s rfl ?_ | refine sw ?_ | refine c_f rfl ?_ | refine jd rfl rfl ?_ | refine c_cond rfl (fun h => ?_) (fun h => ?_) | refine sf rfl rfl hN ?_ | fail)
              all_goals first
               | (exfalso; clear hN hC; simp at *; omega)
               | skip
              clear hN
              refine c_for k (fun j => [(1, .bptr 576070 0), (2, .bptr 576130 0), (8, .int .i64 k), (9, .int .i64 j)]) (fun _ => [(576070, .box (domV d)), (576130, .box (ftV okF))]) (fun j => ∀ i, i < j → ∀ q, d.schemas[i]? = some q → (q.name == s.name) = false) all_zero ft fun j hj hij => ?_
              by_cases hjk : j < k
              · obtain ⟨q, hq⟩ := get_some (l := d.schemas) (k := j) (by omega)
                clear hC
                cases hqp : q.name == s.name with
                | true =>
                 have hany : (d.schemas.take k).any (fun q => q.name == s.name) = true := any_take_hit (p := fun u => u.name == s.name) hjk hq hqp
                 rw [if_pos hany] at hcode
                 rw [scan0_hit hi hlt (show nzF (schCode d) (fun i => i) k = some ⟨7, k⟩ by unfold nzF; rw [hcode, if_neg (by decide)])]
                 clear hi ho hcode hany hij
                 repeat' (first | refine i_s rfl ?_ | refine sw ?_ | refine ja rfl rfl ?_ | refine jd rfl rfl ?_ | refine i_stb rfl ?_ | refine c_cond rfl (fun h => ?_) (fun h => ?_) | refine sf rfl rfl (f_R1_At _ _) ?_ | fail)
                 all_goals first
                  | exact e_ret ⟨rfl, _, rfl, rfl⟩
                  | (exfalso; simp at *; omega)
                  | (exfalso; simp_all; done)
                | false =>
                 clear hi ho hcode
                 repeat' (first | refine i_s rfl ?_ | refine sw ?_ | refine ja rfl rfl ?_ | refine jd rfl rfl ?_ | refine i_stb rfl ?_ | refine c_cond rfl (fun h => ?_) (fun h => ?_) | refine sf rfl rfl (f_R1_At _ _) ?_ | fail)
                 all_goals first
                  | (exact e_for hjk (all_succ hij fun y hy => by rw [hq] at hy; cases hy; exact hqp) ft)
                  | (exfalso; simp at *; omega)
                  | (exfalso; simp_all; done)
              · have hany : (d.schemas.take k).any (fun q => q.name == s.name) = false := any_take_none fun i hik => hij i (by omega)
                rw [if_neg (by simp [hany])] at hcode
                rw [← hcode] at hC
                clear hcode hany hij
                by_cases z : schCode d k = 0
                · have hn : nzF (schCode d) (fun i => i) k = none := by unfold nzF; rw [if_pos z]
                  rw [z] at hC
                  clear ho
                  repeat' (first | refine i_s rfl ?_ | refine sw ?_ | refine c_f rfl ?_ | refine ja rfl rfl ?_ | refine jd rfl rfl ?_ | refine c_cond rfl (fun h => ?_) (fun h => ?_) | refine sf rfl rfl hC ?_ | fail)
                  all_goals first
                   | (exact e_for hlt (all_succ hi hn) ft)
                   | (exfalso; clear hC; simp at *; omega)
                · rw [scan0_hit hi hlt (show nzF (schCode d) (fun i => i) k = some ⟨schCode d k, k⟩ by unfold nzF; rw [if_neg z])]
                  clear hi ho
                  generalize schCode d k = c at *
                  repeat' (first | refine i_s rfl ?_ | refine sw ?_ | refine ja rfl rfl ?_ | refine jd rfl rfl ?_ | refine i_stb rfl ?_ | refine c_cond rfl (fun h => ?_) (fun h => ?_) | refine sf rfl rfl hC ?_ | refine sf rfl rfl (f_R1_At _ _) ?_ | fail)
                  all_goals first
                   | exact e_ret ⟨rfl, _, rfl, rfl⟩
                   | (exfalso; clear hC; simp at *; omega)
           · rw [scan0_none fun j hj => hi j (by omega)]
             clear hi
             simp only
             have hil := ho.init.1
             have hS := f_R1_AtomsCode d hd hpl [] ⟨by simp, by simp⟩ d.init (by omega) ho.init.2 40 (by omega)
             have hO := f_R1_AtomsOf d.goal ho.goal.1
             have hG := f_R1_AtomsCode d hd hpl [] ⟨by simp, by simp⟩ (d.goal.map Lit.at_) (by have := ho.goal.1; simp; omega) (by intro a ha; obtain ⟨x, hx, rfl⟩ := List.mem_map.1 ha; exact ho.goal.2 x hx) 8 (by omega)
             have hinit := ho.init.2
             have hsc : startCode d = if atomsCode d [] d.init 40 ≠ 0 then atomsCode d [] d.init 40 else (scan (dupBad d.init) 0 d.init.length).getD 0 := rfl
             generalize startCode d = sc at *
             clear ho
             generalize atomsCode d [] d.init 40 = c1 at *
             generalize atomsCode d [] (d.goal.map Lit.at_) 8 = c2 at *
             repeat' (first | refine i_len rfl ?_ | refine i_s rfl ?_ | refine sw ?_ | refine c_cond rfl (fun h => ?_) (fun h => ?_) | refine sf rfl rfl hS ?_ | fail)
             all_goals first
              | (exfalso; clear hS hG hO hinit; simp at *; omega)
              | skip
             clear hS
             refine c_lp (ι := Nat × Int) (fun p => [(1, .bptr 576070 0), (2, .bptr 576130 0), (11, .int .i64 p.2), (12, .int .i64 p.1)]) (fun _ => [(576070, .box (domV d)), (576130, .box (ftV okF))])
              (fun p => p.1 ≤ d.init.length ∧ ((p.2 = 0 ∧ c1 = 0 ∧ ∀ j, j < p.1 → dupBad d.init j = none) ∨ (p.2 ≠ 0 ∧ p.2 = sc))) (fun p => d.init.length - p.1) (0, c1)
              ⟨Nat.zero_le _, by
               by_cases z : c1 = 0
               · exact .inl ⟨z, z, fun j hj => by omega⟩
               · rw [if_pos z] at hsc
                 exact .inr ⟨z, hsc.symm⟩⟩ ft fun p hp => ?_
             obtain ⟨k, e⟩ := p
             obtain ⟨hk, hp⟩ := hp
             simp only at hk hp
             rcases hp with ⟨he, hc1, hi⟩ | ⟨he, hsc2⟩
             · subst he
               subst hc1
               rw [if_neg (by simp)] at hsc
               by_cases hlt : k < d.init.length
               · obtain ⟨x, hx⟩ := get_some hlt
                 have hH := f_R1_HasAtom (d.init.take k) x (by simp; omega) (fun y hy => hinit y (List.mem_of_mem_take hy)) (hinit x (mem_get hx))
                 have hbad : dupBad d.init k = if x ∈ d.init.take k then some 7 else none := by simp only [dupBad, hx]
                 clear hO hG
                 by_cases hm : x ∈ d.init.take k
                 · rw [if_pos hm] at hbad
                   rw [decide_eq_true hm] at hH
                   rw [scan0_hit hi hlt hbad] at hsc
                   clear hi hbad hm
                   repeat' (first | refine i_len rfl ?_ | refine i_s rfl ?_ | refine sw ?_ | refine i_gt rfl ?_ | refine i_gf rfl ?_ | refine c_t rfl ?_ | refine c_f rfl ?_ | refine ja rfl rfl ?_ | refine jd rfl rfl ?_ | refine jh rfl rfl ?_ | refine i_g rfl (fun h => ?_) (fun h => ?_) | refine sf rfl rfl hH ?_ | fail)
                   all_goals first
                    | (exact e_lp (k + 1, 7) ⟨by simp only; omega, .inr ⟨by simp, hsc.symm⟩⟩ (by simp only; omega) ft)
                    | (exfalso; clear hH; simp at *; omega)
                 · rw [if_neg hm] at hbad
                   rw [decide_eq_false hm] at hH
                   clear hm
                   repeat' (first | refine i_len rfl ?_ | refine i_s rfl ?_ | refine sw ?_ | refine i_gt rfl ?_ | refine i_gf rfl ?_ | refine c_t rfl ?_ | refine c_f rfl ?_ | refine ja rfl rfl ?_ | refine jd rfl rfl ?_ | refine jh rfl rfl ?_ | refine i_g rfl (fun h => ?_) (fun h => ?_) | refine sf rfl rfl hH ?_ | fail)
                   all_goals first
                    | (exact e_lp (k + 1, 0) ⟨by simp only; omega, .inl ⟨rfl, rfl, all_succ hi hbad⟩⟩ (by simp only; omega) ft)
                    | (exfalso; clear hH; simp at *; omega)
               · rw [scan0_none fun j hj => hi j (by omega)] at hsc
                 have hsc : sc = 0 := hsc
                 subst hsc
                 rw [if_neg (by simp)]
                 clear hi
                 by_cases z2 : c2 = 0
                 · subst z2
                   rw [if_neg (by simp)]
                   repeat' (first | refine i_len rfl ?_ | refine i_s rfl ?_ | refine sw ?_ | refine i_gt rfl ?_ | refine i_gf rfl ?_ | refine c_t rfl ?_ | refine c_f rfl ?_ | refine jh rfl rfl ?_ | refine i_stb rfl ?_ | refine i_g rfl (fun h => ?_) (fun h => ?_) | refine sf rfl rfl hO ?_ | refine sf rfl rfl hG ?_ | fail)
                   all_goals first
                    | exact e_ret ⟨rfl, _, rfl, rfl⟩
                    | (exfalso; clear hO hG; simp at *; omega)
                 · rw [if_pos z2]
                   repeat' (first | refine i_len rfl ?_ | refine i_s rfl ?_ | refine sw ?_ | refine i_gt rfl ?_ | refine i_gf rfl ?_ | refine c_t rfl ?_ | refine c_f rfl ?_ | refine jh rfl rfl ?_ | refine i_stb rfl ?_ | (refine sp ?_ ?_ <;> try intro h) | refine sf rfl rfl hO ?_ | refine sf rfl rfl hG ?_ | refine sf rfl rfl (f_R1_At _ _) ?_ | fail)
                   all_goals first
                    | exact e_ret ⟨rfl, _, rfl, rfl⟩
                    | (exfalso; clear hO hG; simp at *; omega)
             · clear hO hG
               rw [if_pos (by rw [← hsc2]; exact he)]
               subst hsc2
               clear hsc
               repeat' (first | refine i_len rfl ?_ | refine i_s rfl ?_ | refine sw ?_ | refine i_gt rfl ?_ | refine i_gf rfl ?_ | refine c_f rfl ?_ | refine jh rfl rfl ?_ | refine i_stb rfl ?_ | (refine sp ?_ ?_ <;> try intro h) | refine sf rfl rfl (f_R1_At _ _) ?_ | fail)
               all_goals first
                | exact e_ret ⟨rfl, _, rfl, rfl⟩
                | (exfalso; simp at *; omega)
                | (exfalso; simp_all; done)
   · rw [if_pos t2]
     have ht2 : (objectsFault d.types.length d.objects).code ≠ 0 := fun h => t2 ((objectsFault_code _ _).1 h)
     clear ho
     generalize objectsFault d.types.length d.objects = F at *
     refine Fn.step mixed k_R1_DomainFault ?_
     repeat' (first | refine i_len rfl ?_ | refine i_s rfl ?_ | refine sw ?_ | refine c_f rfl ?_ | refine i_stb rfl ?_ | refine i_alloc rfl ?_ | refine i_box rfl rfl ?_ | refine c_cond rfl (fun h => ?_) (fun h => ?_) | refine sf rfl rfl hT ?_ | refine sf rfl rfl hO ?_ | refine sf rfl rfl (f_R1_At _ _) ?_ | fail)
     all_goals first
      | exact e_ret ⟨rfl, _, rfl, rfl⟩
      | (exfalso; clear hT hO; simp at *; omega)
      | (exfalso; clear hT hO; simp_all; done)
      | (exfalso; clear hT hO; simp [okF] at *; done)
 · rw [if_pos t1]
   have ht1 : (typesFault d.types).code ≠ 0 := fun h => t1 ((typesFault_code _).1 h)
   clear ho hO
   generalize typesFault d.types = F at *
   refine Fn.step mixed k_R1_DomainFault ?_
   repeat' (first | refine i_s rfl ?_ | refine sw ?_ | refine i_stb rfl ?_ | refine i_alloc rfl ?_ | refine i_box rfl rfl ?_ | refine c_cond rfl (fun h => ?_) (fun h => ?_) | refine sf rfl rfl hT ?_ | refine sf rfl rfl (f_R1_At _ _) ?_ | fail)
   all_goals first
    | exact e_ret ⟨rfl, _, rfl, rfl⟩
    | (exfalso; clear hT; simp at *; omega)
    | (exfalso; clear hT; simp_all; done)
    | (exfalso; clear hT; simp [okF] at *; done)
end Hm
end
