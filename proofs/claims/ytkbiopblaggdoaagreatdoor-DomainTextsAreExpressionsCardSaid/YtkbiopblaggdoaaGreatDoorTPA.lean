/- Part TPA of the proof. -/
import Derived.Test.YtkbiopblaggdoaaGreatDoorTC
import Derived.Test.YtkbiopblaggdoaaGreatDoorProg
import Derived.ProofKit
import Derived.SizedLaws
import Derived.Carry
import Derived.Deep.Slices
import Derived.OpenShut
set_option linter.unusedVariables false
set_option linter.unusedSimpArgs false
section
namespace Hm
open Go
theorem mixed : Go.Proofs.Tryz.prog.follows .mixedOrders = true := by kernel_rfl
end Hm
end
section
namespace Hm
open Go
set_option maxRecDepth 100000
set_option maxHeartbeats 1000000
def c_R1_At : Cmd :=
 (qS [qq 4 (.alloc 1280258 (.agg [.int .i64 0, .int .i64 0]))]
 (.seq (.ops [qm 5 0, qm 6 1, qq 7 (.build [.int .i64 0, .int .i64 0] [(0 , 1 , .t 5), (1 , 1 , .t 6)]), qs 2 4 7]) .ret))
def r_R1_At : List RVar := [.cell true 2 4]
def n_R1_At : Nat := 8
theorem k_R1_At : chkFn Go.Proofs.Tryz.prog 20 n_R1_At r_R1_At c_R1_At = true := by kernel_rfl
theorem f_R1_At (c i : Int) : Fc Go.Proofs.Tryz.prog 20 [.int .i64 c, .int .i64 i] (.agg [.int .i64 c, .int .i64 i]) := by
  refine Fn.step mixed k_R1_At ?_
  repeat' (first | refine i_s rfl ?_ | refine sw ?_ | refine i_stb rfl ?_ | refine i_alloc rfl ?_)
  exact e_ret ⟨rfl, _, rfl, rfl⟩
def c_R1_Ints : Cmd :=
 (qS [qb 4 false]
 (qT (qS [qm 6 0, qn 7 6, qm 8 1, qn 9 8, qu 10 .neq [.i] 7 9]
 (.cond (.t 10) (.seq (.ops [qb 4 false]) .ret) .skip))
 (qT (qS [qc 5 0]
 (.block 0 (.loop (qT (qS [qm 11 5, qm 12 0, qn 13 12, qu 14 .lss [] 11 13]
 (.cond (.t 14) .skip (.exit 0)))
 (qT (.block 1 (qS [qm 17 0, qm 18 5, qi 19 1 17 18, ql 20 1 19, qm 21 1, qm 22 5, qi 23 1 21 22, ql 24 1 23, qu 25 .neq [.i] 20 24]
 (.cond (.t 25) (.seq (.ops [qb 4 false]) .ret) .skip)))
 (.ops [qm 15 5, qv 16 .add [] 15 1, qm 5 16]))))))
 (.seq (.ops [qb 4 true]) .ret))))
def r_R1_Ints : List RVar := [.tmp 4]
def n_R1_Ints : Nat := 26
theorem k_R1_Ints : chkFn Go.Proofs.Tryz.prog 59 n_R1_Ints r_R1_Ints c_R1_Ints = true := by kernel_rfl
theorem f_R1_Ints (xs ys : List Int) (hl : xs.length ≤ 140737488355328) : Fc Go.Proofs.Tryz.prog 59 [.sl .p (xs.map i64V), .sl .p (ys.map i64V)] (.bool (decide (xs = ys))) := by
  refine Fn.step mixed k_R1_Ints ?_
  repeat' (first | refine i_len rfl ?_ | refine i_s rfl ?_ | refine sw ?_ | refine c_cond rfl (fun h => ?_) (fun h => ?_))
  · have e : xs.length ≠ ys.length := by simp at h; omega
    refine e_ret ⟨rfl, _, rfl, congrArg V.bool (decide_eq_false fun e' => e (by rw [e']))⟩
  have e : xs.length = ys.length := by simp at h; omega
  refine c_for xs.length (fun k => [(0, .sl .p (xs.map i64V)), (1, .sl .p (ys.map i64V)), (5, .int .i64 k)]) (fun _ => []) (fun k => xs.take k = ys.take k) (by simp) ft fun k hk hi => ?_
  repeat (first | refine i_len rfl ?_ | refine i_s rfl ?_ | refine sw ?_)
  refine c_cond rfl (fun h => ?_) (fun h => ?_)
  · have hlt : k < xs.length := by simpa using h
    obtain ⟨c, hc⟩ := get_some hlt
    obtain ⟨c', hc'⟩ := get_some (e ▸ hlt)
    repeat' (first | refine i_s rfl ?_ | refine sw ?_ | refine ja rfl rfl ?_ | refine jd rfl rfl ?_ | refine c_cond rfl (fun h => ?_) (fun h => ?_))
    · refine e_ret ⟨rfl, _, rfl, congrArg V.bool (decide_eq_false fun e' => ?_)⟩
      subst e'
      rw [hc] at hc'
      cases hc'
      simp at h
    · refine e_for hlt ?_ ft
      have e : c = c' := by simpa using h
      rw [take_succ_get hc, take_succ_get hc', hi, e]
  · have hge : ¬ k < xs.length := by simpa using h
    rw [List.take_of_length_le (by omega), List.take_of_length_le (by omega)] at hi
    repeat' (first | refine i_s rfl ?_ | refine sw ?_ | fail)
    exact e_ret ⟨rfl, _, rfl, congrArg V.bool (decide_eq_true hi)⟩
end Hm
end
section
namespace Hm
open Go
set_option maxRecDepth 100000
set_option maxHeartbeats 4000000
theorem c_frzall {G : Type} {P : Program} {H : HT G} {pn : List Nat} {Q : Exit → Env → Store → G → Prop} {fs : List (Frm G)} {ρ : Env} {σ : Store} {g : G} {t nm gen gen' len : Nat} {rows : List V} (ht : ρ t = .msl nm gen 0 len) (hs : σ nm = .arr gen' rows) (hg : gen = gen') (hl : rows.length = len)
    (h : WE P H pn Q fs .normal (upd ρ t (.sl .p rows)) (ups σ nm .dead) g) : WC P H pn Q fs (.frz t) ρ σ g :=
  c_frza ht hs hg (by rw [List.drop_zero, List.take_of_length_le (by omega)]; exact h)
def c_cmp_isNaN_int : Cmd :=
 (qS [qb 2 false]
 (.seq (.ops [qm 3 0, qm 4 0, qu 5 .neq [.i] 3 4, qm 2 5]) .ret))
def r_cmp_isNaN_int : List RVar := [.tmp 2]
def n_cmp_isNaN_int : Nat := 6
theorem k_cmp_isNaN_int : chkFn Go.Proofs.Tryz.prog 155 n_cmp_isNaN_int r_cmp_isNaN_int c_cmp_isNaN_int = true := by kernel_rfl
theorem f_isNaN_int (a : Int) : Fc Go.Proofs.Tryz.prog 155 [.int .i64 a] (.bool false) := by
  refine Fn.step mixed k_cmp_isNaN_int ?_
  repeat' (first | refine i_s rfl ?_ | refine sw ?_ | fail)
  all_goals first
    | exact e_ret ⟨rfl, _, rfl, congrArg V.bool (by simp)⟩
def c_cmp_Compare_int : Cmd :=
 (qS [qc 4 0]
 (qS [qm 7 0, qk 8 155 [7], qm 5 8]
 (qS [qm 9 1, qk 10 155 [9], qm 6 10]
 (qT (qS [qm 11 5]
 (.cond (.t 11) (qT (qS [qm 12 6]
 (.cond (.t 12) (.seq (.ops [qc 4 0]) .ret) .skip))
 (.seq (.ops [qc 4 (-1)]) .ret)) .skip))
 (qT (qS [qm 13 6]
 (.cond (.t 13) (.seq (.ops [qc 4 1]) .ret) .skip))
 (qT (qS [qm 14 0, qm 15 1, qu 16 .lss [] 14 15]
 (.cond (.t 16) (.seq (.ops [qc 4 (-1)]) .ret) .skip))
 (qT (qS [qm 17 0, qm 18 1, qu 19 .gtr [] 17 18]
 (.cond (.t 19) (.seq (.ops [qc 4 1]) .ret) .skip))
 (.seq (.ops [qc 4 0]) .ret))))))))
def r_cmp_Compare_int : List RVar := [.tmp 4]
def n_cmp_Compare_int : Nat := 20
theorem k_cmp_Compare_int : chkFn Go.Proofs.Tryz.prog 136 n_cmp_Compare_int r_cmp_Compare_int c_cmp_Compare_int = true := by kernel_rfl
theorem f_Compare_int (a b : Int) : Fc Go.Proofs.Tryz.prog 136 [.int .i64 a, .int .i64 b] (.int .i64 (signI a b)) := by
  refine Fn.step mixed k_cmp_Compare_int ?_
  repeat' (first | refine i_s rfl ?_ | refine sw ?_ | refine c_f rfl ?_ | refine c_cond rfl (fun h => ?_) (fun h => ?_) | refine sf rfl rfl (f_isNaN_int a) ?_ | refine sf rfl rfl (f_isNaN_int b) ?_ | fail)
  all_goals first
    | (exfalso; simp at *; done)
    | (refine e_ret ⟨rfl, _, rfl, congrArg (V.int .i64) ?_⟩; unfold signI; simp at *; (repeat' split) <;> omega)
def c_cmp_Or_int : Cmd :=
 (qS [qc 2 0]
 (qS [qc 3 0]
 (qT (qS [qm 6 0, qn 7 6, qc 8 0]
 (.block 0 (.loop (qS [qu 9 .lss [] 8 7]
 (qT (.cond (.t 9) .skip (.exit 0))
 (qT (.block 1 (qS [qi 10 1 6 8, ql 11 1 10, qm 5 11]
 (qS [qm 12 5, qm 13 3, qu 14 .neq [.i] 12 13]
 (.cond (.t 14) (.seq (.ops [qm 15 5, qm 2 15]) .ret) .skip))))
 (.ops [qv 16 .add [] 8 1, qm 8 16])))))))
 (.seq (.ops [qm 17 3, qm 2 17]) .ret))))
def r_cmp_Or_int : List RVar := [.tmp 2]
def n_cmp_Or_int : Nat := 18
theorem k_cmp_Or_int : chkFn Go.Proofs.Tryz.prog 135 n_cmp_Or_int r_cmp_Or_int c_cmp_Or_int = true := by kernel_rfl
theorem f_Or2 (a b : Int) : Fc Go.Proofs.Tryz.prog 135 [.sl .p ([a, b].map i64V)] (.int .i64 (if a ≠ 0 then a else b)) := by
  refine Fn.step mixed k_cmp_Or_int ?_
  repeat' (first | refine i_len rfl ?_ | refine i_s rfl ?_ | refine sw ?_ | fail)
  refine c_for 2 (fun k => [(6, .sl .p ([a, b].map i64V)), (7, .int .i64 2), (3, .int .i64 0), (8, .int .i64 k)]) (fun _ => []) (fun k => 0 < k → a = 0 ∧ (1 < k → b = 0)) (by simp) ft fun k hk hi => ?_
  have ha : ([a, b] : List Int)[0]? = some a := rfl
  have hb : ([a, b] : List Int)[1]? = some b := rfl
  have hk3 : k = 0 ∨ k = 1 ∨ k = 2 := by omega
  rcases hk3 with rfl | rfl | rfl
  · clear hi
    by_cases h0 : a = 0
    · repeat' (first | refine i_s rfl ?_ | refine sw ?_ | refine c_t rfl ?_ | refine ja rfl rfl ?_ | refine jd rfl rfl ?_ | refine c_cond rfl (fun h => ?_) (fun h => ?_))
      all_goals first
        | (exfalso; simp_all; done)
        | (exact e_for (by omega) (fun _ => ⟨h0, fun h => by omega⟩) ft)
    · rw [if_pos h0]
      repeat' (first | refine i_s rfl ?_ | refine sw ?_ | refine c_t rfl ?_ | refine ja rfl rfl ?_ | refine jd rfl rfl ?_ | refine c_cond rfl (fun h => ?_) (fun h => ?_))
      all_goals first
        | exact e_ret ⟨rfl, _, rfl, rfl⟩
        | (exfalso; simp_all; done)
  · obtain ⟨h0, _⟩ := hi (by omega)
    rw [if_neg (by simp [h0])]
    clear hi
    by_cases h1 : b = 0
    · repeat' (first | refine i_s rfl ?_ | refine sw ?_ | refine c_t rfl ?_ | refine ja rfl rfl ?_ | refine jd rfl rfl ?_ | refine c_cond rfl (fun h => ?_) (fun h => ?_))
      all_goals first
        | (exfalso; simp_all; done)
        | (exact e_for (by omega) (fun _ => ⟨h0, fun h => h1⟩) ft)
    · repeat' (first | refine i_s rfl ?_ | refine sw ?_ | refine c_t rfl ?_ | refine ja rfl rfl ?_ | refine jd rfl rfl ?_ | refine c_cond rfl (fun h => ?_) (fun h => ?_))
      all_goals first
        | exact e_ret ⟨rfl, _, rfl, rfl⟩
        | (exfalso; simp_all; done)
  · obtain ⟨h0, h1⟩ := hi (by omega)
    have h1 := h1 (by omega)
    subst h0
    subst h1
    clear hi
    repeat' (first | refine i_s rfl ?_ | refine sw ?_ | refine c_f rfl ?_)
    all_goals first
      | exact e_ret ⟨rfl, _, rfl, rfl⟩
      | (exfalso; simp_all; done)
def c_slices_Compare_int : Cmd :=
 (qS [qc 4 0]
 (qT (qS [qm 9 0, qn 10 9, qc 11 0]
 (.block 0 (.loop (qS [qu 12 .lss [] 11 10]
 (qT (.cond (.t 12) .skip (.exit 0))
 (qT (.block 1 (qS [qm 13 11, qi 14 1 9 11, ql 15 1 14, qm 5 13, qm 6 15]
 (qT (qS [qm 16 5, qm 17 1, qn 18 17, qu 19 .geq [] 16 18]
 (.cond (.t 19) (.seq (.ops [qc 4 1]) .ret) .skip))
 (qS [qm 20 1, qm 21 5, qi 22 1 20 21, ql 23 1 22, qm 7 23]
 (qS [qm 24 6, qm 25 7, qk 26 136 [24, 25], qm 8 26]
 (qS [qm 27 8, qv 28 .neq [.i] 27 0]
 (.cond (.t 28) (.seq (.ops [qm 29 8, qm 4 29]) .ret) .skip)))))))
 (.ops [qv 30 .add [] 11 1, qm 11 30])))))))
 (qT (qS [qm 31 0, qn 32 31, qm 33 1, qn 34 33, qu 35 .lss [] 32 34]
 (.cond (.t 35) (.seq (.ops [qc 4 (-1)]) .ret) .skip))
 (.seq (.ops [qc 4 0]) .ret))))
def r_slices_Compare_int : List RVar := [.tmp 4]
def n_slices_Compare_int : Nat := 36
theorem k_slices_Compare_int : chkFn Go.Proofs.Tryz.prog 137 n_slices_Compare_int r_slices_Compare_int c_slices_Compare_int = true := by kernel_rfl
theorem f_slices_Compare (a b : List Int) (ha : a.length ≤ 140737488355328) (hb : b.length ≤ 140737488355328) : Fc Go.Proofs.Tryz.prog 137 [.sl .p (a.map i64V), .sl .p (b.map i64V)] (.int .i64 (cmpL a b)) := by
  refine Fn.step mixed k_slices_Compare_int ?_
  repeat (first | refine i_len rfl ?_ | refine i_s rfl ?_ | refine sw ?_)
  refine c_for a.length (fun k => [(0, .sl .p (a.map i64V)), (1, .sl .p (b.map i64V)), (9, .sl .p (a.map i64V)), (10, .int .i64 a.length), (11, .int .i64 k)]) (fun _ => []) (fun k => k ≤ b.length ∧ a.take k = b.take k) (by simp) ft fun k hk hi => ?_
  obtain ⟨hkb, hi⟩ := hi
  repeat (first | refine i_s rfl ?_ | refine sw ?_)
  refine c_cond rfl (fun h => ?_) (fun h => ?_)
  · have hlt : k < a.length := by simpa using h
    obtain ⟨x, hx⟩ := get_some hlt
    clear h
    by_cases hk2 : k < b.length
    · obtain ⟨y, hy⟩ := get_some hk2
      by_cases hxy : x = y
      · have hz : signI x y = 0 := signI_zero.2 hxy
        have hs := f_Compare_int x y
        rw [hz] at hs
        repeat' (first | refine i_len rfl ?_ | refine i_s rfl ?_ | refine sw ?_ | refine c_f rfl ?_ | refine ja rfl rfl ?_ | refine jd rfl rfl ?_ | refine c_cond rfl (fun h => ?_) (fun h => ?_) | refine sf rfl rfl hs ?_ | fail)
        all_goals first
          | (exact e_for hlt ⟨hk2, by rw [take_succ_get hx, take_succ_get hy, hi, hxy]⟩ ft)
          | (exfalso; clear hs; simp at *; omega)
      · have hz : signI x y ≠ 0 := fun h => hxy (signI_zero.1 h)
        rw [cmpL_at hi hx hy hxy]
        have hs := f_Compare_int x y
        generalize signI x y = z at *
        repeat' (first | refine i_len rfl ?_ | refine i_s rfl ?_ | refine sw ?_ | refine ja rfl rfl ?_ | refine jd rfl rfl ?_ | refine c_cond rfl (fun h => ?_) (fun h => ?_) | refine sf rfl rfl hs ?_ | fail)
        all_goals first
          | exact e_ret ⟨rfl, _, rfl, rfl⟩
          | (exfalso; clear hs; simp at *; omega)
    · rw [cmpL_end hi (by omega) hkb (.inr (by omega))]
      have hz : signI a.length b.length = 1 := by unfold signI; rw [if_neg (by omega), if_pos (by omega)]
      rw [hz]
      repeat' (first | refine i_len rfl ?_ | refine i_s rfl ?_ | refine sw ?_ | refine jd rfl rfl ?_ | refine c_cond rfl (fun h => ?_) (fun h => ?_))
      all_goals first
        | exact e_ret ⟨rfl, _, rfl, rfl⟩
        | (exfalso; simp at *; omega)
  · have hge : ¬ k < a.length := by simpa using h
    clear h
    rw [cmpL_end hi (by omega) hkb (.inl (by omega))]
    repeat' (first | refine i_len rfl ?_ | refine i_s rfl ?_ | refine sw ?_ | refine c_cond rfl (fun h => ?_) (fun h => ?_))
    all_goals first
      | (refine e_ret ⟨rfl, _, rfl, congrArg (V.int .i64) ?_⟩; unfold signI; simp at *; (repeat' split) <;> omega)
def c_domain_Compare : Cmd :=
 (qS [qx 2 5504130 2 0, qx 3 5504194 2 1, qc 4 0]
 (.seq (.ops [qf 5 0 2, ql 6 1 5, qf 7 0 3, ql 8 1 7, qk 9 136 [6, 8], qf 10 1 2, ql 11 1 10, qf 12 1 3, ql 13 1 12, qk 14 137 [11, 13], qq 15 (.bsl 1 [.t 9, .t 14]), qk 16 135 [15], qm 4 16]) .ret))
def r_domain_Compare : List RVar := [.tmp 4]
def n_domain_Compare : Nat := 17
theorem k_domain_Compare : chkFn Go.Proofs.Tryz.prog 86 n_domain_Compare r_domain_Compare c_domain_Compare = true := by kernel_rfl
theorem f_domain_Compare (a b : At) (ha : AtOk a) (hb : AtOk b) : Fc Go.Proofs.Tryz.prog 86 [atV a, atV b] (.int .i64 (atomOrd a b)) := by
  have h1 := f_Compare_int a.pred b.pred
  have h2 := f_slices_Compare a.args b.args (by have := ha.len; omega) (by have := hb.len; omega)
  have h3 := f_Or2 (signI a.pred b.pred) (cmpL a.args b.args)
  have e : atomOrd a b = if signI a.pred b.pred ≠ 0 then signI a.pred b.pred else cmpL a.args b.args := by
    unfold atomOrd
    by_cases h : a.pred = b.pred
    · rw [if_pos h, if_neg (by simp [signI_zero.2 h])]
    · rw [if_neg h, if_pos (fun e => h (signI_zero.1 e))]
  rw [e]
  refine Fn.step mixed k_domain_Compare ?_
  repeat' (first | refine i_s rfl ?_ | refine sw ?_ | refine i_box rfl rfl ?_ | refine sf rfl rfl h1 ?_ | refine sf rfl rfl h2 ?_ | refine sf rfl rfl h3 ?_ | fail)
  exact e_ret ⟨rfl, _, rfl, rfl⟩
def c_R1_Sign : Cmd :=
 (qS [qc 4 0]
 (qT (qS [qm 5 0, qm 6 1, qu 7 .lss [] 5 6]
 (.cond (.t 7) (.seq (.ops [qc 4 (-1)]) .ret) .skip))
 (qT (qS [qm 8 0, qm 9 1, qu 10 .gtr [] 8 9]
 (.cond (.t 10) (.seq (.ops [qc 4 1]) .ret) .skip))
 (.seq (.ops [qc 4 0]) .ret))))
def r_R1_Sign : List RVar := [.tmp 4]
def n_R1_Sign : Nat := 11
theorem k_R1_Sign : chkFn Go.Proofs.Tryz.prog 158 n_R1_Sign r_R1_Sign c_R1_Sign = true := by kernel_rfl
theorem f_R1_Sign (a b : Int) : Fc Go.Proofs.Tryz.prog 158 [.int .i64 a, .int .i64 b] (.int .i64 (signI a b)) := by
  refine Fn.step mixed k_R1_Sign ?_
  repeat' (first | refine i_s rfl ?_ | refine sw ?_ | refine c_cond rfl (fun h => ?_) (fun h => ?_))
  all_goals first
    | (refine e_ret ⟨rfl, _, rfl, congrArg (V.int .i64) ?_⟩; unfold signI; simp at *; (repeat' split) <;> omega)
def c_R1_AtomOrder : Cmd :=
 (qS [qx 2 8896130 2 0, qx 3 8896194 2 1, qc 4 0]
 (qT (qS [qf 6 0 2, ql 7 1 6, qf 8 0 3, ql 9 1 8, qu 10 .neq [.i] 7 9]
 (.cond (.t 10) (.seq (.ops [qf 11 0 2, ql 12 1 11, qf 13 0 3, ql 14 1 13, qk 15 158 [12, 14], qm 4 15]) .ret) .skip))
 (qT (qS [qc 5 0]
 (.block 0 (.loop (qT (qS [qm 16 5, qf 17 1 2, ql 18 1 17, qn 19 18, qu 20 .lss [] 16 19, qm 21 20, qg 22 21 true (.mov (.t 5)), qg 23 21 true (.faddr 1 (.t 3)), qg 24 21 true (.load false 1 (.t 23)), qg 25 21 true (.len false (.t 24)), qg 26 21 true (.bin .lss false [] (.t 22) (.t 25)), qq 27 (.pick (.t 21) (.t 26) (.c (.bool false)))]
 (.cond (.t 27) .skip (.exit 0)))
 (qT (.block 1 (qS [qf 30 1 2, ql 31 1 30, qm 32 5, qi 33 1 31 32, ql 34 1 33, qf 35 1 3, ql 36 1 35, qm 37 5, qi 38 1 36 37, ql 39 1 38, qu 40 .neq [.i] 34 39]
 (.cond (.t 40) (.seq (.ops [qf 41 1 2, ql 42 1 41, qm 43 5, qi 44 1 42 43, ql 45 1 44, qf 46 1 3, ql 47 1 46, qm 48 5, qi 49 1 47 48, ql 50 1 49, qk 51 158 [45, 50], qm 4 51]) .ret) .skip)))
 (.ops [qm 28 5, qv 29 .add [] 28 1, qm 5 29]))))))
 (.seq (.ops [qf 52 1 2, ql 53 1 52, qn 54 53, qf 55 1 3, ql 56 1 55, qn 57 56, qk 58 158 [54, 57], qm 4 58]) .ret))))
def r_R1_AtomOrder : List RVar := [.tmp 4]
def n_R1_AtomOrder : Nat := 59
theorem k_R1_AtomOrder : chkFn Go.Proofs.Tryz.prog 139 n_R1_AtomOrder r_R1_AtomOrder c_R1_AtomOrder = true := by kernel_rfl
theorem f_R1_AtomOrder (a b : At) (ha : AtOk a) (hb : AtOk b) : Fc Go.Proofs.Tryz.prog 139 [atV a, atV b] (.int .i64 (atomOrd a b)) := by
  have hal := ha.len
  have hbl := hb.len
  by_cases hp : a.pred = b.pred
  · unfold atomOrd
    rw [if_pos hp]
    have hS := f_R1_Sign a.args.length b.args.length
    refine Fn.step mixed k_R1_AtomOrder ?_
    repeat' (first | refine i_s rfl ?_ | refine sw ?_ | refine i_box rfl rfl ?_ | refine c_cond rfl (fun h => ?_) (fun h => ?_))
    all_goals first
      | (exfalso; simp_all; done)
      | skip
    refine c_for (min a.args.length b.args.length) (fun k => [(2, .bptr 8896130 0), (3, .bptr 8896194 0), (5, .int .i64 k)]) (fun _ => [(8896130, .box (atV a)), (8896194, .box (atV b))]) (fun k => a.args.take k = b.args.take k) (by simp) ft fun k hk hi => ?_
    by_cases hlt : k < a.args.length ∧ k < b.args.length
    · obtain ⟨x, hx⟩ := get_some hlt.1
      obtain ⟨y, hy⟩ := get_some hlt.2
      obtain ⟨hl1, hl2⟩ := hlt
      by_cases hxy : x = y
      · clear hS
        repeat' (first | refine i_len rfl ?_ | refine i_s rfl ?_ | refine sw ?_ | refine i_gt rfl ?_ | refine i_gf rfl ?_ | refine c_f rfl ?_ | refine ja rfl rfl ?_ | refine jd rfl rfl ?_ | (refine sp ?_ ?_ <;> try intro h) | fail)
        all_goals first
          | (exact e_for (by omega) (by rw [take_succ_get hx, take_succ_get hy, hi, hxy]) ft)
          | (exfalso; simp at *; omega)
      · rw [cmpL_at hi hx hy hxy]
        have hS2 := f_R1_Sign x y
        repeat' (first | refine i_len rfl ?_ | refine i_s rfl ?_ | refine sw ?_ | refine i_gt rfl ?_ | refine i_gf rfl ?_ | refine c_f rfl ?_ | refine ja rfl rfl ?_ | refine jd rfl rfl ?_ | (refine sp ?_ ?_ <;> try intro h) | refine sf rfl rfl hS2 ?_ | fail)
        all_goals first
          | exact e_ret ⟨rfl, _, rfl, rfl⟩
          | (exfalso; clear hS hS2; simp at *; omega)
    · rw [cmpL_end hi (by omega) (by omega) (by omega)]
      repeat' (first | refine i_len rfl ?_ | refine i_s rfl ?_ | refine sw ?_ | refine i_gt rfl ?_ | refine i_gf rfl ?_ | refine c_f rfl ?_ | (refine sp ?_ ?_ <;> try intro h) | refine sf rfl rfl hS ?_ | fail)
      all_goals first
        | exact e_ret ⟨rfl, _, rfl, rfl⟩
        | (exfalso; clear hS; simp at *; omega)
  · unfold atomOrd
    rw [if_neg hp]
    have hS := f_R1_Sign a.pred b.pred
    refine Fn.step mixed k_R1_AtomOrder ?_
    repeat' (first | refine i_s rfl ?_ | refine sw ?_ | refine i_box rfl rfl ?_ | refine c_cond rfl (fun h => ?_) (fun h => ?_) | refine sf rfl rfl hS ?_ | fail)
    all_goals first
      | exact e_ret ⟨rfl, _, rfl, rfl⟩
      | (exfalso; clear hS; simp_all; done)
def c_R1_SameAtom : Cmd :=
 (qS [qx 2 5632130 2 0, qx 3 5632194 2 1, qb 4 false]
 (.seq (.ops [qL 5 2 2, qL 6 2 3, qk 7 139 [5, 6], qv 8 .eql [.i] 7 0, qm 4 8]) .ret))
def r_R1_SameAtom : List RVar := [.tmp 4]
def n_R1_SameAtom : Nat := 9
theorem k_R1_SameAtom : chkFn Go.Proofs.Tryz.prog 88 n_R1_SameAtom r_R1_SameAtom c_R1_SameAtom = true := by kernel_rfl
theorem f_R1_SameAtom (a b : At) (ha : AtOk a) (hb : AtOk b) : Fc Go.Proofs.Tryz.prog 88 [atV a, atV b] (.bool (decide (a = b))) := by
  have h := f_R1_AtomOrder a b ha hb
  refine Fn.step mixed k_R1_SameAtom ?_
  repeat' (first | refine i_s rfl ?_ | refine sw ?_ | refine i_box rfl rfl ?_ | refine sf rfl rfl h ?_ | fail)
  refine e_ret ⟨rfl, _, rfl, congrArg V.bool ?_⟩
  by_cases e : a = b
  · rw [atomOrd_zero.2 e, decide_eq_true e]; rfl
  · have : atomOrd a b ≠ 0 := fun h => e (atomOrd_zero.1 h)
    rw [decide_eq_false e]
    simpa using this
def c_slices_IndexFunc_int : Cmd :=
 (qS [qc 4 0]
 (qT (qS [qm 6 0, qn 7 6, qc 8 0]
 (.block 0 (.loop (qS [qu 9 .lss [] 8 7]
 (qT (.cond (.t 9) .skip (.exit 0))
 (qT (.block 1 (qS [qm 10 8, qm 5 10]
 (qS [qm 11 1, qm 12 0, qm 13 5, qi 14 1 12 13, ql 15 1 14, qq 16 (.call .f (.t 11) [.t 15])]
 (.cond (.t 16) (.seq (.ops [qm 17 5, qm 4 17]) .ret) .skip))))
 (.ops [qv 18 .add [] 8 1, qm 8 18])))))))
 (.seq (.ops [qc 4 (-1)]) .ret)))
def r_slices_IndexFunc_int : List RVar := [.tmp 4]
def n_slices_IndexFunc_int : Nat := 19
theorem k_slices_IndexFunc_int : chkFn Go.Proofs.Tryz.prog 153 n_slices_IndexFunc_int r_slices_IndexFunc_int c_slices_IndexFunc_int = true := by kernel_rfl
theorem f_IndexFunc_int (l : List (Int)) (p : Int → Bool) (fid : Nat) (caps : List V) (hl : l.length ≤ 140737488355328) (he : ∀ σ n, caps.map (er σ (n + 1)) = caps) (hc : closedL [] caps = true) (hp : ∀ t ∈ l, Fc Go.Proofs.Tryz.prog fid (i64V t :: caps) (.bool (p t))) :
    Fc Go.Proofs.Tryz.prog 153 [.sl .p (l.map i64V), .fn fid caps] (.int .i64 (fidx p l)) := by
  refine Fn.step mixed k_slices_IndexFunc_int ?_
  repeat (first | refine i_len rfl ?_ | refine i_s rfl ?_ | refine sw ?_)
  refine c_for l.length (fun k => [(0, .sl .p (l.map i64V)), (1, .fn fid caps), (7, .int .i64 l.length), (8, .int .i64 k)]) (fun _ => []) (fun k => ∀ j, j < k → ∀ c, l[j]? = some c → p c = false) all_zero ?_ fun k hk hi => ?_
  · exact ⟨⟨rfl, rfl, rfl, rfl, trivial⟩, trivial, by simp [fitB, closedE, closedB, hc, closedSt, hasAll]⟩
  repeat (first | refine i_s rfl ?_ | refine sw ?_)
  refine c_cond rfl (fun h => ?_) (fun h => ?_)
  · have hlt : k < l.length := by simpa using h
    obtain ⟨c, hget⟩ := get_some hlt
    repeat (first | refine i_s rfl ?_ | refine sw ?_ | refine jd rfl rfl ?_)
    refine i_f rfl (congrArg (i64V c :: ·) (he _ 5)) (hp c (mem_get hget)) rfl ?_
    repeat' (first | refine i_s rfl ?_ | refine sw ?_ | refine ja rfl rfl ?_ | refine c_cond rfl (fun h => ?_) (fun h => ?_))
    · refine e_ret ⟨rfl, _, rfl, congrArg (V.int .i64) (fidx_hit hi hget h)⟩
    · refine e_for hlt (all_succ hi fun c' hc' => ?_) ⟨⟨rfl, rfl, rfl, rfl, trivial⟩, trivial, by simp [fitB, closedE, closedB, hc, closedSt, hasAll]⟩
      rw [hget] at hc'; cases hc'; exact h
  · have hge : ¬ k < l.length := by simpa using h
    repeat' (first | refine i_s rfl ?_ | refine sw ?_ | fail)
    refine e_ret ⟨rfl, _, rfl, congrArg (V.int .i64) (fidx_none fun j hj => hi j (by omega))⟩
def c_slices_ContainsFunc_int : Cmd :=
 (qS [qb 4 false]
 (.seq (.ops [qm 5 0, qm 6 1, qk 7 153 [5, 6], qv 8 .geq [] 7 0, qm 4 8]) .ret))
def r_slices_ContainsFunc_int : List RVar := [.tmp 4]
def n_slices_ContainsFunc_int : Nat := 9
theorem k_slices_ContainsFunc_int : chkFn Go.Proofs.Tryz.prog 129 n_slices_ContainsFunc_int r_slices_ContainsFunc_int c_slices_ContainsFunc_int = true := by kernel_rfl
theorem f_ContainsFunc_int (l : List (Int)) (p : Int → Bool) (fid : Nat) (caps : List V) (hl : l.length ≤ 140737488355328) (he : ∀ σ n, caps.map (er σ (n + 1)) = caps) (hc : closedL [] caps = true) (hp : ∀ t ∈ l, Fc Go.Proofs.Tryz.prog fid (i64V t :: caps) (.bool (p t))) :
    Fc Go.Proofs.Tryz.prog 129 [.sl .p (l.map i64V), .fn fid caps] (.bool (l.any p)) := by
  refine Fn.step mixed k_slices_ContainsFunc_int ?_
  repeat (first | refine i_s rfl ?_ | refine sw ?_)
  refine i_f rfl (congrArg (fun x => [V.sl .p (l.map i64V), .fn fid x]) (he _ 4)) (f_IndexFunc_int l p fid caps hl he hc hp) rfl ?_
  repeat' (first | refine i_s rfl ?_ | refine sw ?_ | fail)
  refine e_ret ⟨rfl, _, rfl, congrArg V.bool (fidx_any p l).symm⟩
def c_slices_IndexFunc_Predicate : Cmd :=
 (qS [qc 4 0]
 (qT (qS [qm 6 0, qn 7 6, qc 8 0]
 (.block 0 (.loop (qS [qu 9 .lss [] 8 7]
 (qT (.cond (.t 9) .skip (.exit 0))
 (qT (.block 1 (qS [qm 10 8, qm 5 10]
 (qS [qm 11 1, qm 12 0, qm 13 5, qi 14 2 12 13, qL 15 2 14, qq 16 (.call .f (.t 11) [.t 15])]
 (.cond (.t 16) (.seq (.ops [qm 17 5, qm 4 17]) .ret) .skip))))
 (.ops [qv 18 .add [] 8 1, qm 8 18])))))))
 (.seq (.ops [qc 4 (-1)]) .ret)))
def r_slices_IndexFunc_Predicate : List RVar := [.tmp 4]
def n_slices_IndexFunc_Predicate : Nat := 19
theorem k_slices_IndexFunc_Predicate : chkFn Go.Proofs.Tryz.prog 128 n_slices_IndexFunc_Predicate r_slices_IndexFunc_Predicate c_slices_IndexFunc_Predicate = true := by kernel_rfl
theorem f_IndexFunc_Predicate (l : List (Prd)) (p : Prd → Bool) (fid : Nat) (caps : List V) (hl : l.length ≤ 140737488355328) (he : ∀ σ n, caps.map (er σ (n + 1)) = caps) (hc : closedL [] caps = true) (hp : ∀ t ∈ l, Fc Go.Proofs.Tryz.prog fid (prdV t :: caps) (.bool (p t))) :
    Fc Go.Proofs.Tryz.prog 128 [.sl .p (l.map prdV), .fn fid caps] (.int .i64 (fidx p l)) := by
  refine Fn.step mixed k_slices_IndexFunc_Predicate ?_
  repeat (first | refine i_len rfl ?_ | refine i_s rfl ?_ | refine sw ?_)
  refine c_for l.length (fun k => [(0, .sl .p (l.map prdV)), (1, .fn fid caps), (7, .int .i64 l.length), (8, .int .i64 k)]) (fun _ => []) (fun k => ∀ j, j < k → ∀ c, l[j]? = some c → p c = false) all_zero ?_ fun k hk hi => ?_
  · exact ⟨⟨rfl, rfl, rfl, rfl, trivial⟩, trivial, by simp [fitB, closedE, closedB, hc, closedSt, hasAll]⟩
  repeat (first | refine i_s rfl ?_ | refine sw ?_)
  refine c_cond rfl (fun h => ?_) (fun h => ?_)
  · have hlt : k < l.length := by simpa using h
    obtain ⟨c, hget⟩ := get_some hlt
    repeat (first | refine i_s rfl ?_ | refine sw ?_ | refine jd rfl rfl ?_)
    refine i_f rfl (congrArg (prdV c :: ·) (he _ 5)) (hp c (mem_get hget)) rfl ?_
    repeat' (first | refine i_s rfl ?_ | refine sw ?_ | refine ja rfl rfl ?_ | refine c_cond rfl (fun h => ?_) (fun h => ?_))
    · refine e_ret ⟨rfl, _, rfl, congrArg (V.int .i64) (fidx_hit hi hget h)⟩
    · refine e_for hlt (all_succ hi fun c' hc' => ?_) ⟨⟨rfl, rfl, rfl, rfl, trivial⟩, trivial, by simp [fitB, closedE, closedB, hc, closedSt, hasAll]⟩
      rw [hget] at hc'; cases hc'; exact h
  · have hge : ¬ k < l.length := by simpa using h
    repeat' (first | refine i_s rfl ?_ | refine sw ?_ | fail)
    refine e_ret ⟨rfl, _, rfl, congrArg (V.int .i64) (fidx_none fun j hj => hi j (by omega))⟩
def c_slices_ContainsFunc_Predicate : Cmd :=
 (qS [qb 4 false]
 (.seq (.ops [qm 5 0, qm 6 1, qk 7 128 [5, 6], qv 8 .geq [] 7 0, qm 4 8]) .ret))
def r_slices_ContainsFunc_Predicate : List RVar := [.tmp 4]
def n_slices_ContainsFunc_Predicate : Nat := 9
theorem k_slices_ContainsFunc_Predicate : chkFn Go.Proofs.Tryz.prog 76 n_slices_ContainsFunc_Predicate r_slices_ContainsFunc_Predicate c_slices_ContainsFunc_Predicate = true := by kernel_rfl
theorem f_ContainsFunc_Predicate (l : List (Prd)) (p : Prd → Bool) (fid : Nat) (caps : List V) (hl : l.length ≤ 140737488355328) (he : ∀ σ n, caps.map (er σ (n + 1)) = caps) (hc : closedL [] caps = true) (hp : ∀ t ∈ l, Fc Go.Proofs.Tryz.prog fid (prdV t :: caps) (.bool (p t))) :
    Fc Go.Proofs.Tryz.prog 76 [.sl .p (l.map prdV), .fn fid caps] (.bool (l.any p)) := by
  refine Fn.step mixed k_slices_ContainsFunc_Predicate ?_
  repeat (first | refine i_s rfl ?_ | refine sw ?_)
  refine i_f rfl (congrArg (fun x => [V.sl .p (l.map prdV), .fn fid x]) (he _ 4)) (f_IndexFunc_Predicate l p fid caps hl he hc hp) rfl ?_
  repeat' (first | refine i_s rfl ?_ | refine sw ?_ | fail)
  refine e_ret ⟨rfl, _, rfl, congrArg V.bool (fidx_any p l).symm⟩
def c_slices_IndexFunc_Schema : Cmd :=
 (qS [qc 4 0]
 (qT (qS [qm 6 0, qn 7 6, qc 8 0]
 (.block 0 (.loop (qS [qu 9 .lss [] 8 7]
 (qT (.cond (.t 9) .skip (.exit 0))
 (qT (.block 1 (qS [qm 10 8, qm 5 10]
 (qS [qm 11 1, qm 12 0, qm 13 5, qi 14 7 12 13, qL 15 7 14, qq 16 (.call .f (.t 11) [.t 15])]
 (.cond (.t 16) (.seq (.ops [qm 17 5, qm 4 17]) .ret) .skip))))
 (.ops [qv 18 .add [] 8 1, qm 8 18])))))))
 (.seq (.ops [qc 4 (-1)]) .ret)))
def r_slices_IndexFunc_Schema : List RVar := [.tmp 4]
def n_slices_IndexFunc_Schema : Nat := 19
theorem k_slices_IndexFunc_Schema : chkFn Go.Proofs.Tryz.prog 131 n_slices_IndexFunc_Schema r_slices_IndexFunc_Schema c_slices_IndexFunc_Schema = true := by kernel_rfl
theorem f_IndexFunc_Schema (l : List (Sch)) (p : Sch → Bool) (fid : Nat) (caps : List V) (hl : l.length ≤ 140737488355328) (he : ∀ σ n, caps.map (er σ (n + 1)) = caps) (hc : closedL [] caps = true) (hp : ∀ t ∈ l, Fc Go.Proofs.Tryz.prog fid (schV t :: caps) (.bool (p t))) :
    Fc Go.Proofs.Tryz.prog 131 [.sl .p (l.map schV), .fn fid caps] (.int .i64 (fidx p l)) := by
  refine Fn.step mixed k_slices_IndexFunc_Schema ?_
  repeat (first | refine i_len rfl ?_ | refine i_s rfl ?_ | refine sw ?_)
  refine c_for l.length (fun k => [(0, .sl .p (l.map schV)), (1, .fn fid caps), (7, .int .i64 l.length), (8, .int .i64 k)]) (fun _ => []) (fun k => ∀ j, j < k → ∀ c, l[j]? = some c → p c = false) all_zero ?_ fun k hk hi => ?_
  · exact ⟨⟨rfl, rfl, rfl, rfl, trivial⟩, trivial, by simp [fitB, closedE, closedB, hc, closedSt, hasAll]⟩
  repeat (first | refine i_s rfl ?_ | refine sw ?_)
  refine c_cond rfl (fun h => ?_) (fun h => ?_)
  · have hlt : k < l.length := by simpa using h
    obtain ⟨c, hget⟩ := get_some hlt
    repeat (first | refine i_s rfl ?_ | refine sw ?_ | refine jd rfl rfl ?_)
    refine i_f rfl (congrArg (schV c :: ·) (he _ 5)) (hp c (mem_get hget)) rfl ?_
    repeat' (first | refine i_s rfl ?_ | refine sw ?_ | refine ja rfl rfl ?_ | refine c_cond rfl (fun h => ?_) (fun h => ?_))
    · refine e_ret ⟨rfl, _, rfl, congrArg (V.int .i64) (fidx_hit hi hget h)⟩
    · refine e_for hlt (all_succ hi fun c' hc' => ?_) ⟨⟨rfl, rfl, rfl, rfl, trivial⟩, trivial, by simp [fitB, closedE, closedB, hc, closedSt, hasAll]⟩
      rw [hget] at hc'; cases hc'; exact h
  · have hge : ¬ k < l.length := by simpa using h
    repeat' (first | refine i_s rfl ?_ | refine sw ?_ | fail)
    refine e_ret ⟨rfl, _, rfl, congrArg (V.int .i64) (fidx_none fun j hj => hi j (by omega))⟩
def c_slices_ContainsFunc_Schema : Cmd :=
 (qS [qb 4 false]
 (.seq (.ops [qm 5 0, qm 6 1, qk 7 131 [5, 6], qv 8 .geq [] 7 0, qm 4 8]) .ret))
def r_slices_ContainsFunc_Schema : List RVar := [.tmp 4]
def n_slices_ContainsFunc_Schema : Nat := 9
theorem k_slices_ContainsFunc_Schema : chkFn Go.Proofs.Tryz.prog 79 n_slices_ContainsFunc_Schema r_slices_ContainsFunc_Schema c_slices_ContainsFunc_Schema = true := by kernel_rfl
theorem f_ContainsFunc_Schema (l : List (Sch)) (p : Sch → Bool) (fid : Nat) (caps : List V) (hl : l.length ≤ 140737488355328) (he : ∀ σ n, caps.map (er σ (n + 1)) = caps) (hc : closedL [] caps = true) (hp : ∀ t ∈ l, Fc Go.Proofs.Tryz.prog fid (schV t :: caps) (.bool (p t))) :
    Fc Go.Proofs.Tryz.prog 79 [.sl .p (l.map schV), .fn fid caps] (.bool (l.any p)) := by
  refine Fn.step mixed k_slices_ContainsFunc_Schema ?_
  repeat (first | refine i_s rfl ?_ | refine sw ?_)
  refine i_f rfl (congrArg (fun x => [V.sl .p (l.map schV), .fn fid x]) (he _ 4)) (f_IndexFunc_Schema l p fid caps hl he hc hp) rfl ?_
  repeat' (first | refine i_s rfl ?_ | refine sw ?_ | fail)
  refine e_ret ⟨rfl, _, rfl, congrArg V.bool (fidx_any p l).symm⟩
def c_slices_IndexFunc_2_int : Cmd :=
 (qS [qc 4 0]
 (qT (qS [qm 6 0, qn 7 6, qc 8 0]
 (.block 0 (.loop (qS [qu 9 .lss [] 8 7]
 (qT (.cond (.t 9) .skip (.exit 0))
 (qT (.block 1 (qS [qm 10 8, qm 5 10]
 (qS [qm 11 1, qm 12 0, qm 13 5, qi 14 2 12 13, qL 15 2 14, qq 16 (.call .f (.t 11) [.t 15])]
 (.cond (.t 16) (.seq (.ops [qm 17 5, qm 4 17]) .ret) .skip))))
 (.ops [qv 18 .add [] 8 1, qm 8 18])))))))
 (.seq (.ops [qc 4 (-1)]) .ret)))
def r_slices_IndexFunc_2_int : List RVar := [.tmp 4]
def n_slices_IndexFunc_2_int : Nat := 19
theorem k_slices_IndexFunc_2_int : chkFn Go.Proofs.Tryz.prog 132 n_slices_IndexFunc_2_int r_slices_IndexFunc_2_int c_slices_IndexFunc_2_int = true := by kernel_rfl
theorem f_IndexFunc_2_int (l : List (Int × Int)) (p : (Int × Int) → Bool) (fid : Nat) (caps : List V) (hl : l.length ≤ 140737488355328) (he : ∀ σ n, caps.map (er σ (n + 1)) = caps) (hc : closedL [] caps = true) (hp : ∀ t ∈ l, Fc Go.Proofs.Tryz.prog fid (pairV t :: caps) (.bool (p t))) :
    Fc Go.Proofs.Tryz.prog 132 [.sl .p (l.map pairV), .fn fid caps] (.int .i64 (fidx p l)) := by
  refine Fn.step mixed k_slices_IndexFunc_2_int ?_
  repeat (first | refine i_len rfl ?_ | refine i_s rfl ?_ | refine sw ?_)
  refine c_for l.length (fun k => [(0, .sl .p (l.map pairV)), (1, .fn fid caps), (7, .int .i64 l.length), (8, .int .i64 k)]) (fun _ => []) (fun k => ∀ j, j < k → ∀ c, l[j]? = some c → p c = false) all_zero ?_ fun k hk hi => ?_
  · exact ⟨⟨rfl, rfl, rfl, rfl, trivial⟩, trivial, by simp [fitB, closedE, closedB, hc, closedSt, hasAll]⟩
  repeat (first | refine i_s rfl ?_ | refine sw ?_)
  refine c_cond rfl (fun h => ?_) (fun h => ?_)
  · have hlt : k < l.length := by simpa using h
    obtain ⟨c, hget⟩ := get_some hlt
    repeat (first | refine i_s rfl ?_ | refine sw ?_ | refine jd rfl rfl ?_)
    refine i_f rfl (congrArg (pairV c :: ·) (he _ 5)) (hp c (mem_get hget)) rfl ?_
    repeat' (first | refine i_s rfl ?_ | refine sw ?_ | refine ja rfl rfl ?_ | refine c_cond rfl (fun h => ?_) (fun h => ?_))
    · refine e_ret ⟨rfl, _, rfl, congrArg (V.int .i64) (fidx_hit hi hget h)⟩
    · refine e_for hlt (all_succ hi fun c' hc' => ?_) ⟨⟨rfl, rfl, rfl, rfl, trivial⟩, trivial, by simp [fitB, closedE, closedB, hc, closedSt, hasAll]⟩
      rw [hget] at hc'; cases hc'; exact h
  · have hge : ¬ k < l.length := by simpa using h
    repeat' (first | refine i_s rfl ?_ | refine sw ?_ | fail)
    refine e_ret ⟨rfl, _, rfl, congrArg (V.int .i64) (fidx_none fun j hj => hi j (by omega))⟩
def c_slices_ContainsFunc_2_int : Cmd :=
 (qS [qb 4 false]
 (.seq (.ops [qm 5 0, qm 6 1, qk 7 132 [5, 6], qv 8 .geq [] 7 0, qm 4 8]) .ret))
def r_slices_ContainsFunc_2_int : List RVar := [.tmp 4]
def n_slices_ContainsFunc_2_int : Nat := 9
theorem k_slices_ContainsFunc_2_int : chkFn Go.Proofs.Tryz.prog 82 n_slices_ContainsFunc_2_int r_slices_ContainsFunc_2_int c_slices_ContainsFunc_2_int = true := by kernel_rfl
theorem f_ContainsFunc_2_int (l : List (Int × Int)) (p : (Int × Int) → Bool) (fid : Nat) (caps : List V) (hl : l.length ≤ 140737488355328) (he : ∀ σ n, caps.map (er σ (n + 1)) = caps) (hc : closedL [] caps = true) (hp : ∀ t ∈ l, Fc Go.Proofs.Tryz.prog fid (pairV t :: caps) (.bool (p t))) :
    Fc Go.Proofs.Tryz.prog 82 [.sl .p (l.map pairV), .fn fid caps] (.bool (l.any p)) := by
  refine Fn.step mixed k_slices_ContainsFunc_2_int ?_
  repeat (first | refine i_s rfl ?_ | refine sw ?_)
  refine i_f rfl (congrArg (fun x => [V.sl .p (l.map pairV), .fn fid x]) (he _ 4)) (f_IndexFunc_2_int l p fid caps hl he hc hp) rfl ?_
  repeat' (first | refine i_s rfl ?_ | refine sw ?_ | fail)
  refine e_ret ⟨rfl, _, rfl, congrArg V.bool (fidx_any p l).symm⟩
def c_slices_IndexFunc_Atom : Cmd :=
 (qS [qc 4 0]
 (qT (qS [qm 6 0, qn 7 6, qc 8 0]
 (.block 0 (.loop (qS [qu 9 .lss [] 8 7]
 (qT (.cond (.t 9) .skip (.exit 0))
 (qT (.block 1 (qS [qm 10 8, qm 5 10]
 (qS [qm 11 1, qm 12 0, qm 13 5, qi 14 2 12 13, qL 15 2 14, qq 16 (.call .f (.t 11) [.t 15])]
 (.cond (.t 16) (.seq (.ops [qm 17 5, qm 4 17]) .ret) .skip))))
 (.ops [qv 18 .add [] 8 1, qm 8 18])))))))
 (.seq (.ops [qc 4 (-1)]) .ret)))
def r_slices_IndexFunc_Atom : List RVar := [.tmp 4]
def n_slices_IndexFunc_Atom : Nat := 19
theorem k_slices_IndexFunc_Atom : chkFn Go.Proofs.Tryz.prog 134 n_slices_IndexFunc_Atom r_slices_IndexFunc_Atom c_slices_IndexFunc_Atom = true := by kernel_rfl
theorem f_IndexFunc_Atom (l : List (At)) (p : At → Bool) (fid : Nat) (caps : List V) (hl : l.length ≤ 140737488355328) (he : ∀ σ n, caps.map (er σ (n + 1)) = caps) (hc : closedL [] caps = true) (hp : ∀ t ∈ l, Fc Go.Proofs.Tryz.prog fid (atV t :: caps) (.bool (p t))) :
    Fc Go.Proofs.Tryz.prog 134 [.sl .p (l.map atV), .fn fid caps] (.int .i64 (fidx p l)) := by
  refine Fn.step mixed k_slices_IndexFunc_Atom ?_
  repeat (first | refine i_len rfl ?_ | refine i_s rfl ?_ | refine sw ?_)
  refine c_for l.length (fun k => [(0, .sl .p (l.map atV)), (1, .fn fid caps), (7, .int .i64 l.length), (8, .int .i64 k)]) (fun _ => []) (fun k => ∀ j, j < k → ∀ c, l[j]? = some c → p c = false) all_zero ?_ fun k hk hi => ?_
  · exact ⟨⟨rfl, rfl, rfl, rfl, trivial⟩, trivial, by simp [fitB, closedE, closedB, hc, closedSt, hasAll]⟩
  repeat (first | refine i_s rfl ?_ | refine sw ?_)
  refine c_cond rfl (fun h => ?_) (fun h => ?_)
  · have hlt : k < l.length := by simpa using h
    obtain ⟨c, hget⟩ := get_some hlt
    repeat (first | refine i_s rfl ?_ | refine sw ?_ | refine jd rfl rfl ?_)
    refine i_f rfl (congrArg (atV c :: ·) (he _ 5)) (hp c (mem_get hget)) rfl ?_
    repeat' (first | refine i_s rfl ?_ | refine sw ?_ | refine ja rfl rfl ?_ | refine c_cond rfl (fun h => ?_) (fun h => ?_))
    · refine e_ret ⟨rfl, _, rfl, congrArg (V.int .i64) (fidx_hit hi hget h)⟩
    · refine e_for hlt (all_succ hi fun c' hc' => ?_) ⟨⟨rfl, rfl, rfl, rfl, trivial⟩, trivial, by simp [fitB, closedE, closedB, hc, closedSt, hasAll]⟩
      rw [hget] at hc'; cases hc'; exact h
  · have hge : ¬ k < l.length := by simpa using h
    repeat' (first | refine i_s rfl ?_ | refine sw ?_ | fail)
    refine e_ret ⟨rfl, _, rfl, congrArg (V.int .i64) (fidx_none fun j hj => hi j (by omega))⟩
def c_slices_ContainsFunc_Atom : Cmd :=
 (qS [qb 4 false]
 (.seq (.ops [qm 5 0, qm 6 1, qk 7 134 [5, 6], qv 8 .geq [] 7 0, qm 4 8]) .ret))
def r_slices_ContainsFunc_Atom : List RVar := [.tmp 4]
def n_slices_ContainsFunc_Atom : Nat := 9
theorem k_slices_ContainsFunc_Atom : chkFn Go.Proofs.Tryz.prog 84 n_slices_ContainsFunc_Atom r_slices_ContainsFunc_Atom c_slices_ContainsFunc_Atom = true := by kernel_rfl
theorem f_ContainsFunc_Atom (l : List (At)) (p : At → Bool) (fid : Nat) (caps : List V) (hl : l.length ≤ 140737488355328) (he : ∀ σ n, caps.map (er σ (n + 1)) = caps) (hc : closedL [] caps = true) (hp : ∀ t ∈ l, Fc Go.Proofs.Tryz.prog fid (atV t :: caps) (.bool (p t))) :
    Fc Go.Proofs.Tryz.prog 84 [.sl .p (l.map atV), .fn fid caps] (.bool (l.any p)) := by
  refine Fn.step mixed k_slices_ContainsFunc_Atom ?_
  repeat (first | refine i_s rfl ?_ | refine sw ?_)
  refine i_f rfl (congrArg (fun x => [V.sl .p (l.map atV), .fn fid x]) (he _ 4)) (f_IndexFunc_Atom l p fid caps hl he hc hp) rfl ?_
  repeat' (first | refine i_s rfl ?_ | refine sw ?_ | fail)
  refine e_ret ⟨rfl, _, rfl, congrArg V.bool (fidx_any p l).symm⟩
end Hm
end
section
namespace Hm
open Go
set_option maxRecDepth 100000
set_option maxHeartbeats 1000000
def c_types_IsName : Cmd :=
 (qS [qb 2 false]
 (qT (qS [qm 5 0, qq 6 (.len true (.t 5)), qc 7 0]
 (.block 0 (.loop (qS [qu 8 .lss [] 7 6]
 (qT (.cond (.t 8) .skip (.exit 0))
 (qT (.block 1 (qS [qm 9 7, qm 3 9]
 (qS [qm 10 0, qm 11 3, qq 12 (.index (.t 10) (.t 11)), qm 4 12]
 (qS [qm 13 4, qq 14 (.bin .geq false [] (.t 13) (.c (.int .u8 97))), qm 15 14, qg 16 15 true (.mov (.t 4)), qg 17 15 true (.bin .leq false [] (.t 16) (.c (.int .u8 122))), qq 18 (.pick (.t 15) (.t 17) (.c (.bool false))), qm 19 18, qg 20 19 false (.mov (.t 3)), qg 21 19 false (.bin .gtr false [] (.t 20) (.c (.int .i64 0))), qg 22 19 false (.mov (.t 21)), qg 23 22 true (.mov (.t 4)), qg 24 22 true (.bin .geq false [] (.t 23) (.c (.int .u8 48))), qg 25 22 true (.mov (.t 24)), qg 26 25 true (.mov (.t 4)), qg 27 25 true (.bin .leq false [] (.t 26) (.c (.int .u8 57))), qg 28 22 true (.pick (.t 25) (.t 27) (.c (.bool false))), qg 29 22 true (.mov (.t 28)), qg 30 29 false (.mov (.t 4)), qg 31 29 false (.bin .eql false [.i] (.t 30) (.c (.int .u8 45))), qg 32 22 true (.pick (.t 29) (.c (.bool true)) (.t 31)), qg 33 19 false (.pick (.t 22) (.t 32) (.c (.bool false))), qq 34 (.pick (.t 19) (.c (.bool true)) (.t 33)), qq 35 (.not (.t 34))]
 (.cond (.t 35) (.seq (.ops [qb 2 false]) .ret) .skip)))))
 (.ops [qv 36 .add [] 7 1, qm 7 36])))))))
 (.seq (.ops [qm 37 0, qq 38 (.len true (.t 37)), qv 39 .geq [] 38 1, qm 40 39, qg 41 40 true (.mov (.t 0)), qg 42 40 true (.len true (.t 41)), qg 43 40 true (.bin .leq false [] (.t 42) (.c (.int .i64 12))), qq 44 (.pick (.t 40) (.t 43) (.c (.bool false))), qm 2 44]) .ret)))
def r_types_IsName : List RVar := [.tmp 2]
def n_types_IsName : Nat := 45
theorem k_types_IsName : chkFn Go.Proofs.Tryz.prog 71 n_types_IsName r_types_IsName c_types_IsName = true := by kernel_rfl
theorem f_types_IsName (s : List UInt8) (hl : s.length ≤ 140737488355328) : Fc Go.Proofs.Tryz.prog 71 [.str s] (.bool (nameB s)) := by
  refine Fn.step mixed k_types_IsName ?_
  repeat (first | refine i_s rfl ?_ | refine sw ?_)
  refine c_for s.length (fun k => [(0, .str s), (6, .int .i64 s.length), (7, .int .i64 k)]) (fun _ => []) (fun k => ∀ j, j < k → ∀ c, s[j]? = some c → nameAt j c = true) all_zero ft fun k hk hi => ?_
  repeat (first | refine i_s rfl ?_ | refine sw ?_)
  refine c_cond rfl (fun h => ?_) (fun h => ?_)
  · have hlt : k < s.length := by simpa using h
    obtain ⟨c, hc⟩ := get_some hlt
    have next : nameAt k c = true → ∀ j, j < k + 1 → ∀ c, s[j]? = some c → nameAt j c = true := fun hn => all_succ hi fun c' hc' => by
      rw [hc] at hc'; injection hc' with hc'; rw [← hc']; exact hn
    have bad : nameAt k c = false → V.bool (nameB s) = V.bool false := fun hn => by simp [nameB, namesFrom_false hc hn]
    clear hi h
    repeat' (first | refine i_s rfl ?_ | refine sw ?_ | refine i_gt rfl ?_ | refine i_gf rfl ?_ | refine i_gd rfl ?_ | refine c_t rfl ?_ | refine c_f rfl ?_ | refine ja rfl rfl ?_ | refine jf rfl rfl ?_ | (refine sp ?_ ?_ <;> try intro h) | fail)
    all_goals first
      | refine e_for hlt (next (by simp [nameAt] at *; omega)) ft
      | refine e_ret ⟨rfl, _, rfl, bad (by simp [nameAt] at *; omega)⟩
  · have hge : ¬ k < s.length := by simpa using h
    have hall := namesFrom_take s k hi (by omega)
    clear hi
    repeat' (first | refine i_s rfl ?_ | refine sw ?_ | refine i_gt rfl ?_ | refine i_gf rfl ?_ | refine i_g rfl (fun h => ?_) (fun h => ?_))
    all_goals refine e_ret ⟨rfl, _, rfl, congrArg V.bool ?_⟩
    · have h' := of_decide_eq_true h
      have e : decide (1 ≤ s.length) = true := decide_eq_true (by omega)
      simp only [nameB, hall, e, Bool.true_and]
      exact decide_eq_decide.2 (by omega)
    · have h' := of_decide_eq_false h
      have : decide (1 ≤ s.length) = false := decide_eq_false (by omega)
      simp [nameB, this]
def c_slices_IndexFunc_Type : Cmd :=
 (qS [qc 4 0]
 (qT (qS [qm 6 0, qn 7 6, qc 8 0]
 (.block 0 (.loop (qS [qu 9 .lss [] 8 7]
 (qT (.cond (.t 9) .skip (.exit 0))
 (qT (.block 1 (qS [qm 10 8, qm 5 10]
 (qS [qm 11 1, qm 12 0, qm 13 5, qi 14 2 12 13, qL 15 2 14, qq 16 (.call .f (.t 11) [.t 15])]
 (.cond (.t 16) (.seq (.ops [qm 17 5, qm 4 17]) .ret) .skip))))
 (.ops [qv 18 .add [] 8 1, qm 8 18])))))))
 (.seq (.ops [qc 4 (-1)]) .ret)))
def r_slices_IndexFunc_Type : List RVar := [.tmp 4]
def n_slices_IndexFunc_Type : Nat := 19
theorem k_slices_IndexFunc_Type : chkFn Go.Proofs.Tryz.prog 126 n_slices_IndexFunc_Type r_slices_IndexFunc_Type c_slices_IndexFunc_Type = true := by kernel_rfl
theorem f_IndexFunc_Type (l : List Typ) (p : Typ → Bool) (fid : Nat) (caps : List V) (hl : l.length ≤ 140737488355328) (he : ∀ σ n, caps.map (er σ (n + 1)) = caps) (hc : closedL [] caps = true) (hp : ∀ t ∈ l, Fc Go.Proofs.Tryz.prog fid (tyV t :: caps) (.bool (p t))) :
    Fc Go.Proofs.Tryz.prog 126 [.sl .p (l.map tyV), .fn fid caps] (.int .i64 (fidx p l)) := by
  refine Fn.step mixed k_slices_IndexFunc_Type ?_
  repeat (first | refine i_len rfl ?_ | refine i_s rfl ?_ | refine sw ?_)
  refine c_for l.length (fun k => [(0, .sl .p (l.map tyV)), (1, .fn fid caps), (7, .int .i64 l.length), (8, .int .i64 k)]) (fun _ => []) (fun k => ∀ j, j < k → ∀ c, l[j]? = some c → p c = false) all_zero ?_ fun k hk hi => ?_
  · exact ⟨⟨rfl, rfl, rfl, rfl, trivial⟩, trivial, by simp [fitB, closedE, closedB, hc, closedSt, hasAll]⟩
  repeat (first | refine i_s rfl ?_ | refine sw ?_)
  refine c_cond rfl (fun h => ?_) (fun h => ?_)
  · have hlt : k < l.length := by simpa using h
    obtain ⟨c, hget⟩ := get_some hlt
    repeat (first | refine i_s rfl ?_ | refine sw ?_ | refine jd rfl rfl ?_)
    refine i_f rfl (congrArg (tyV c :: ·) (he _ 5)) (hp c (mem_get hget)) rfl ?_
    repeat' (first | refine i_s rfl ?_ | refine sw ?_ | refine ja rfl rfl ?_ | refine c_cond rfl (fun h => ?_) (fun h => ?_))
    · refine e_ret ⟨rfl, _, rfl, congrArg (V.int .i64) (fidx_hit hi hget h)⟩
    · refine e_for hlt (all_succ hi fun c' hc' => ?_) ⟨⟨rfl, rfl, rfl, rfl, trivial⟩, trivial, by simp [fitB, closedE, closedB, hc, closedSt, hasAll]⟩
      rw [hget] at hc'; cases hc'; exact h
  · have hge : ¬ k < l.length := by simpa using h
    repeat' (first | refine i_s rfl ?_ | refine sw ?_ | fail)
    refine e_ret ⟨rfl, _, rfl, congrArg (V.int .i64) (fidx_none fun j hj => hi j (by omega))⟩
def c_slices_ContainsFunc_Type : Cmd :=
 (qS [qb 4 false]
 (.seq (.ops [qm 5 0, qm 6 1, qk 7 126 [5, 6], qv 8 .geq [] 7 0, qm 4 8]) .ret))
def r_slices_ContainsFunc_Type : List RVar := [.tmp 4]
def n_slices_ContainsFunc_Type : Nat := 9
theorem k_slices_ContainsFunc_Type : chkFn Go.Proofs.Tryz.prog 72 n_slices_ContainsFunc_Type r_slices_ContainsFunc_Type c_slices_ContainsFunc_Type = true := by kernel_rfl
theorem f_ContainsFunc_Type (l : List Typ) (p : Typ → Bool) (fid : Nat) (caps : List V) (hl : l.length ≤ 140737488355328) (he : ∀ σ n, caps.map (er σ (n + 1)) = caps) (hc : closedL [] caps = true) (hp : ∀ t ∈ l, Fc Go.Proofs.Tryz.prog fid (tyV t :: caps) (.bool (p t))) :
    Fc Go.Proofs.Tryz.prog 72 [.sl .p (l.map tyV), .fn fid caps] (.bool (l.any p)) := by
  refine Fn.step mixed k_slices_ContainsFunc_Type ?_
  repeat (first | refine i_s rfl ?_ | refine sw ?_)
  refine i_f rfl (congrArg (fun x => [V.sl .p (l.map tyV), .fn fid x]) (he _ 4)) (f_IndexFunc_Type l p fid caps hl he hc hp) rfl ?_
  repeat' (first | refine i_s rfl ?_ | refine sw ?_ | fail)
  refine e_ret ⟨rfl, _, rfl, congrArg V.bool (fidx_any p l).symm⟩
def TyOk (l : List Typ) : Prop := l.length ≤ 140737488355328 ∧ ∀ t ∈ l, t.name.length ≤ 140737488355328
def c_types_Validate_1 : Cmd :=
 (qS [qx 2 4672130 2 0, qb 3 false]
 (.seq (.ops [qf 4 0 2, ql 5 1 4, qf 6 0 1, ql 7 1 6, qu 8 .eql [.s] 5 7, qm 3 8]) .ret))
def r_types_Validate_1 : List RVar := [.tmp 3]
def n_types_Validate_1 : Nat := 9
theorem k_types_Validate_1 : chkFn Go.Proofs.Tryz.prog 73 n_types_Validate_1 r_types_Validate_1 c_types_Validate_1 = true := by kernel_rfl
theorem f_types_Validate_1 (u t : Typ) : Fc Go.Proofs.Tryz.prog 73 [tyV u, .cptr .p (tyV t) 0] (.bool (u.name == t.name)) := by
  refine Fn.step mixed k_types_Validate_1 ?_
  repeat' (first | refine i_s rfl ?_ | refine sw ?_ | refine i_box rfl rfl ?_)
  exact e_ret ⟨rfl, _, rfl, rfl⟩
theorem typesFault_big {l : List Typ} (h : 8 < l.length) : typesFault l = ⟨2, -1⟩ := by unfold typesFault; rw [if_pos h]
theorem typesFault_hit {l : List Typ} (h : ¬ 8 < l.length) {k : Nat} {f : Flt} (hi : ∀ j, j < k → tyBad l j = none) (hk : k < l.length) (hf : tyBad l k = some f) : typesFault l = f := by
  unfold typesFault; rw [if_neg h, scan0_hit hi hk hf]; rfl
theorem typesFault_ok {l : List Typ} (h : ¬ 8 < l.length) (hi : ∀ j, j < l.length → tyBad l j = none) : typesFault l = okF := by
  unfold typesFault; rw [if_neg h, scan0_none hi]; rfl
def c_types_Validate : Cmd :=
 (qS [qq 2 (.alloc 1472130 (.agg [.int .i64 0, .int .i64 0]))]
 (qT (qS [qm 5 0, qn 6 5, qv 7 .gtr [] 6 8]
 (.cond (.t 7) (.seq (.ops [qq 8 (.build [.int .i64 0, .int .i64 0] [(0 , 1 , .c (.int .i64 2)), (1 , 1 , .c (.int .i64 (-1)))]), qs 2 2 8]) .ret) .skip))
 (qT (qS [qm 9 0, qn 10 9, qc 11 0]
 (.block 0 (.loop (qS [qu 12 .lss [] 11 10]
 (qT (.cond (.t 12) .skip (.exit 0))
 (qT (.block 1 (qS [qm 13 11, qi 14 2 9 11, qL 15 2 14, qq 4 (.alloc 1472258 (.agg [.str [], .int .i64 0])), qm 3 13, qs 2 4 15]
 (.block 2 (qS [qf 17 0 4, ql 18 1 17, qk 19 71 [18], qq 20 (.not (.t 19)), qm 21 20, qg 22 21 false (.faddr 0 (.t 4)), qg 23 21 false (.load false 1 (.t 22)), qg 24 21 false (.bin .eql false [.s] (.t 23) (.c (.str [111, 98, 106, 101, 99, 116]))), qq 25 (.pick (.t 21) (.c (.bool true)) (.t 24)), qm 16 25]
 (.cond (.t 16) (.seq (.ops [qm 26 3, qq 27 (.build [.int .i64 0, .int .i64 0] [(0 , 1 , .c (.int .i64 12)), (1 , 1 , .t 26)]), qs 2 2 27]) .ret) (qS [qm 29 0, qm 30 3, qq 31 (.slice false 2 (.t 29) none (some (.t 30))), qq 32 (.mkfn 73 [.t 4]), qk 33 72 [31, 32], qm 28 33]
 (.cond (.t 28) (.seq (.ops [qm 34 3, qq 35 (.build [.int .i64 0, .int .i64 0] [(0 , 1 , .c (.int .i64 7)), (1 , 1 , .t 34)]), qs 2 2 35]) .ret) (qS [qf 37 1 4, ql 38 1 37, qv 39 .lss [] 38 (-1), qm 40 39, qg 41 40 false (.faddr 1 (.t 4)), qg 42 40 false (.load false 1 (.t 41)), qg 43 40 false (.mov (.t 3)), qg 44 40 false (.bin .geq false [] (.t 42) (.t 43)), qq 45 (.pick (.t 40) (.c (.bool true)) (.t 44)), qm 36 45]
 (.cond (.t 36) (.seq (.ops [qm 46 3, qq 47 (.build [.int .i64 0, .int .i64 0] [(0 , 1 , .c (.int .i64 3)), (1 , 1 , .t 46)]), qs 2 2 47]) .ret) .skip)))))))))
 (.ops [qv 48 .add [] 11 1, qm 11 48])))))))
 (.seq (.ops [qq 49 (.build [.int .i64 0, .int .i64 0] []), qs 2 2 49]) .ret))))
def r_types_Validate : List RVar := [.cell true 2 2]
def n_types_Validate : Nat := 50
theorem k_types_Validate : chkFn Go.Proofs.Tryz.prog 23 n_types_Validate r_types_Validate c_types_Validate = true := by kernel_rfl
theorem f_types_Validate (l : List Typ) (ho : TyOk l) : Fc Go.Proofs.Tryz.prog 23 [.sl .p (l.map tyV)] (ftV (typesFault l)) := by
  obtain ⟨hl, hn⟩ := ho
  refine Fn.step mixed k_types_Validate ?_
  repeat' (first | refine i_len rfl ?_ | refine i_s rfl ?_ | refine sw ?_ | refine i_stb rfl ?_ | refine i_alloc rfl ?_ | refine c_cond rfl (fun h => ?_) (fun h => ?_))
  · exact e_ret ⟨rfl, _, rfl, congr_ft (typesFault_big (by have := of_decide_eq_true h; simp at this; omega))⟩
  have h8 : ¬ 8 < l.length := by have := of_decide_eq_false h; simp at this; omega
  clear h
  refine c_for l.length (fun k => [(0, .sl .p (l.map tyV)), (2, .bptr 1472130 0), (9, .sl .p (l.map tyV)), (10, .int .i64 l.length), (11, .int .i64 k)]) (fun _ => [(1472130, .box (ftV okF))]) (fun k => ∀ j, j < k → tyBad l j = none) all_zero ft fun k hk hi => ?_
  repeat (first | refine i_s rfl ?_ | refine sw ?_)
  refine c_cond rfl (fun h => ?_) (fun h => ?_)
  · have hlt : k < l.length := by simpa using h
    obtain ⟨t, ht⟩ := get_some hlt
    have hnt := hn t (mem_get ht)
    have hbad : tyBad l k = if nameB t.name = false ∨ t.name = objectS then some ⟨12, k⟩ else if (l.take k).any (fun u => u.name == t.name) = true then some ⟨7, k⟩
      else if t.parent < -1 ∨ t.parent ≥ k then some ⟨3, k⟩ else none := by simp [tyBad, ht]
    clear h
    have hC := f_ContainsFunc_Type (l.take k) (fun u => u.name == t.name) 73 [.cptr .p (tyV t) 0] (by simp; omega) (fun _ _ => rfl) rfl (fun u _ => f_types_Validate_1 u t)
    repeat' (first | refine i_s rfl ?_ | refine sw ?_ | refine i_gt rfl ?_ | refine i_gf rfl ?_ | refine c_t rfl ?_ | refine ja rfl rfl ?_ | refine jd rfl rfl ?_ | refine jh rfl rfl ?_ | refine i_stb rfl ?_ | refine i_alloc rfl ?_ | (refine sp ?_ ?_ <;> try intro h) | refine sf rfl rfl (f_types_IsName _ hnt) ?_ | refine sf rfl rfl hC ?_ | fail)
    all_goals clear hC hn ht hk
    all_goals first
      | refine e_ret ⟨rfl, _, rfl, congr_ft (typesFault_hit h8 hi hlt ?_)⟩; clear hi
      | refine e_for hlt (all_succ hi ?_) ft; clear hi
    all_goals rw [hbad]; clear hbad
    all_goals generalize (l.take k).any _ = bb at *
    all_goals grind [objectS]
  · have hge : ¬ k < l.length := by simpa using h
    repeat' (first | refine i_s rfl ?_ | refine sw ?_ | refine i_stb rfl ?_)
    exact e_ret ⟨rfl, _, rfl, congr_ft (typesFault_ok h8 fun j hj => hi j (by omega))⟩
def c_slices_IndexFunc_Object : Cmd :=
 (qS [qc 4 0]
 (qT (qS [qm 6 0, qn 7 6, qc 8 0]
 (.block 0 (.loop (qS [qu 9 .lss [] 8 7]
 (qT (.cond (.t 9) .skip (.exit 0))
 (qT (.block 1 (qS [qm 10 8, qm 5 10]
 (qS [qm 11 1, qm 12 0, qm 13 5, qi 14 2 12 13, qL 15 2 14, qq 16 (.call .f (.t 11) [.t 15])]
 (.cond (.t 16) (.seq (.ops [qm 17 5, qm 4 17]) .ret) .skip))))
 (.ops [qv 18 .add [] 8 1, qm 8 18])))))))
 (.seq (.ops [qc 4 (-1)]) .ret)))
def r_slices_IndexFunc_Object : List RVar := [.tmp 4]
def n_slices_IndexFunc_Object : Nat := 19
theorem k_slices_IndexFunc_Object : chkFn Go.Proofs.Tryz.prog 127 n_slices_IndexFunc_Object r_slices_IndexFunc_Object c_slices_IndexFunc_Object = true := by kernel_rfl
theorem f_IndexFunc_Object (l : List Obj) (p : Obj → Bool) (fid : Nat) (caps : List V) (hl : l.length ≤ 140737488355328) (he : ∀ σ n, caps.map (er σ (n + 1)) = caps) (hc : closedL [] caps = true) (hp : ∀ t ∈ l, Fc Go.Proofs.Tryz.prog fid (obV t :: caps) (.bool (p t))) :
    Fc Go.Proofs.Tryz.prog 127 [.sl .p (l.map obV), .fn fid caps] (.int .i64 (fidx p l)) := by
  refine Fn.step mixed k_slices_IndexFunc_Object ?_
  repeat (first | refine i_len rfl ?_ | refine i_s rfl ?_ | refine sw ?_)
  refine c_for l.length (fun k => [(0, .sl .p (l.map obV)), (1, .fn fid caps), (7, .int .i64 l.length), (8, .int .i64 k)]) (fun _ => []) (fun k => ∀ j, j < k → ∀ c, l[j]? = some c → p c = false) all_zero ?_ fun k hk hi => ?_
  · exact ⟨⟨rfl, rfl, rfl, rfl, trivial⟩, trivial, by simp [fitB, closedE, closedB, hc, closedSt, hasAll]⟩
  repeat (first | refine i_s rfl ?_ | refine sw ?_)
  refine c_cond rfl (fun h => ?_) (fun h => ?_)
  · have hlt : k < l.length := by simpa using h
    obtain ⟨c, hget⟩ := get_some hlt
    repeat (first | refine i_s rfl ?_ | refine sw ?_ | refine jd rfl rfl ?_)
    refine i_f rfl (congrArg (obV c :: ·) (he _ 5)) (hp c (mem_get hget)) rfl ?_
    repeat' (first | refine i_s rfl ?_ | refine sw ?_ | refine ja rfl rfl ?_ | refine c_cond rfl (fun h => ?_) (fun h => ?_))
    · refine e_ret ⟨rfl, _, rfl, congrArg (V.int .i64) (fidx_hit hi hget h)⟩
    · refine e_for hlt (all_succ hi fun c' hc' => ?_) ⟨⟨rfl, rfl, rfl, rfl, trivial⟩, trivial, by simp [fitB, closedE, closedB, hc, closedSt, hasAll]⟩
      rw [hget] at hc'; cases hc'; exact h
  · have hge : ¬ k < l.length := by simpa using h
    repeat' (first | refine i_s rfl ?_ | refine sw ?_ | fail)
    refine e_ret ⟨rfl, _, rfl, congrArg (V.int .i64) (fidx_none fun j hj => hi j (by omega))⟩
def c_slices_ContainsFunc_Object : Cmd :=
 (qS [qb 4 false]
 (.seq (.ops [qm 5 0, qm 6 1, qk 7 127 [5, 6], qv 8 .geq [] 7 0, qm 4 8]) .ret))
def r_slices_ContainsFunc_Object : List RVar := [.tmp 4]
def n_slices_ContainsFunc_Object : Nat := 9
theorem k_slices_ContainsFunc_Object : chkFn Go.Proofs.Tryz.prog 74 n_slices_ContainsFunc_Object r_slices_ContainsFunc_Object c_slices_ContainsFunc_Object = true := by kernel_rfl
theorem f_ContainsFunc_Object (l : List Obj) (p : Obj → Bool) (fid : Nat) (caps : List V) (hl : l.length ≤ 140737488355328) (he : ∀ σ n, caps.map (er σ (n + 1)) = caps) (hc : closedL [] caps = true) (hp : ∀ t ∈ l, Fc Go.Proofs.Tryz.prog fid (obV t :: caps) (.bool (p t))) :
    Fc Go.Proofs.Tryz.prog 74 [.sl .p (l.map obV), .fn fid caps] (.bool (l.any p)) := by
  refine Fn.step mixed k_slices_ContainsFunc_Object ?_
  repeat (first | refine i_s rfl ?_ | refine sw ?_)
  refine i_f rfl (congrArg (fun x => [V.sl .p (l.map obV), .fn fid x]) (he _ 4)) (f_IndexFunc_Object l p fid caps hl he hc hp) rfl ?_
  repeat' (first | refine i_s rfl ?_ | refine sw ?_ | fail)
  refine e_ret ⟨rfl, _, rfl, congrArg V.bool (fidx_any p l).symm⟩
theorem typesFault_code (l : List Typ) : (typesFault l).code = 0 ↔ typesFault l = okF := by
  refine ⟨fun h => ?_, fun h => by rw [h]; rfl⟩
  unfold typesFault at h ⊢
  split at h
  · cases h
  · rename_i h8
    rw [if_neg h8]
    have := scan_prop (bad := tyBad l) (fun o => ∀ f, o = some f → f.code ≠ 0) (by simp) (fun i => tyBad_code l i) l.length 0
    cases hs : scan (tyBad l) 0 l.length with
    | none => rfl
    | some f => rw [hs] at h; exact absurd h (this f hs)
def ObOk (l : List Obj) : Prop := l.length ≤ 140737488355328 ∧ ∀ t ∈ l, t.name.length ≤ 140737488355328
def c_types_Objects_1 : Cmd :=
 (qS [qx 2 4800130 2 0, qb 3 false]
 (.seq (.ops [qf 4 0 2, ql 5 1 4, qf 6 0 1, ql 7 1 6, qu 8 .eql [.s] 5 7, qm 3 8]) .ret))
def r_types_Objects_1 : List RVar := [.tmp 3]
def n_types_Objects_1 : Nat := 9
theorem k_types_Objects_1 : chkFn Go.Proofs.Tryz.prog 75 n_types_Objects_1 r_types_Objects_1 c_types_Objects_1 = true := by kernel_rfl
theorem f_types_Objects_1 (u t : Obj) : Fc Go.Proofs.Tryz.prog 75 [obV u, .cptr .p (obV t) 0] (.bool (u.name == t.name)) := by
  refine Fn.step mixed k_types_Objects_1 ?_
  repeat' (first | refine i_s rfl ?_ | refine sw ?_ | refine i_box rfl rfl ?_)
  exact e_ret ⟨rfl, _, rfl, rfl⟩
theorem objectsFault_big {n : Nat} {l : List Obj} (h : 8 < l.length) : objectsFault n l = ⟨2, -3⟩ := by unfold objectsFault; rw [if_pos h]
theorem objectsFault_hit {n : Nat} {l : List Obj} (h : ¬ 8 < l.length) {k : Nat} {f : Flt} (hi : ∀ j, j < k → obBad n l j = none) (hk : k < l.length) (hf : obBad n l k = some f) : objectsFault n l = f := by
  unfold objectsFault; rw [if_neg h, scan0_hit hi hk hf]; rfl
theorem objectsFault_ok {n : Nat} {l : List Obj} (h : ¬ 8 < l.length) (hi : ∀ j, j < l.length → obBad n l j = none) : objectsFault n l = okF := by
  unfold objectsFault; rw [if_neg h, scan0_none hi]; rfl
def c_types_Objects : Cmd :=
 (qS [qq 4 (.alloc 1536258 (.agg [.int .i64 0, .int .i64 0]))]
 (qT (qS [qm 8 1, qn 9 8, qv 10 .gtr [] 9 8]
 (.cond (.t 10) (.seq (.ops [qq 11 (.build [.int .i64 0, .int .i64 0] [(0 , 1 , .c (.int .i64 2)), (1 , 1 , .c (.int .i64 (-3)))]), qs 2 4 11]) .ret) .skip))
 (qT (qS [qm 12 1, qn 13 12, qc 14 0]
 (.block 0 (.loop (qS [qu 15 .lss [] 14 13]
 (qT (.cond (.t 15) .skip (.exit 0))
 (qT (.block 1 (qS [qm 16 14, qi 17 2 12 14, qL 18 2 17, qq 6 (.alloc 1536386 (.agg [.str [], .int .i64 0])), qm 5 16, qs 2 6 18]
 (qS [qc 7 0]
 (qT (.block 2 (qS [qf 20 0 6, ql 21 1 20, qk 22 71 [21], qq 23 (.not (.t 22)), qm 19 23]
 (.cond (.t 19) (.ops [qc 7 12]) (qS [qm 25 1, qm 26 5, qq 27 (.slice false 2 (.t 25) none (some (.t 26))), qq 28 (.mkfn 75 [.t 6]), qk 29 74 [27, 28], qm 24 29]
 (.cond (.t 24) (.ops [qc 7 7]) (qS [qf 31 1 6, ql 32 1 31, qv 33 .lss [] 32 (-1), qm 34 33, qg 35 34 false (.faddr 1 (.t 6)), qg 36 34 false (.load false 1 (.t 35)), qg 37 34 false (.mov (.t 0)), qg 38 34 false (.len false (.t 37)), qg 39 34 false (.bin .geq false [] (.t 36) (.t 38)), qq 40 (.pick (.t 34) (.c (.bool true)) (.t 39)), qm 30 40]
 (.cond (.t 30) (.ops [qc 7 3]) .skip)))))))
 (qS [qm 41 7, qv 42 .neq [.i] 41 0]
 (.cond (.t 42) (.seq (.ops [qm 43 7, qm 44 5, qq 45 (.bin .sub false [] (.c (.int .i64 (-10))) (.t 44)), qq 46 (.build [.int .i64 0, .int .i64 0] [(0 , 1 , .t 43), (1 , 1 , .t 45)]), qs 2 4 46]) .ret) .skip))))))
 (.ops [qv 47 .add [] 14 1, qm 14 47])))))))
 (.seq (.ops [qq 48 (.build [.int .i64 0, .int .i64 0] []), qs 2 4 48]) .ret))))
def r_types_Objects : List RVar := [.cell true 2 4]
def n_types_Objects : Nat := 49
theorem k_types_Objects : chkFn Go.Proofs.Tryz.prog 24 n_types_Objects r_types_Objects c_types_Objects = true := by kernel_rfl
theorem f_types_Objects (ts : List Typ) (hts : ts.length ≤ 140737488355328) (l : List Obj) (ho : ObOk l) : Fc Go.Proofs.Tryz.prog 24 [.sl .p (ts.map tyV), .sl .p (l.map obV)] (ftV (objectsFault ts.length l)) := by
  obtain ⟨hl, hn⟩ := ho
  refine Fn.step mixed k_types_Objects ?_
  repeat' (first | refine i_len rfl ?_ | refine i_s rfl ?_ | refine sw ?_ | refine i_stb rfl ?_ | refine i_alloc rfl ?_ | refine c_cond rfl (fun h => ?_) (fun h => ?_))
  · exact e_ret ⟨rfl, _, rfl, congr_ft (objectsFault_big (by have := of_decide_eq_true h; simp at this; omega))⟩
  have h8 : ¬ 8 < l.length := by have := of_decide_eq_false h; simp at this; omega
  clear h
  refine c_for l.length (fun k => [(0, .sl .p (ts.map tyV)), (1, .sl .p (l.map obV)), (4, .bptr 1536258 0), (12, .sl .p (l.map obV)), (13, .int .i64 l.length), (14, .int .i64 k)]) (fun _ => [(1536258, .box (ftV okF))]) (fun k => ∀ j, j < k → obBad ts.length l j = none) all_zero ft fun k hk hi => ?_
  repeat (first | refine i_s rfl ?_ | refine sw ?_)
  refine c_cond rfl (fun h => ?_) (fun h => ?_)
  · have hlt : k < l.length := by simpa using h
    obtain ⟨t, ht⟩ := get_some hlt
    have hnt := hn t (mem_get ht)
    have hbad : obBad ts.length l k = if nameB t.name = false then some ⟨12, -10 - k⟩ else if (l.take k).any (fun u => u.name == t.name) = true then some ⟨7, -10 - k⟩
      else if t.type < -1 ∨ t.type ≥ ts.length then some ⟨3, -10 - k⟩ else none := by simp [obBad, ht]
    clear h
    have hC := f_ContainsFunc_Object (l.take k) (fun u => u.name == t.name) 75 [.cptr .p (obV t) 0] (by simp; omega) (fun _ _ => rfl) rfl (fun u _ => f_types_Objects_1 u t)
    repeat' (first | refine i_len rfl ?_ | refine i_s rfl ?_ | refine sw ?_ | refine i_gt rfl ?_ | refine i_gf rfl ?_ | refine c_t rfl ?_ | refine c_f rfl ?_ | refine ja rfl rfl ?_ | refine jb rfl rfl ?_ | refine jd rfl rfl ?_ | refine jh rfl rfl ?_ | refine i_stb rfl ?_ | refine i_alloc rfl ?_ | (refine sp ?_ ?_ <;> try intro h) | refine sf rfl rfl (f_types_IsName _ hnt) ?_ | refine sf rfl rfl hC ?_ | fail)
    all_goals clear hC hn ht hk
    all_goals first
      | refine e_ret ⟨rfl, _, rfl, congr_ft (objectsFault_hit h8 hi hlt ?_)⟩; clear hi
      | refine e_for hlt (all_succ hi ?_) ft; clear hi
    all_goals rw [hbad]; clear hbad
    all_goals generalize (l.take k).any _ = bb at *
    all_goals try simp only [List.length_map] at *
    all_goals grind
  · have hge : ¬ k < l.length := by simpa using h
    repeat' (first | refine i_s rfl ?_ | refine sw ?_ | refine i_stb rfl ?_)
    exact e_ret ⟨rfl, _, rfl, congr_ft (objectsFault_ok h8 fun j hj => hi j (by omega))⟩
def c_types_Above : Cmd :=
 (qS [qx 2 9728129 1 0, qx 3 9728193 1 1, qq 4 (.mov (.c (.nilfn)))]
 (.seq (.ops [qq 5 (.mkfn 164 [.t 3, .t 2]), qm 4 5]) .ret))
def r_types_Above : List RVar := [.tmp 4]
def n_types_Above : Nat := 6
theorem k_types_Above : chkFn Go.Proofs.Tryz.prog 152 n_types_Above r_types_Above c_types_Above = true := by kernel_rfl
theorem c_types_Above_ct {G : Type} {H : HT G} (l : List Typ) (t : Int) (σ : Store) (g : G) (h1 : σ 9728129 = .unused) (h2 : σ 9728193 = .unused) (hp : ∀ nm, σ nm ≠ .unused → nm ∈ [9728129, 9728193]) :
    Cc Go.Proofs.Tryz.prog H 152 [.sl .p (l.map tyV), .int .i64 t] [9728129, 9728193] σ g fun r σ' g' => r = .fn 164 [.bptr 9728193 0, .bptr 9728129 0] ∧ σ' = stOf [(9728129, .box (.sl .p (l.map tyV))), (9728193, .box (.int .i64 t))] ∧ g' = g := by
  refine CT.step _ mixed k_types_Above hp fun hM => ?_
  repeat refine sw ?_
  refine i_box h1 rfl ?_
  refine i_box h2 rfl ?_
  repeat' (first | refine i_s rfl ?_ | refine sw ?_ | fail)
  exact e_ret ⟨rfl, _, rfl, rfl, rfl, rfl, restr_stOf _ _, rfl⟩
def c_types_Above_1 : Cmd :=
 (qT (.block 0 (.loop (qT (qS [ql 4 1 1, qv 5 .geq [] 4 0]
 (.cond (.t 5) .skip (.exit 0)))
 (qT (.block 1 (qS [qm 11 0, ql 12 1 1, qq 13 (.call .y (.t 11) [.t 12]), qq 14 (.not (.t 13))]
 (.cond (.t 14) .ret .skip)))
 (.ops [ql 6 1 2, ql 7 1 1, qi 8 2 6 7, qf 9 1 8, ql 10 1 9, qs 1 1 10])))))
 (.ops [qm 15 0, qq 16 (.call .y (.t 15) [.c (.int .i64 (-1))])]))
def r_types_Above_1 : List RVar := []
def n_types_Above_1 : Nat := 17
theorem k_types_Above_1 : chkFn Go.Proofs.Tryz.prog 164 n_types_Above_1 r_types_Above_1 c_types_Above_1 = true := by kernel_rfl
theorem c_types_Above_1_ct {G : Type} {H : HT G} (l : List Typ) (hv : TyValid l) (t0 : Int) (h00 : -1 ≤ t0) (h01 : t0 < l.length) (g0 : G) (K : G → Prop) (hy0 : YL H ((supers l t0).map fun n => [V.int .i64 n]) g0 K) :
    Cc Go.Proofs.Tryz.prog H 164 [.rnd, .bptr 9728193 0, .bptr 9728129 0] [9728129, 9728193] (stOf [(9728129, .box (.sl .p (l.map tyV))), (9728193, .box (.int .i64 t0))]) g0
      fun _ σ' g' => (∃ t' : Int, σ' = stOf [(9728129, .box (.sl .p (l.map tyV))), (9728193, .box (.int .i64 t'))]) ∧ K g' := by
  refine CT.step _ mixed k_types_Above_1 (fun nm hnm => stOf_mem _ nm hnm) fun hM => ?_
  repeat refine sw ?_
  refine c_loop (ι := Int × G) (fun _ => [(0, .rnd), (1, .bptr 9728193 0), (2, .bptr 9728129 0)]) (fun i => [(9728129, .box (.sl .p (l.map tyV))), (9728193, .box (.int .i64 i.1))]) (fun i => i.2)
    (fun i => -1 ≤ i.1 ∧ i.1 < l.length ∧ YL H ((supers l i.1).map fun n => [V.int .i64 n]) i.2 K) (fun i => (i.1 + 1).toNat) (t0, g0) ⟨h00, h01, hy0⟩ ft rfl fun i hi => ?_
  obtain ⟨t, g⟩ := i
  obtain ⟨h0, h1, hy⟩ := hi
  simp only at h0 h1 hy
  clear h00 h01 hy0
  repeat (first | refine i_s rfl ?_ | refine sw ?_)
  refine c_cond rfl (fun h => ?_) (fun h => ?_)
  · have hge := of_decide_eq_true h
    obtain ⟨x, hx, hp, h2, h3⟩ := parent_ok hv hge h1
    rw [supers_cons hv hge h1 hx] at hy
    repeat (first | refine i_s rfl ?_ | refine sw ?_)
    refine i_y hM rfl rfl rfl (hM _ _ _ _ (fun u g' hu => ?_) hy)
    rcases hu with ⟨rfl, hu⟩ | ⟨rfl, hu⟩
    · repeat (first | refine i_s rfl ?_ | refine sw ?_ | refine c_f rfl ?_ | refine jd rfl rfl ?_ | refine i_stb rfl ?_)
      try refine i_iai rfl rfl hge hx rfl ?_
      skip
      exact e_loop ⟨(x.parent, g'), ⟨h2, by simp only; omega, hu⟩, ft, rfl, by simp only; omega⟩
    · repeat (first | refine i_s rfl ?_ | refine sw ?_ | refine c_t rfl ?_)
      exact e_ret ⟨rfl, _, rfl, rfl, rfl, ⟨t, restr_stOf _ _⟩, hu⟩
  · have hlt : t < 0 := by have := of_decide_eq_false h; omega
    rw [supers_neg hlt] at hy
    repeat (first | refine i_s rfl ?_ | refine sw ?_)
    refine i_y hM rfl rfl rfl (hM _ _ _ _ (fun u g' hu => ?_) hy)
    repeat refine sw ?_
    refine e_end ⟨rfl, _, rfl, rfl, rfl, ⟨t, restr_stOf _ _⟩, ?_⟩
    rcases hu with ⟨_, hu⟩ | ⟨_, hu⟩ <;> exact hu
def c_types_Is : Cmd :=
 (qS [qx 5 8000321 1 2, qq 6 (.alloc 8000385 (.bool false))]
 (qT (qS [qm 8 0, qm 9 1, qq 10 (.call (.s [9728129, 9728193]) (.c (.fn 152 [])) [.t 8, .t 9])]
 (.block 0 (.rangeF [9728129, 9728193] (.t 10) [11] (.ops [qm 7 11]) (.block 1 (qS [qm 12 7, ql 13 1 5, qu 14 .eql [.i] 12 13]
 (.cond (.t 14) (.seq (.ops [.op none none (.store 1 (.t 6) (.c (.bool true)))]) .ret) .skip))))))
 (.seq (.ops [.op none none (.store 1 (.t 6) (.c (.bool false)))]) .ret)))
def r_types_Is : List RVar := [.cell false 1 6]
def n_types_Is : Nat := 15
theorem k_types_Is : chkFn Go.Proofs.Tryz.prog 125 n_types_Is r_types_Is c_types_Is = true := by kernel_rfl
theorem f_types_Is (l : List Typ) (hv : TyValid l) (a b : Int) (h0 : -1 ≤ a) (h1 : a < l.length) : Fc Go.Proofs.Tryz.prog 125 [.sl .p (l.map tyV), .int .i64 a, .int .i64 b] (.bool (subB l a b)) := by
  refine Fn.step mixed k_types_Is ?_
  repeat (first | refine i_s rfl ?_ | refine sw ?_ | refine i_alloc rfl ?_ | refine i_box rfl rfl ?_)
  refine i_c rfl rfl rfl (c_types_Above_ct l a _ _ rfl rfl fun nm h => restr_mem nm h) ?_
  rintro _ _ _ ⟨rfl, rfl, rfl⟩
  repeat refine sw ?_
  refine c_rangeS [(5, .bptr 8000321 0), (6, .bptr 8000385 0)] [(9728129, .box (.sl .p (l.map tyV))), (9728193, .box (.int .i64 a)), (8000321, .box (.int .i64 b)), (8000385, .box (.bool false))] [8000321, 8000385]
    [(9728129, .box (.sl .p (l.map tyV))), (9728193, .box (.int .i64 a))] [(8000321, .box (.int .i64 b)), (8000385, .box (.bool false))] rfl ft rfl rfl rfl rfl ?_
  refine Cc_mono ?_ (c_types_Above_1_ct l hv a h0 h1 _
    (fun st => if subB l a b = true then st = (stOf [(8000321, .box (.int .i64 b)), (8000385, .box (.bool true))], (), some .ret) else st = (stOf [(8000321, .box (.int .i64 b)), (8000385, .box (.bool false))], (), none))
    (YL_find (fun c => decide (c = b)) (fun _ => (stOf [(8000321, .box (.int .i64 b)), (8000385, .box (.bool true))], (), some .ret)) (RHm noH_mono) (supers l a) ?_ ?_))
  · rintro _ σ' st ⟨⟨t', rfl⟩, hst⟩
    split at hst
    · subst hst
      rename_i hs
      refine ⟨rfl, ?_⟩
      exact e_ret ⟨rfl, _, rfl, by rw [hs]; rfl⟩
    · subst hst
      rename_i hs
      refine ⟨rfl, ?_⟩
      show WE _ _ _ _ _ .normal _ _ _
      repeat (first | refine sw ?_ | refine i_stb rfl ?_)
      exact e_ret ⟨rfl, _, rfl, by rw [Bool.not_eq_true] at hs; rw [hs]; rfl⟩
  · intro c hc K hk1 hk2
    refine rh_intro noH_mono rfl ?_
    repeat (first | refine i_s rfl ?_ | refine sw ?_)
    refine e_end ?_
    show WC _ _ _ _ [] _ _ _ _
    repeat' (first | refine i_s rfl ?_ | refine sw ?_ | refine i_stb rfl ?_ | refine c_cond rfl (fun h => ?_) (fun h => ?_))
    · refine e_ret ?_
      exact rhq_r rfl rfl (hk1 (by simpa using h))
    · refine e_end ?_
      exact rhq_n rfl rfl (hk2 (by simpa using h))
  · unfold subB
    cases hf : (supers l a).find? (fun c => decide (c = b)) with
    | none =>
      have : ¬ b ∈ supers l a := fun hm => by
        have := List.find?_eq_none.1 hf b hm
        simp at this
      simp [this]
    | some c =>
      have h1 := List.find?_some hf
      have h2 := List.mem_of_find?_eq_some hf
      have : b ∈ supers l a := by simp at h1; rw [← h1]; exact h2
      simp [this]
end Hm
end
section
namespace Hm
open Go
set_option maxRecDepth 100000
set_option maxHeartbeats 4000000
def c_domain_Params_1 : Cmd :=
 (qS [qb 3 false]
 (.seq (.ops [qm 4 0, qv 5 .lss [] 4 (-1), qm 6 5, qg 7 6 false (.mov (.t 0)), qg 8 6 false (.faddr 0 (.t 1)), qg 9 6 false (.load false 1 (.t 8)), qg 10 6 false (.len false (.t 9)), qg 11 6 false (.bin .geq false [] (.t 7) (.t 10)), qq 12 (.pick (.t 6) (.c (.bool true)) (.t 11)), qm 3 12]) .ret))
def r_domain_Params_1 : List RVar := [.tmp 3]
def n_domain_Params_1 : Nat := 13
theorem k_domain_Params_1 : chkFn Go.Proofs.Tryz.prog 130 n_domain_Params_1 r_domain_Params_1 c_domain_Params_1 = true := by kernel_rfl
theorem f_domain_Params_1 (d : Dom) (hd : d.types.length ≤ 140737488355328) (t : Int) : Fc Go.Proofs.Tryz.prog 130 [.int .i64 t, .cptr .p (domV d) 0] (.bool (badT d.types.length t)) := by
  refine Fn.step mixed k_domain_Params_1 ?_
  repeat' (first | refine i_len rfl ?_ | refine i_s rfl ?_ | refine sw ?_ | refine i_gt rfl ?_ | refine i_gf rfl ?_ | refine i_g rfl (fun h => ?_) (fun h => ?_))
  all_goals (refine e_ret ⟨rfl, _, rfl, congrArg V.bool ?_⟩; unfold badT; simp at *; (try omega))
def c_domain_Params : Cmd :=
 (qS [qx 2 4992134 6 0, qc 4 0]
 (qT (qS [qm 5 1, qn 6 5, qv 7 .gtr [] 6 3]
 (.cond (.t 7) (.seq (.ops [qc 4 2]) .ret) .skip))
 (qT (qS [qm 8 1, qq 9 (.mkfn 130 [.t 2]), qk 10 129 [8, 9]]
 (.cond (.t 10) (.seq (.ops [qc 4 3]) .ret) .skip))
 (.seq (.ops [qc 4 0]) .ret))))
def r_domain_Params : List RVar := [.tmp 4]
def n_domain_Params : Nat := 11
theorem k_domain_Params : chkFn Go.Proofs.Tryz.prog 78 n_domain_Params r_domain_Params c_domain_Params = true := by kernel_rfl
theorem f_domain_Params (d : Dom) (hd : d.types.length ≤ 140737488355328) (l : List Int) (hl : l.length ≤ 140737488355328) : Fc Go.Proofs.Tryz.prog 78 [domV d, .sl .p (l.map i64V)] (.int .i64 (paramsCode d.types.length l)) := by
  have hC := f_ContainsFunc_int l (badT d.types.length) 130 [.cptr .p (domV d) 0] hl (fun _ _ => rfl) rfl (fun t _ => f_domain_Params_1 d hd t)
  unfold paramsCode
  by_cases h3 : l.length > 3
  · rw [if_pos h3]
    refine Fn.step mixed k_domain_Params ?_
    repeat' (first | refine i_len rfl ?_ | refine i_s rfl ?_ | refine sw ?_ | refine i_box rfl rfl ?_ | refine c_cond rfl (fun h => ?_) (fun h => ?_))
    all_goals first
      | exact e_ret ⟨rfl, _, rfl, rfl⟩
      | (exfalso; simp at *; omega)
  · rw [if_neg h3]
    cases hany : l.any (badT d.types.length) with
    | true =>
      rw [hany] at hC
      refine Fn.step mixed k_domain_Params ?_
      repeat' (first | refine i_len rfl ?_ | refine i_s rfl ?_ | refine sw ?_ | refine c_t rfl ?_ | refine i_box rfl rfl ?_ | refine c_cond rfl (fun h => ?_) (fun h => ?_) | refine sf rfl rfl hC ?_ | fail)
      all_goals first
        | exact e_ret ⟨rfl, _, rfl, rfl⟩
        | (exfalso; clear hC; simp at *; omega)
    | false =>
      rw [hany] at hC
      refine Fn.step mixed k_domain_Params ?_
      repeat' (first | refine i_len rfl ?_ | refine i_s rfl ?_ | refine sw ?_ | refine c_f rfl ?_ | refine i_box rfl rfl ?_ | refine c_cond rfl (fun h => ?_) (fun h => ?_) | refine sf rfl rfl hC ?_ | fail)
      all_goals first
        | exact e_ret ⟨rfl, _, rfl, rfl⟩
        | (exfalso; clear hC; simp at *; omega)
theorem atomCode_none {d : Dom} {ps : List Int} {a : At} (h : a.pred < 0 ∨ (d.preds.length : Int) ≤ a.pred) : atomCode d ps a = 6 := by unfold atomCode; rw [if_pos h]
theorem atomCode_len {d : Dom} {ps : List Int} {a : At} {p : Prd} (h : ¬ (a.pred < 0 ∨ (d.preds.length : Int) ≤ a.pred)) (hp : d.preds[a.pred.toNat]? = some p) (hl : a.args.length ≠ p.types.length) : atomCode d ps a = 9 := by
  unfold atomCode; rw [if_neg h, hp]; simp only; rw [if_pos hl]
theorem atomCode_scan {d : Dom} {ps : List Int} {a : At} {p : Prd} (h : ¬ (a.pred < 0 ∨ (d.preds.length : Int) ≤ a.pred)) (hp : d.preds[a.pred.toNat]? = some p) (hl : a.args.length = p.types.length) : atomCode d ps a = (scan (argBad d ps p.types a) 0 a.args.length).getD 0 := by
  unfold atomCode; rw [if_neg h, hp]; simp only; rw [if_neg (by simp [hl])]
def tyoV : Option Int → V
  | some t => .tup [.int .i64 t, .bool true]
  | none => .tup [.int .i64 0, .bool false]
def c_domain_typeOf : Cmd :=
 (qS [qx 3 9856198 6 0, qc 6 0, qb 7 false]
 (qT (.block 0 (qS [qm 9 2, qv 10 .geq [] 9 0, qm 11 10, qg 12 11 true (.mov (.t 2)), qg 13 11 true (.faddr 1 (.t 3)), qg 14 11 true (.load false 1 (.t 13)), qg 15 11 true (.len false (.t 14)), qg 16 11 true (.bin .lss false [] (.t 12) (.t 15)), qq 17 (.pick (.t 11) (.t 16) (.c (.bool false))), qm 8 17]
 (.cond (.t 8) (.seq (.ops [qf 18 1 3, ql 19 1 18, qm 20 2, qi 21 2 19 20, qf 22 1 21, ql 23 1 22, qm 6 23, qb 7 true]) .ret) (qS [qm 25 2, qv 26 .lss [] 25 0, qm 27 26, qg 28 27 true (.mov (.t 2)), qg 29 27 true (.mov (.t 1)), qg 30 27 true (.len false (.t 29)), qg 31 27 true (.bin .sub false [] (.c (.int .i64 0)) (.t 30)), qg 32 27 true (.bin .geq false [] (.t 28) (.t 31)), qq 33 (.pick (.t 27) (.t 32) (.c (.bool false))), qm 24 33]
 (.cond (.t 24) (.seq (.ops [qm 34 1, qm 35 2, qq 36 (.bin .sub false [] (.c (.int .i64 (-1))) (.t 35)), qi 37 1 34 36, ql 38 1 37, qm 6 38, qb 7 true]) .ret) .skip)))))
 (.seq (.ops [qc 6 0, qb 7 false]) .ret)))
def r_domain_typeOf : List RVar := [.tmp 6, .tmp 7]
def n_domain_typeOf : Nat := 39
theorem k_domain_typeOf : chkFn Go.Proofs.Tryz.prog 154 n_domain_typeOf r_domain_typeOf c_domain_typeOf = true := by kernel_rfl
theorem f_domain_typeOf (d : Dom) (ho : d.objects.length ≤ 140737488355328) (ps : List Int) (hl : ps.length ≤ 140737488355328) (x : Int) (hx : InR .i64 x) : Fc Go.Proofs.Tryz.prog 154 [domV d, .sl .p (ps.map i64V), .int .i64 x] (tyoV (typeOfA d ps x)) := by
  have hx1 : (-9223372036854775808 : Int) ≤ x := hx.1
  have hx2 : x ≤ 9223372036854775807 := hx.2
  clear hx
  unfold typeOfA
  by_cases h1 : 0 ≤ x ∧ x < d.objects.length
  · rw [if_pos h1]
    obtain ⟨o, hoo⟩ := get_some (l := d.objects) (k := x.toNat) (by omega)
    rw [hoo]
    refine Fn.step mixed k_domain_typeOf ?_
    repeat' (first | refine i_len rfl ?_ | refine i_s rfl ?_ | refine sw ?_ | refine i_gt rfl ?_ | refine i_gf rfl ?_ | refine c_f rfl ?_ | refine jb rfl rfl ?_ | refine jd rfl rfl ?_ | refine i_box rfl rfl ?_ | (refine sp ?_ ?_ <;> try intro h) | fail)
    all_goals first
      | exact e_ret ⟨rfl, _, rfl, rfl⟩
      | (exfalso; simp at *; omega)
  · rw [if_neg h1]
    by_cases h2 : x < 0 ∧ -(ps.length : Int) ≤ x
    · rw [if_pos h2]
      obtain ⟨t, ht⟩ := get_some (l := ps) (k := (-1 - x).toNat) (by omega)
      rw [ht]
      refine Fn.step mixed k_domain_typeOf ?_
      repeat' (first | refine i_len rfl ?_ | refine i_s rfl ?_ | refine sw ?_ | refine i_gt rfl ?_ | refine i_gf rfl ?_ | refine c_f rfl ?_ | refine jb rfl rfl ?_ | refine jd rfl rfl ?_ | refine i_box rfl rfl ?_ | (refine sp ?_ ?_ <;> try intro h) | fail)
      all_goals first
        | exact e_ret ⟨rfl, _, rfl, rfl⟩
        | (exfalso; simp at *; omega)
    · rw [if_neg h2]
      refine Fn.step mixed k_domain_typeOf ?_
      repeat' (first | refine i_len rfl ?_ | refine i_s rfl ?_ | refine sw ?_ | refine i_gt rfl ?_ | refine i_gf rfl ?_ | refine c_f rfl ?_ | refine jb rfl rfl ?_ | refine i_box rfl rfl ?_ | (refine sp ?_ ?_ <;> try intro h) | fail)
      all_goals first
        | exact e_ret ⟨rfl, _, rfl, rfl⟩
        | (exfalso; simp at *; omega)
def c_domain_Atom : Cmd :=
 (qS [qx 3 8512198 6 0, qx 5 8512322 2 2, qc 6 0]
 (qT (qS [qf 12 0 5, ql 13 1 12, qv 14 .lss [] 13 0, qm 15 14, qg 16 15 false (.faddr 0 (.t 5)), qg 17 15 false (.load false 1 (.t 16)), qg 18 15 false (.faddr 2 (.t 3)), qg 19 15 false (.load false 1 (.t 18)), qg 20 15 false (.len false (.t 19)), qg 21 15 false (.bin .geq false [] (.t 17) (.t 20)), qq 22 (.pick (.t 15) (.c (.bool true)) (.t 21))]
 (.cond (.t 22) (.seq (.ops [qc 6 6]) .ret) .skip))
 (qS [qf 23 2 3, ql 24 1 23, qf 25 0 5, ql 26 1 25, qi 27 2 24 26, qf 28 1 27, ql 29 1 28, qm 7 29]
 (qT (qS [qf 30 1 5, ql 31 1 30, qn 32 31, qm 33 7, qn 34 33, qu 35 .neq [.i] 32 34]
 (.cond (.t 35) (.seq (.ops [qc 6 9]) .ret) .skip))
 (qT (qS [qf 36 1 5, ql 37 1 36, qn 38 37, qc 39 0]
 (.block 0 (.loop (qS [qu 40 .lss [] 39 38]
 (qT (.cond (.t 40) .skip (.exit 0))
 (qT (.block 1 (qS [qm 41 39, qi 42 1 37 39, ql 43 1 42, qm 8 41, qm 9 43]
 (qS [qL 45 6 3, qm 46 1, qm 47 9, qk 48 154 [45, 46, 47], qm 44 48, qq 49 (.extract (.t 44) 0), qq 50 (.extract (.t 44) 1), qm 10 49, qm 11 50]
 (qT (qS [qm 51 11, qq 52 (.not (.t 51))]
 (.cond (.t 52) (.seq (.ops [qc 6 3]) .ret) .skip))
 (qS [qf 53 0 3, ql 54 1 53, qm 55 10, qm 56 7, qm 57 8, qi 58 1 56 57, ql 59 1 58, qk 60 125 [54, 55, 59], qq 61 (.not (.t 60))]
 (.cond (.t 61) (.seq (.ops [qc 6 8]) .ret) .skip))))))
 (.ops [qv 62 .add [] 39 1, qm 39 62])))))))
 (.seq (.ops [qc 6 0]) .ret))))))
def r_domain_Atom : List RVar := [.tmp 6]
def n_domain_Atom : Nat := 63
theorem k_domain_Atom : chkFn Go.Proofs.Tryz.prog 133 n_domain_Atom r_domain_Atom c_domain_Atom = true := by kernel_rfl
theorem f_domain_Atom (d : Dom) (hd : DoTy d) (ps : List Int) (hps : PsOk d ps) (a : At) (ha : AtOk a) : Fc Go.Proofs.Tryz.prog 133 [domV d, .sl .p (ps.map i64V), atV a] (.int .i64 (atomCode d ps a)) := by
  have hal := ha.len
  have hpl := hps.1
  have hol := hd.ol
  by_cases h1 : a.pred < 0 ∨ (d.preds.length : Int) ≤ a.pred
  · rw [atomCode_none h1]
    refine Fn.step mixed k_domain_Atom ?_
    repeat' (first | refine i_len rfl ?_ | refine i_s rfl ?_ | refine sw ?_ | refine i_gt rfl ?_ | refine i_gf rfl ?_ | refine c_t rfl ?_ | refine i_box rfl rfl ?_ | (refine sp ?_ ?_ <;> try intro h) | fail)
    all_goals first
      | exact e_ret ⟨rfl, _, rfl, rfl⟩
      | (exfalso; simp at *; omega)
  · obtain ⟨p, hp⟩ := get_some (l := d.preds) (k := a.pred.toNat) (by omega)
    by_cases h2 : a.args.length = p.types.length
    · rw [atomCode_scan h1 hp h2]
      refine Fn.step mixed k_domain_Atom ?_
      repeat' (first | refine i_len rfl ?_ | refine i_s rfl ?_ | refine sw ?_ | refine i_gt rfl ?_ | refine i_gf rfl ?_ | refine c_t rfl ?_ | refine jd rfl rfl ?_ | refine i_box rfl rfl ?_ | (refine sp ?_ ?_ <;> try intro h) | fail)
      all_goals first
        | (exfalso; simp at *; omega)
        | skip
      refine c_for a.args.length (fun k => [(1, .sl .p (ps.map i64V)), (3, .bptr 8512198 0), (7, .sl .p (p.types.map i64V)), (37, .sl .p (a.args.map i64V)), (38, .int .i64 a.args.length), (39, .int .i64 k)]) (fun _ => [(8512198, .box (domV d))]) (fun k => ∀ j, j < k → argBad d ps p.types a j = none) all_zero ft fun k hk hi => ?_
      by_cases hlt : k < a.args.length
      · obtain ⟨x, hx⟩ := get_some hlt
        obtain ⟨t, ht⟩ := get_some (l := p.types) (k := k) (by omega)
        have hT := f_domain_typeOf d (by omega) ps (by omega) x (ha.r x (mem_get hx))
        have hbad : argBad d ps p.types a k = tyoBad d t (typeOfA d ps x) := by simp only [argBad, hx, ht]
        cases hu : typeOfA d ps x with
        | none =>
          rw [hu] at hbad hT
          simp only [tyoBad] at hbad
          rw [scan0_hit hi hlt hbad]
          clear hi hbad ha
          repeat' (first | refine i_s rfl ?_ | refine sw ?_ | refine c_t rfl ?_ | refine jd rfl rfl ?_ | refine c_cond rfl (fun h => ?_) (fun h => ?_) | refine sf rfl rfl hT ?_ | fail)
          all_goals first
            | exact e_ret ⟨rfl, _, rfl, rfl⟩
            | (exfalso; clear hT; simp at *; omega)
        | some u =>
          rw [hu] at hbad hT
          simp only [tyoBad] at hbad
          obtain ⟨hu1, hu2⟩ := typeOfA_ok hd hps hu
          have hS := f_types_Is d.types hd.ty u t hu1 hu2
          cases hs : subB d.types u t with
          | true =>
            rw [hs] at hbad hS
            rw [if_pos rfl] at hbad
            clear ha
            repeat' (first | refine i_s rfl ?_ | refine sw ?_ | refine c_f rfl ?_ | refine ja rfl rfl ?_ | refine jd rfl rfl ?_ | refine c_cond rfl (fun h => ?_) (fun h => ?_) | refine sf rfl rfl hT ?_ | refine sf rfl rfl hS ?_ | fail)
            all_goals first
              | (exact e_for hlt (all_succ hi hbad) ft)
              | (exfalso; clear hT hS; simp at *; omega)
          | false =>
            rw [hs] at hbad hS
            rw [if_neg (by simp)] at hbad
            rw [scan0_hit hi hlt hbad]
            clear hi hbad ha
            repeat' (first | refine i_s rfl ?_ | refine sw ?_ | refine c_t rfl ?_ | refine c_f rfl ?_ | refine jd rfl rfl ?_ | refine c_cond rfl (fun h => ?_) (fun h => ?_) | refine sf rfl rfl hT ?_ | refine sf rfl rfl hS ?_ | fail)
            all_goals first
              | exact e_ret ⟨rfl, _, rfl, rfl⟩
              | (exfalso; clear hT hS; simp at *; omega)
      · rw [scan0_none fun j hj => hi j (by omega)]
        clear hi ha
        repeat' (first | refine i_s rfl ?_ | refine sw ?_ | refine c_cond rfl (fun h => ?_) (fun h => ?_))
        all_goals first
          | exact e_ret ⟨rfl, _, rfl, rfl⟩
          | (exfalso; simp at *; omega)
    · rw [atomCode_len h1 hp h2]
      refine Fn.step mixed k_domain_Atom ?_
      repeat' (first | refine i_len rfl ?_ | refine i_s rfl ?_ | refine sw ?_ | refine i_gt rfl ?_ | refine i_gf rfl ?_ | refine c_t rfl ?_ | refine jd rfl rfl ?_ | refine i_box rfl rfl ?_ | (refine sp ?_ ?_ <;> try intro h) | fail)
      all_goals first
        | exact e_ret ⟨rfl, _, rfl, rfl⟩
        | (exfalso; simp at *; omega)
def c_domain_atoms : Cmd :=
 (qS [qx 4 5312262 6 0, qc 8 0]
 (qT (qS [qm 12 2, qn 13 12, qm 14 3, qu 15 .gtr [] 13 14]
 (.cond (.t 15) (.seq (.ops [qc 8 2]) .ret) .skip))
 (qT (qS [qm 16 2, qn 17 16, qc 18 0]
 (.block 0 (.loop (qS [qu 19 .lss [] 18 17]
 (qT (.cond (.t 19) .skip (.exit 0))
 (qT (.block 1 (qS [qi 20 2 16 18, qL 21 2 20, qq 10 (.alloc 5312642 (.agg [.int .i64 0, .sl .nil []])), qs 2 10 21]
 (qS [qL 22 6 4, qm 23 1, qL 24 2 10, qk 25 133 [22, 23, 24], qm 11 25]
 (qS [qm 26 11, qv 27 .neq [.i] 26 0]
 (.cond (.t 27) (.seq (.ops [qm 28 11, qm 8 28]) .ret) .skip)))))
 (.ops [qv 29 .add [] 18 1, qm 18 29])))))))
 (.seq (.ops [qc 8 0]) .ret))))
def r_domain_atoms : List RVar := [.tmp 8]
def n_domain_atoms : Nat := 30
theorem k_domain_atoms : chkFn Go.Proofs.Tryz.prog 83 n_domain_atoms r_domain_atoms c_domain_atoms = true := by kernel_rfl
theorem f_domain_atoms (d : Dom) (hd : DoTy d) (ps : List Int) (hps : PsOk d ps) (l : List At) (hl : l.length ≤ 140737488355328) (ho : ∀ a ∈ l, AtOk a) (most : Nat) (hm : most ≤ 1000) :
    Fc Go.Proofs.Tryz.prog 83 [domV d, .sl .p (ps.map i64V), .sl .p (l.map atV), .int .i64 most] (.int .i64 (atomsCode d ps l most)) := by
  unfold atomsCode
  by_cases h3 : l.length > most
  · rw [if_pos h3]
    refine Fn.step mixed k_domain_atoms ?_
    repeat' (first | refine i_len rfl ?_ | refine i_s rfl ?_ | refine sw ?_ | refine i_box rfl rfl ?_ | refine c_cond rfl (fun h => ?_) (fun h => ?_))
    all_goals first
      | exact e_ret ⟨rfl, _, rfl, rfl⟩
      | (exfalso; simp at *; omega)
  · rw [if_neg h3]
    refine Fn.step mixed k_domain_atoms ?_
    repeat' (first | refine i_len rfl ?_ | refine i_s rfl ?_ | refine sw ?_ | refine i_box rfl rfl ?_ | refine c_cond rfl (fun h => ?_) (fun h => ?_))
    all_goals first
      | (exfalso; simp at *; omega)
      | skip
    refine c_for l.length (fun k => [(1, .sl .p (ps.map i64V)), (4, .bptr 5312262 0), (16, .sl .p (l.map atV)), (17, .int .i64 l.length), (18, .int .i64 k)]) (fun _ => [(5312262, .box (domV d))]) (fun k => ∀ j, j < k → ∀ x, l[j]? = some x → atomCode d ps x = 0) all_zero ft fun k hk hi => ?_
    by_cases hlt : k < l.length
    · obtain ⟨x, hx⟩ := get_some hlt
      have hA := f_domain_Atom d hd ps hps x (ho x (mem_get hx))
      by_cases hz : atomCode d ps x = 0
      · rw [hz] at hA
        repeat' (first | refine i_s rfl ?_ | refine sw ?_ | refine c_f rfl ?_ | refine ja rfl rfl ?_ | refine jd rfl rfl ?_ | refine i_stb rfl ?_ | refine i_alloc rfl ?_ | refine c_cond rfl (fun h => ?_) (fun h => ?_) | refine sf rfl rfl hA ?_ | fail)
        all_goals first
          | (exact e_for hlt (all_succ hi fun y hy => by rw [hx] at hy; cases hy; exact hz) ft)
          | (exfalso; clear hA; simp at *; omega)
      · rw [fnz_hit hi hx hz]
        clear hi
        generalize atomCode d ps x = e at *
        repeat' (first | refine i_s rfl ?_ | refine sw ?_ | refine ja rfl rfl ?_ | refine jd rfl rfl ?_ | refine i_stb rfl ?_ | refine i_alloc rfl ?_ | refine c_cond rfl (fun h => ?_) (fun h => ?_) | refine sf rfl rfl hA ?_ | fail)
        all_goals first
          | exact e_ret ⟨rfl, _, rfl, rfl⟩
          | (exfalso; clear hA; simp at *; omega)
    · rw [fnz_ok fun j hj => hi j (by omega)]
      clear hi
      repeat' (first | refine i_s rfl ?_ | refine sw ?_ | refine c_cond rfl (fun h => ?_) (fun h => ?_))
      all_goals first
        | exact e_ret ⟨rfl, _, rfl, rfl⟩
        | (exfalso; simp at *; omega)
def c_domain_literals : Cmd :=
 (qS [qx 3 1792198 6 0, qc 6 0]
 (qS [qq 7 (.newVec 1792450)]
 (qT (qS [qm 10 2, qn 11 10, qc 12 0]
 (.block 0 (.loop (qS [qu 13 .lss [] 12 11]
 (qT (.cond (.t 13) .skip (.exit 0))
 (qT (.block 1 (qS [qi 14 3 10 12, qL 15 3 14, qq 9 (.alloc 1792579 (.agg [.bool false, .int .i64 0, .sl .nil []])), qs 3 9 15]
 (.ops [qm 16 7, qf 17 1 9, qL 18 2 17, qq 19 (.bsl 2 [.t 18]), qq 20 (.append 2 32 49 (.t 16) (.t 19)), qm 7 20])))
 (.ops [qv 21 .add [] 12 1, qm 12 21])))))))
 (.seq (.ops [qL 22 6 3, qm 23 1, qm 24 7, qq 25 (.call .f (.c (.fn 83 [])) [.t 22, .t 23, .t 24, .c (.int .i64 8)]), qm 6 25]) .ret))))
def r_domain_literals : List RVar := [.tmp 6]
def n_domain_literals : Nat := 26
theorem k_domain_literals : chkFn Go.Proofs.Tryz.prog 28 n_domain_literals r_domain_literals c_domain_literals = true := by kernel_rfl
theorem f_domain_literals (d : Dom) (hd : DoTy d) (ps : List Int) (hps : PsOk d ps) (l : List Lit) (hl : l.length ≤ 3518437208883) (ho : ∀ x ∈ l, AtOk x.at_) :
    Fc Go.Proofs.Tryz.prog 28 [domV d, .sl .p (ps.map i64V), .sl .p (l.map litV)] (.int .i64 (atomsCode d ps (l.map Lit.at_) 8)) := by
  have hA := f_domain_atoms d hd ps hps (l.map Lit.at_) (by simp; omega) (by intro a ha; obtain ⟨x, hx, rfl⟩ := List.mem_map.1 ha; exact ho x hx) 8 (by omega)
  refine Fn.step mixed k_domain_literals ?_
  repeat (first | refine i_len rfl ?_ | refine i_s rfl ?_ | refine sw ?_ | refine i_box rfl rfl ?_ | refine i_nv rfl ?_)
  refine c_for l.length (fun k => [(1, .sl .p (ps.map i64V)), (3, .bptr 1792198 0), (7, .sl (.own 1792450) (((l.take k).map Lit.at_).map atV)), (10, .sl .p (l.map litV)), (11, .int .i64 l.length), (12, .int .i64 k)]) (fun k => [(1792198, .box (domV d)), (1792450, .vec (l.take k).length)]) (fun _ => True) trivial ⟨⟨rfl, rfl, by simp; rfl, rfl, rfl, rfl, trivial⟩, ⟨rfl, by simp; rfl, trivial⟩, rfl⟩ fun k hk _ => ?_
  have htl : (l.take k).length = k := by rw [List.length_take]; omega
  repeat (first | refine i_s rfl ?_ | refine sw ?_)
  refine c_cond rfl (fun h => ?_) (fun h => ?_)
  · have hlt : k < l.length := by simpa using h
    obtain ⟨x, hx⟩ := get_some hlt
    clear h hA
    repeat (first | refine i_s rfl ?_ | refine sw ?_ | refine jd rfl rfl ?_ | refine i_stb rfl ?_ | refine i_alloc rfl ?_)
    refine i_appM (l := (l.take k).map Lit.at_) (f := atV) (c := x.at_) (k := (l.take k).length) rfl rfl rfl (by simp) rfl (by omega) (by omega) ?_
    repeat (first | refine i_s rfl ?_ | refine sw ?_ | refine ja rfl rfl ?_)
    refine e_for hlt trivial ⟨⟨rfl, rfl, ?_, rfl, rfl, rfl, trivial⟩, ⟨rfl, ?_, trivial⟩, rfl⟩
    · rw [take_succ_get hx]; simp; rfl
    · rw [take_succ_get hx]; simp; rfl
  · have hge : k = l.length := by have : ¬ k < l.length := by simpa using h
                                  omega
    subst hge
    rw [List.take_length]
    clear h
    repeat' (first | refine i_s rfl ?_ | refine sw ?_ | refine sf rfl rfl hA ?_ | fail)
    exact e_ret ⟨rfl, _, rfl, rfl⟩
def c_domain_predicate_1 : Cmd :=
 (qS [qx 2 4928130 2 0, qb 3 false]
 (.seq (.ops [qf 4 0 2, ql 5 1 4, qf 6 0 1, ql 7 1 6, qu 8 .eql [.s] 5 7, qm 3 8]) .ret))
def r_domain_predicate_1 : List RVar := [.tmp 3]
def n_domain_predicate_1 : Nat := 9
theorem k_domain_predicate_1 : chkFn Go.Proofs.Tryz.prog 77 n_domain_predicate_1 r_domain_predicate_1 c_domain_predicate_1 = true := by kernel_rfl
theorem f_domain_predicate_1 (u t : Prd) : Fc Go.Proofs.Tryz.prog 77 [prdV u, .cptr .p (prdV t) 0] (.bool (u.name == t.name)) := by
  refine Fn.step mixed k_domain_predicate_1 ?_
  repeat' (first | refine i_s rfl ?_ | refine sw ?_ | refine i_box rfl rfl ?_)
  exact e_ret ⟨rfl, _, rfl, rfl⟩
def c_domain_predicate : Cmd :=
 (qS [qx 2 1600134 6 0, qc 4 0]
 (qS [qf 6 2 2, ql 7 1 6, qm 8 1, qi 9 2 7 8, qL 10 2 9, qq 5 (.alloc 1600322 (.agg [.str [], .sl .nil []])), qs 2 5 10]
 (qT (.block 0 (qS [qf 12 0 5, ql 13 1 12, qk 14 71 [13], qq 15 (.not (.t 14)), qm 16 15, qg 17 16 false (.faddr 0 (.t 5)), qg 18 16 false (.load false 1 (.t 17)), qg 19 16 false (.bin .eql false [.s] (.t 18) (.c (.str [110, 111, 116]))), qq 20 (.pick (.t 16) (.c (.bool true)) (.t 19)), qm 11 20]
 (.cond (.t 11) (.seq (.ops [qc 4 12]) .ret) (qS [qf 22 2 2, ql 23 1 22, qm 24 1, qq 25 (.slice false 2 (.t 23) none (some (.t 24))), qq 26 (.mkfn 77 [.t 5]), qk 27 76 [25, 26], qm 21 27]
 (.cond (.t 21) (.seq (.ops [qc 4 7]) .ret) .skip)))))
 (.seq (.ops [qL 28 6 2, qf 29 1 5, ql 30 1 29, qk 31 78 [28, 30], qm 4 31]) .ret))))
def r_domain_predicate : List RVar := [.tmp 4]
def n_domain_predicate : Nat := 32
theorem k_domain_predicate : chkFn Go.Proofs.Tryz.prog 25 n_domain_predicate r_domain_predicate c_domain_predicate = true := by kernel_rfl
theorem f_domain_predicate (d : Dom) (ho : DoOk d) (i : Nat) (p : Prd) (hp : d.preds[i]? = some p) : Fc Go.Proofs.Tryz.prog 25 [domV d, .int .i64 i] (.int .i64 (prdCode d i)) := by
  have hlt := get_lt hp
  have hpl := ho.preds.1
  have hpo := ho.preds.2 p (mem_get hp)
  have hN := f_types_IsName p.name hpo.1
  have hC := f_ContainsFunc_Predicate (d.preds.take i) (fun q => q.name == p.name) 77 [.cptr .p (prdV p) 0] (by simp; omega) (fun _ _ => rfl) rfl (fun u _ => f_domain_predicate_1 u p)
  have hP := f_domain_Params d ho.types.1 p.types (by omega)
  have hcode : prdCode d i = if nameB p.name = false ∨ p.name = notS then 12 else if (d.preds.take i).any (fun q => q.name == p.name) = true then 7 else paramsCode d.types.length p.types := by simp only [prdCode, hp]
  rw [hcode]
  clear hcode
  generalize nameB p.name = b1 at *
  generalize (d.preds.take i).any (fun q => q.name == p.name) = b2 at *
  generalize paramsCode d.types.length p.types = e at *
  clear ho
  cases b1 with
  | false =>
    rw [if_pos (.inl rfl)]
    refine Fn.step mixed k_domain_predicate ?_
    repeat' (first | refine i_s rfl ?_ | refine sw ?_ | refine i_gf rfl ?_ | refine c_t rfl ?_ | refine jd rfl rfl ?_ | refine i_stb rfl ?_ | refine i_alloc rfl ?_ | refine i_box rfl rfl ?_ | refine sf rfl rfl hN ?_ | fail)
    all_goals first
      | exact e_ret ⟨rfl, _, rfl, rfl⟩
      | (exfalso; clear hN hC hP; simp at *; done)
  | true =>
    by_cases c2 : p.name = notS
    · rw [if_pos (.inr c2)]
      have c3 : (p.name == [110, 111, 116]) = true := by rw [c2]; rfl
      refine Fn.step mixed k_domain_predicate ?_
      repeat' (first | refine i_s rfl ?_ | refine sw ?_ | refine i_gt rfl ?_ | refine jd rfl rfl ?_ | refine jh rfl rfl ?_ | refine i_stb rfl ?_ | refine i_alloc rfl ?_ | refine i_box rfl rfl ?_ | refine c_cond rfl (fun h => ?_) (fun h => ?_) | refine sf rfl rfl hN ?_ | fail)
      all_goals first
        | exact e_ret ⟨rfl, _, rfl, rfl⟩
        | (exfalso; clear hN hC hP; simp_all; done)
    · rw [if_neg (by simp [c2])]
      have c3 : (p.name == [110, 111, 116]) = false := by rw [beq_eq_false_iff_ne]; exact c2
      cases b2 with
      | true =>
        rw [if_pos rfl]
        refine Fn.step mixed k_domain_predicate ?_
        repeat' (first | refine i_s rfl ?_ | refine sw ?_ | refine i_gt rfl ?_ | refine c_t rfl ?_ | refine jd rfl rfl ?_ | refine jh rfl rfl ?_ | refine i_stb rfl ?_ | refine i_alloc rfl ?_ | refine i_box rfl rfl ?_ | refine c_cond rfl (fun h => ?_) (fun h => ?_) | refine sf rfl rfl hN ?_ | refine sf rfl rfl hC ?_ | fail)
        all_goals first
          | exact e_ret ⟨rfl, _, rfl, rfl⟩
          | (exfalso; clear hN hC hP; simp_all; done)
      | false =>
        rw [if_neg (by simp)]
        refine Fn.step mixed k_domain_predicate ?_
        repeat' (first | refine i_s rfl ?_ | refine sw ?_ | refine i_gt rfl ?_ | refine c_f rfl ?_ | refine jd rfl rfl ?_ | refine jh rfl rfl ?_ | refine i_stb rfl ?_ | refine i_alloc rfl ?_ | refine i_box rfl rfl ?_ | refine c_cond rfl (fun h => ?_) (fun h => ?_) | refine sf rfl rfl hN ?_ | refine sf rfl rfl hC ?_ | refine sf rfl rfl hP ?_ | fail)
        all_goals first
          | exact e_ret ⟨rfl, _, rfl, rfl⟩
          | (exfalso; clear hN hC hP; simp_all; done)
def c_domain_schema_1 : Cmd :=
 (qS [qx 2 5120135 7 0, qb 3 false]
 (.seq (.ops [qf 4 0 2, ql 5 1 4, qf 6 0 1, ql 7 1 6, qu 8 .eql [.s] 5 7, qm 3 8]) .ret))
def r_domain_schema_1 : List RVar := [.tmp 3]
def n_domain_schema_1 : Nat := 9
theorem k_domain_schema_1 : chkFn Go.Proofs.Tryz.prog 80 n_domain_schema_1 r_domain_schema_1 c_domain_schema_1 = true := by kernel_rfl
theorem f_domain_schema_1 (u t : Sch) : Fc Go.Proofs.Tryz.prog 80 [schV u, .cptr .p (schV t) 0] (.bool (u.name == t.name)) := by
  refine Fn.step mixed k_domain_schema_1 ?_
  repeat' (first | refine i_s rfl ?_ | refine sw ?_ | refine i_box rfl rfl ?_)
  exact e_ret ⟨rfl, _, rfl, rfl⟩
def c_domain_schema_2 : Cmd :=
 (qS [qx 2 5184130 2 0, qb 3 false]
 (.seq (.ops [qf 4 0 2, ql 5 1 4, qv 6 .lss [] 5 0, qm 7 6, qg 8 7 false (.faddr 0 (.t 2)), qg 9 7 false (.load false 1 (.t 8)), qg 10 7 false (.faddr 1 (.t 2)), qg 11 7 false (.load false 1 (.t 10)), qg 12 7 false (.bin .geq false [] (.t 9) (.t 11)), qq 13 (.pick (.t 7) (.c (.bool true)) (.t 12)), qm 14 13, qg 15 14 false (.faddr 1 (.t 2)), qg 16 14 false (.load false 1 (.t 15)), qg 17 14 false (.load false 1 (.t 1)), qg 18 14 false (.bin .geq false [] (.t 16) (.t 17)), qq 19 (.pick (.t 14) (.c (.bool true)) (.t 18)), qm 3 19]) .ret))
def r_domain_schema_2 : List RVar := [.tmp 3]
def n_domain_schema_2 : Nat := 20
theorem k_domain_schema_2 : chkFn Go.Proofs.Tryz.prog 81 n_domain_schema_2 r_domain_schema_2 c_domain_schema_2 = true := by kernel_rfl
theorem f_domain_schema_2 (p : Int × Int) (n : Nat) : Fc Go.Proofs.Tryz.prog 81 [pairV p, .cptr .p (.int .i64 n) 0] (.bool (pairBad n p)) := by
  refine Fn.step mixed k_domain_schema_2 ?_
  repeat' (first | refine i_s rfl ?_ | refine sw ?_ | refine i_gt rfl ?_ | refine i_gf rfl ?_ | refine i_box rfl rfl ?_ | refine i_g rfl (fun h => ?_) (fun h => ?_))
  all_goals (refine e_ret ⟨rfl, _, rfl, congrArg V.bool ?_⟩; unfold pairBad; rw [Bool.eq_iff_iff]; simp at *; (try omega))
theorem schSelf_ps {d : Dom} {s : Sch} (h : paramsCode d.types.length s.types = 0) : PsOk d s.types := by
  obtain ⟨h1, h2⟩ := paramsCode_ok h
  exact ⟨by omega, h2⟩
def c_domain_schema : Cmd :=
 (qS [qx 2 1664134 6 0, qc 4 0]
 (qS [qf 13 3 2, ql 14 1 13, qm 15 1, qi 16 7 14 15, qL 17 7 16, qq 5 (.alloc 1664327 (.agg [.str [], .sl .nil [], .sl .nil [], .sl .nil [], .sl .nil [], .sl .nil [], .int .i64 0])), qs 7 5 17]
 (qT (.block 0 (qS [qf 19 0 5, ql 20 1 19, qk 21 71 [20], qq 22 (.not (.t 21)), qm 18 22]
 (.cond (.t 18) (.seq (.ops [qc 4 12]) .ret) (qS [qf 24 3 2, ql 25 1 24, qm 26 1, qq 27 (.slice false 7 (.t 25) none (some (.t 26))), qq 28 (.mkfn 80 [.t 5]), qk 29 79 [27, 28], qm 23 29]
 (.cond (.t 23) (.seq (.ops [qc 4 7]) .ret) .skip)))))
 (qT (qS [qL 30 6 2, qf 31 1 5, ql 32 1 31, qk 33 78 [30, 32], qm 6 33]
 (qS [qm 34 6, qv 35 .neq [.i] 34 0]
 (.cond (.t 35) (.seq (.ops [qm 36 6, qm 4 36]) .ret) .skip)))
 (qS [qf 37 1 5, ql 38 1 37, qn 39 38, qq 7 (.alloc 1664449 (.int .i64 0)), qs 1 7 39]
 (qS [qq 40 (.mkfn 81 [.t 7]), qm 8 40]
 (qT (qS [qf 41 2 5, ql 42 1 41, qn 43 42, qv 44 .gtr [] 43 8]
 (.cond (.t 44) (.seq (.ops [qc 4 2]) .ret) .skip))
 (qT (qS [qf 45 2 5, ql 46 1 45, qm 47 8, qk 48 82 [46, 47]]
 (.cond (.t 48) (.seq (.ops [qc 4 3]) .ret) .skip))
 (qT (qS [qL 49 6 2, qf 50 1 5, ql 51 1 50, qf 52 3 5, ql 53 1 52, qk 54 28 [49, 51, 53], qm 9 54]
 (qS [qm 55 9, qv 56 .neq [.i] 55 0]
 (.cond (.t 56) (.seq (.ops [qm 57 9, qm 4 57]) .ret) .skip)))
 (qT (qS [qf 58 4 5, ql 59 1 58, qf 60 5 5, ql 61 1 60, qq 62 (.bsl 1 [.t 59, .t 61]), qn 63 62, qc 64 0]
 (.block 1 (.loop (qS [qu 65 .lss [] 64 63]
 (qT (.cond (.t 65) .skip (.exit 1))
 (qT (.block 2 (qS [qi 66 1 62 64, ql 67 1 66, qm 11 67]
 (qS [qL 68 6 2, qf 69 1 5, ql 70 1 69, qm 71 11, qq 72 (.call .f (.c (.fn 83 [])) [.t 68, .t 70, .t 71, .c (.int .i64 8)]), qm 12 72]
 (qS [qm 73 12, qv 74 .neq [.i] 73 0]
 (.cond (.t 74) (.seq (.ops [qm 75 12, qm 4 75]) .ret) .skip)))))
 (.ops [qv 76 .add [] 64 1, qm 64 76])))))))
 (qT (qS [qf 77 6 5, ql 78 1 77, qv 79 .lss [] 78 0, qm 80 79, qg 81 80 false (.faddr 6 (.t 5)), qg 82 80 false (.load false 1 (.t 81)), qg 83 80 false (.bin .gtr false [] (.t 82) (.c (.int .i64 100))), qq 84 (.pick (.t 80) (.c (.bool true)) (.t 83))]
 (.cond (.t 84) (.seq (.ops [qc 4 3]) .ret) .skip))
 (.seq (.ops [qc 4 0]) .ret))))))))))))
def r_domain_schema : List RVar := [.tmp 4]
def n_domain_schema : Nat := 85
theorem k_domain_schema : chkFn Go.Proofs.Tryz.prog 26 n_domain_schema r_domain_schema c_domain_schema = true := by kernel_rfl
theorem f_domain_schema (d : Dom) (hd : DoTy d) (ho : DoOk d) (i : Nat) (s : Sch) (hp : d.schemas[i]? = some s) : Fc Go.Proofs.Tryz.prog 26 [domV d, .int .i64 i] (.int .i64 (schCode d i)) := by
  have hlt := get_lt hp
  have hpl := ho.schemas.1
  have hso := ho.schemas.2 s (mem_get hp)
  have hst := hso.types
  have hsd := hso.diff
  have hN := f_types_IsName s.name hso.name
  have hC := f_ContainsFunc_Schema (d.schemas.take i) (fun q => q.name == s.name) 80 [.cptr .p (schV s) 0] (by simp; omega) (fun _ _ => rfl) rfl (fun u _ => f_domain_schema_1 u s)
  have hP := f_domain_Params d ho.types.1 s.types (by omega)
  have hcode : schCode d i = if nameB s.name = false then 12 else if (d.schemas.take i).any (fun q => q.name == s.name) = true then 7 else schSelf d s := by simp only [schCode, hp]
  rw [hcode]
  clear hcode
  generalize (d.schemas.take i).any (fun q => q.name == s.name) = b2 at *
  generalize nameB s.name = b1 at *
  cases b1 with
  | false =>
    rw [if_pos rfl]
    refine Fn.step mixed k_domain_schema ?_
    repeat' (first | refine i_s rfl ?_ | refine sw ?_ | refine c_t rfl ?_ | refine jd rfl rfl ?_ | refine i_stb rfl ?_ | refine i_alloc rfl ?_ | refine i_box rfl rfl ?_ | refine sf rfl rfl hN ?_ | fail)
    all_goals first
      | exact e_ret ⟨rfl, _, rfl, rfl⟩
      | (exfalso; clear hN hC hP; simp at *; done)
  | true =>
    rw [if_neg (by simp)]
    cases b2 with
    | true =>
      rw [if_pos rfl]
      refine Fn.step mixed k_domain_schema ?_
      repeat' (first | refine i_s rfl ?_ | refine sw ?_ | refine c_t rfl ?_ | refine c_f rfl ?_ | refine jd rfl rfl ?_ | refine jh rfl rfl ?_ | refine i_stb rfl ?_ | refine i_alloc rfl ?_ | refine i_box rfl rfl ?_ | refine sf rfl rfl hN ?_ | refine sf rfl rfl hC ?_ | fail)
      all_goals first
        | exact e_ret ⟨rfl, _, rfl, rfl⟩
        | (exfalso; clear hN hC hP; simp at *; done)
    | false =>
      rw [if_neg (by simp)]
      by_cases h1 : paramsCode d.types.length s.types = 0
      · have hps := schSelf_ps h1
        rw [h1] at hP
        by_cases h2 : s.diff.length > 8
        · have e : schSelf d s = 2 := by unfold schSelf; rw [if_neg (by simp [h1]), if_pos h2]
          rw [e]
          refine Fn.step mixed k_domain_schema ?_
          repeat' (first | refine i_len rfl ?_ | refine i_s rfl ?_ | refine sw ?_ | refine c_f rfl ?_ | refine jd rfl rfl ?_ | refine jh rfl rfl ?_ | refine i_stb rfl ?_ | refine i_alloc rfl ?_ | refine i_box rfl rfl ?_ | refine c_cond rfl (fun h => ?_) (fun h => ?_) | refine sf rfl rfl hN ?_ | refine sf rfl rfl hC ?_ | refine sf rfl rfl hP ?_ | fail)
          all_goals first
            | exact e_ret ⟨rfl, _, rfl, rfl⟩
            | (exfalso; clear hN hC hP; simp at *; omega)
        · have hD := f_ContainsFunc_2_int s.diff (pairBad s.types.length) 81 [.cptr .p (.int .i64 s.types.length) 0] (by omega) (fun _ _ => rfl) rfl (fun q _ => f_domain_schema_2 q s.types.length)
          cases h3 : s.diff.any (pairBad s.types.length) with
          | true =>
            have e : schSelf d s = 3 := by unfold schSelf; rw [if_neg (by simp [h1]), if_neg h2, if_pos h3]
            rw [e]
            rw [h3] at hD
            refine Fn.step mixed k_domain_schema ?_
            repeat' (first | refine i_len rfl ?_ | refine i_s rfl ?_ | refine sw ?_ | refine c_t rfl ?_ | refine c_f rfl ?_ | refine jd rfl rfl ?_ | refine jh rfl rfl ?_ | refine i_stb rfl ?_ | refine i_alloc rfl ?_ | refine i_box rfl rfl ?_ | refine c_cond rfl (fun h => ?_) (fun h => ?_) | refine sf rfl rfl hN ?_ | refine sf rfl rfl hC ?_ | refine sf rfl rfl hP ?_ | refine sf rfl rfl hD ?_ | fail)
            all_goals first
              | exact e_ret ⟨rfl, _, rfl, rfl⟩
              | (exfalso; clear hN hC hP hD; simp at *; omega)
          | false =>
            rw [h3] at hD
            have hL := f_domain_literals d hd s.types hps s.pre hso.pre hso.preA
            have hA1 := f_domain_atoms d hd s.types hps s.add (by have := hso.add; omega) hso.addA 8 (by omega)
            have hA2 := f_domain_atoms d hd s.types hps s.del (by have := hso.del; omega) hso.delA 8 (by omega)
            have e : schSelf d s = if atomsCode d s.types (s.pre.map Lit.at_) 8 ≠ 0 then atomsCode d s.types (s.pre.map Lit.at_) 8 else if atomsCode d s.types s.add 8 ≠ 0 then atomsCode d s.types s.add 8 else if atomsCode d s.types s.del 8 ≠ 0 then atomsCode d s.types s.del 8
              else if s.cost < 0 ∨ s.cost > 100 then 3 else 0 := by unfold schSelf; rw [if_neg (by simp [h1]), if_neg h2, if_neg (by simp [h3])]
            rw [e]
            clear e ho hso hps h1 h3
            generalize atomsCode d s.types (s.pre.map Lit.at_) 8 = c1 at *
            generalize atomsCode d s.types s.add 8 = c2 at *
            generalize atomsCode d s.types s.del 8 = c3 at *
            by_cases z1 : c1 = 0
            · subst z1
              rw [if_neg (by simp)]
              refine Fn.step mixed k_domain_schema ?_
              repeat' (first | refine i_len rfl ?_ | refine i_s rfl ?_ | refine sw ?_ | refine c_f rfl ?_ | refine jd rfl rfl ?_ | refine jh rfl rfl ?_ | refine i_stb rfl ?_ | refine i_alloc rfl ?_ | refine i_box rfl rfl ?_ | refine c_cond rfl (fun h => ?_) (fun h => ?_) | refine sf rfl rfl hN ?_ | refine sf rfl rfl hC ?_ | refine sf rfl rfl hP ?_ | refine sf rfl rfl hD ?_ | refine sf rfl rfl hL ?_ | fail)
              all_goals first
                | (exfalso; clear hN hC hP hD hL hA1 hA2; simp at *; omega)
                | skip
              clear hN hC hP hD hL
              refine c_for 2 (fun k => [(2, .bptr 1664134 0), (5, .bptr 1664327 0), (62, .sl .p ([s.add, s.del].map fun l => V.sl .p (l.map atV))), (63, .int .i64 2), (64, .int .i64 k)]) (fun _ => [(1664134, .box (domV d)), (1664327, .box (schV s))]) (fun k => (0 < k → c2 = 0) ∧ (1 < k → c3 = 0)) (by simp) ft fun k hk hi => ?_
              have ha : ([s.add, s.del] : List (List At))[0]? = some s.add := rfl
              have hb : ([s.add, s.del] : List (List At))[1]? = some s.del := rfl
              have hk3 : k = 0 ∨ k = 1 ∨ k = 2 := by omega
              rcases hk3 with rfl | rfl | rfl
              · clear hi hA2
                by_cases z2 : c2 = 0
                · subst z2
                  repeat' (first | refine i_s rfl ?_ | refine sw ?_ | refine c_t rfl ?_ | refine c_f rfl ?_ | refine ja rfl rfl ?_ | refine jd rfl rfl ?_ | refine sf rfl rfl hA1 ?_ | fail)
                  all_goals first
                    | (exact e_for (by omega) ⟨fun _ => rfl, fun h => by omega⟩ ft)
                    | (exfalso; clear hA1; simp at *; done)
                · rw [if_pos z2]
                  repeat' (first | refine i_s rfl ?_ | refine sw ?_ | refine c_t rfl ?_ | refine ja rfl rfl ?_ | refine jd rfl rfl ?_ | refine c_cond rfl (fun h => ?_) (fun h => ?_) | refine sf rfl rfl hA1 ?_ | fail)
                  all_goals first
                    | exact e_ret ⟨rfl, _, rfl, rfl⟩
                    | (exfalso; clear hA1; simp_all; done)
              · have z2 := hi.1 (by omega)
                rw [if_neg (by simp [z2])]
                clear hA1 hi
                by_cases z3 : c3 = 0
                · subst z3
                  repeat' (first | refine i_s rfl ?_ | refine sw ?_ | refine c_t rfl ?_ | refine c_f rfl ?_ | refine ja rfl rfl ?_ | refine jd rfl rfl ?_ | refine sf rfl rfl hA2 ?_ | fail)
                  all_goals first
                    | (exact e_for (by omega) ⟨fun _ => z2, fun h => rfl⟩ ft)
                    | (exfalso; clear hA2; simp at *; done)
                · rw [if_pos z3]
                  repeat' (first | refine i_s rfl ?_ | refine sw ?_ | refine c_t rfl ?_ | refine ja rfl rfl ?_ | refine jd rfl rfl ?_ | refine c_cond rfl (fun h => ?_) (fun h => ?_) | refine sf rfl rfl hA2 ?_ | fail)
                  all_goals first
                    | exact e_ret ⟨rfl, _, rfl, rfl⟩
                    | (exfalso; clear hA2; simp_all; done)
              · have z2 := hi.1 (by omega)
                have z3 := hi.2 (by omega)
                rw [if_neg (by simp [z2]), if_neg (by simp [z3])]
                clear hA1 hA2 hi
                repeat' (first | refine i_s rfl ?_ | refine sw ?_ | refine i_gt rfl ?_ | refine i_gf rfl ?_ | refine c_t rfl ?_ | refine c_f rfl ?_ | (refine sp ?_ ?_ <;> try intro h) | fail)
                all_goals first
                  | (refine e_ret ⟨rfl, _, rfl, congrArg (V.int .i64) ?_⟩; simp at *; omega)
                  | (exfalso; simp at *; omega)
                  | (refine e_ret ⟨rfl, _, rfl, congrArg (V.int .i64) ?_⟩; simp at *; (repeat' split) <;> omega)
            · rw [if_pos z1]
              refine Fn.step mixed k_domain_schema ?_
              repeat' (first | refine i_len rfl ?_ | refine i_s rfl ?_ | refine sw ?_ | refine c_f rfl ?_ | refine jd rfl rfl ?_ | refine jh rfl rfl ?_ | refine i_stb rfl ?_ | refine i_alloc rfl ?_ | refine i_box rfl rfl ?_ | refine c_cond rfl (fun h => ?_) (fun h => ?_) | refine sf rfl rfl hN ?_ | refine sf rfl rfl hC ?_ | refine sf rfl rfl hP ?_ | refine sf rfl rfl hD ?_ | refine sf rfl rfl hL ?_ | fail)
              all_goals first
                | exact e_ret ⟨rfl, _, rfl, rfl⟩
                | (exfalso; clear hN hC hP hD hL hA1 hA2; simp at *; omega)
                | (exfalso; clear hN hC hP hD hL hA1 hA2; simp_all; done)
      · have e : schSelf d s = paramsCode d.types.length s.types := by unfold schSelf; rw [if_pos h1]
        rw [e]
        clear e ho hso
        generalize paramsCode d.types.length s.types = c at *
        refine Fn.step mixed k_domain_schema ?_
        repeat' (first | refine i_len rfl ?_ | refine i_s rfl ?_ | refine sw ?_ | refine c_f rfl ?_ | refine jd rfl rfl ?_ | refine jh rfl rfl ?_ | refine i_stb rfl ?_ | refine i_alloc rfl ?_ | refine i_box rfl rfl ?_ | refine c_cond rfl (fun h => ?_) (fun h => ?_) | refine sf rfl rfl hN ?_ | refine sf rfl rfl hC ?_ | refine sf rfl rfl hP ?_ | fail)
        all_goals first
          | exact e_ret ⟨rfl, _, rfl, rfl⟩
          | (exfalso; clear hN hC hP; simp_all; done)
def c_domain_start_1 : Cmd :=
 (qS [qx 2 5440130 2 0, qb 3 false]
 (.seq (.ops [qL 4 2 1, qL 5 2 2, qk 6 86 [4, 5], qv 7 .eql [.i] 6 0, qm 3 7]) .ret))
def r_domain_start_1 : List RVar := [.tmp 3]
def n_domain_start_1 : Nat := 8
theorem k_domain_start_1 : chkFn Go.Proofs.Tryz.prog 85 n_domain_start_1 r_domain_start_1 c_domain_start_1 = true := by kernel_rfl
theorem f_domain_start_1 (u t : At) (hu : AtOk u) (ht : AtOk t) : Fc Go.Proofs.Tryz.prog 85 [atV u, .cptr .p (atV t) 0] (.bool (decide (t = u))) := by
  have h := f_domain_Compare t u ht hu
  refine Fn.step mixed k_domain_start_1 ?_
  repeat' (first | refine i_s rfl ?_ | refine sw ?_ | refine i_box rfl rfl ?_ | refine sf rfl rfl h ?_ | fail)
  refine e_ret ⟨rfl, _, rfl, congrArg V.bool ?_⟩
  by_cases e : t = u
  · rw [atomOrd_zero.2 e, decide_eq_true e]; rfl
  · have : atomOrd t u ≠ 0 := fun h => e (atomOrd_zero.1 h)
    rw [decide_eq_false e]
    simpa using this
def c_domain_start : Cmd :=
 (qS [qx 1 1728070 6 0, qc 2 0]
 (qT (qS [qL 6 6 1, qf 7 4 1, ql 8 1 7, qq 9 (.call .f (.c (.fn 83 [])) [.t 6, .c (.sl .nil []), .t 8, .c (.int .i64 40)]), qm 3 9]
 (qS [qm 10 3, qv 11 .neq [.i] 10 0]
 (.cond (.t 11) (.seq (.ops [qm 12 3, qm 2 12]) .ret) .skip)))
 (qT (qS [qf 13 4 1, ql 14 1 13, qn 15 14, qc 16 0]
 (.block 0 (.loop (qS [qu 17 .lss [] 16 15]
 (qT (.cond (.t 17) .skip (.exit 0))
 (qT (.block 1 (qS [qm 18 16, qi 19 2 14 16, qL 20 2 19, qq 5 (.alloc 1728322 (.agg [.int .i64 0, .sl .nil []])), qm 4 18, qs 2 5 20]
 (qS [qf 21 4 1, ql 22 1 21, qm 23 4, qq 24 (.slice false 2 (.t 22) none (some (.t 23))), qq 25 (.mkfn 85 [.t 5]), qk 26 84 [24, 25]]
 (.cond (.t 26) (.seq (.ops [qc 2 7]) .ret) .skip))))
 (.ops [qv 27 .add [] 16 1, qm 16 27])))))))
 (.seq (.ops [qc 2 0]) .ret))))
def r_domain_start : List RVar := [.tmp 2]
def n_domain_start : Nat := 28
theorem k_domain_start : chkFn Go.Proofs.Tryz.prog 27 n_domain_start r_domain_start c_domain_start = true := by kernel_rfl
theorem f_domain_start (d : Dom) (hd : DoTy d) (ho : DoOk d) : Fc Go.Proofs.Tryz.prog 27 [domV d] (.int .i64 (startCode d)) := by
  have hil := ho.init.1
  have hA := f_domain_atoms d hd [] ⟨by simp, by simp⟩ d.init (by omega) ho.init.2 40 (by omega)
  unfold startCode
  by_cases z : atomsCode d [] d.init 40 = 0
  · rw [if_neg (by simp [z])]
    rw [z] at hA
    refine Fn.step mixed k_domain_start ?_
    repeat' (first | refine i_len rfl ?_ | refine i_s rfl ?_ | refine sw ?_ | refine c_f rfl ?_ | refine i_box rfl rfl ?_ | refine sf rfl rfl hA ?_ | fail)
    all_goals first
      | (exfalso; clear hA; simp at *; done)
      | skip
    clear hA
    refine c_for d.init.length (fun k => [(1, .bptr 1728070 0), (14, .sl .p (d.init.map atV)), (15, .int .i64 d.init.length), (16, .int .i64 k)]) (fun _ => [(1728070, .box (domV d))]) (fun k => ∀ j, j < k → dupBad d.init j = none) all_zero ft fun k hk hi => ?_
    by_cases hlt : k < d.init.length
    · obtain ⟨x, hx⟩ := get_some hlt
      have hxo := ho.init.2 x (mem_get hx)
      have hC := f_ContainsFunc_Atom (d.init.take k) (fun u => decide (x = u)) 85 [.cptr .p (atV x) 0] (by simp; omega) (fun _ _ => rfl) rfl (fun u hu => f_domain_start_1 u x (ho.init.2 u (List.mem_of_mem_take hu)) hxo)
      have hbad : dupBad d.init k = if x ∈ d.init.take k then some 7 else none := by simp only [dupBad, hx]
      have hany : (d.init.take k).any (fun u => decide (x = u)) = decide (x ∈ d.init.take k) := by
        rw [Bool.eq_iff_iff]
        simp
      rw [hany] at hC
      by_cases hm : x ∈ d.init.take k
      · rw [if_pos hm] at hbad
        rw [decide_eq_true hm] at hC
        rw [scan0_hit hi hlt hbad]
        clear hi hbad hm hany ho
        repeat' (first | refine i_s rfl ?_ | refine sw ?_ | refine c_t rfl ?_ | refine jd rfl rfl ?_ | refine jh rfl rfl ?_ | refine i_stb rfl ?_ | refine i_alloc rfl ?_ | refine c_cond rfl (fun h => ?_) (fun h => ?_) | refine sf rfl rfl hC ?_ | fail)
        all_goals first
          | exact e_ret ⟨rfl, _, rfl, rfl⟩
          | (exfalso; clear hC; simp at *; omega)
      · rw [if_neg hm] at hbad
        rw [decide_eq_false hm] at hC
        clear hm hany ho
        repeat' (first | refine i_s rfl ?_ | refine sw ?_ | refine c_f rfl ?_ | refine ja rfl rfl ?_ | refine jd rfl rfl ?_ | refine jh rfl rfl ?_ | refine i_stb rfl ?_ | refine i_alloc rfl ?_ | refine c_cond rfl (fun h => ?_) (fun h => ?_) | refine sf rfl rfl hC ?_ | fail)
        all_goals first
          | (exact e_for hlt (all_succ hi hbad) ft)
          | (exfalso; clear hC; simp at *; omega)
    · rw [scan0_none fun j hj => hi j (by omega)]
      clear hi ho
      repeat' (first | refine i_s rfl ?_ | refine sw ?_ | refine c_cond rfl (fun h => ?_) (fun h => ?_))
      all_goals first
        | exact e_ret ⟨rfl, _, rfl, rfl⟩
        | (exfalso; simp at *; omega)
  · rw [if_pos z]
    clear ho
    generalize atomsCode d [] d.init 40 = c at *
    refine Fn.step mixed k_domain_start ?_
    repeat' (first | refine i_len rfl ?_ | refine i_s rfl ?_ | refine sw ?_ | refine i_box rfl rfl ?_ | refine c_cond rfl (fun h => ?_) (fun h => ?_) | refine sf rfl rfl hA ?_ | fail)
    all_goals first
      | exact e_ret ⟨rfl, _, rfl, rfl⟩
      | (exfalso; clear hA; simp_all; done)
end Hm
end
section
namespace Hm
open Go
set_option maxRecDepth 100000
set_option maxHeartbeats 1000000
theorem obBad_code (n : Nat) (l : List Obj) (i : Nat) : ∀ f, obBad n l i = some f → f.code ≠ 0 := by
  intro f h
  unfold obBad at h
  split at h
  · cases h
  · repeat' split at h
    all_goals cases h
    all_goals simp
theorem objectsFault_valid {n : Nat} {l : List Obj} (h : objectsFault n l = okF) : l.length ≤ 8 ∧ ∀ o ∈ l, -1 ≤ o.type ∧ o.type < n := by
  unfold objectsFault at h
  split at h
  · cases h
  · rename_i h8
    have hs := getD_ok (scan_prop (bad := obBad n l) (fun o => ∀ f, o = some f → f.code ≠ 0) (by simp) (fun i => obBad_code n l i) l.length 0) h
    refine ⟨by omega, fun o ho => ?_⟩
    obtain ⟨i, hi, e⟩ := List.getElem_of_mem ho
    have hg : l[i]? = some o := by rw [← e]; exact List.getElem?_eq_getElem hi
    have := scan_all _ _ hs i (Nat.zero_le _) (by omega)
    unfold obBad at this
    rw [hg] at this
    simp only at this
    split at this
    · cases this
    · split at this
      · cases this
      · split at this
        · cases this
        · omega
theorem objectsFault_code (n : Nat) (l : List Obj) : (objectsFault n l).code = 0 ↔ objectsFault n l = okF := by
  refine ⟨fun h => ?_, fun h => by rw [h]; rfl⟩
  unfold objectsFault at h ⊢
  split at h
  · cases h
  · rename_i h8
    rw [if_neg h8]
    have := scan_prop (bad := obBad n l) (fun o => ∀ f, o = some f → f.code ≠ 0) (by simp) (fun i => obBad_code n l i) l.length 0
    cases hs : scan (obBad n l) 0 l.length with
    | none => rfl
    | some f => rw [hs] at h; exact absurd h (this f hs)
end Hm
end
section
namespace Hm
open Go
set_option maxRecDepth 100000
set_option maxHeartbeats 4000000
theorem doTy_of {d : Dom} (h1 : typesFault d.types = okF) (h2 : objectsFault d.types.length d.objects = okF) : DoTy d := by
  obtain ⟨h3, h4⟩ := objectsFault_valid h2
  exact ⟨typesFault_valid h1, h3, h4⟩
def c_domain_Validate : Cmd :=
 (qS [qx 1 512070 6 0, qq 2 (.alloc 512130 (.agg [.int .i64 0, .int .i64 0]))]
 (qT (qS [qf 11 0 1, ql 12 1 11, qk 13 23 [12], qq 3 (.alloc 512194 (.agg [.int .i64 0, .int .i64 0])), qs 2 3 13]
 (qS [qL 14 2 3, qq 15 (.build [.int .i64 0, .int .i64 0] []), qq 16 (.bin .neq true [.i, .i] (.t 14) (.t 15))]
 (.cond (.t 16) (.seq (.ops [qf 17 0 3, ql 18 1 17, qq 19 (.build [.int .i64 0, .int .i64 0] [(0 , 1 , .t 18), (1 , 1 , .c (.int .i64 (-1)))]), qs 2 2 19]) .ret) .skip)))
 (qT (qS [qf 20 0 1, ql 21 1 20, qf 22 1 1, ql 23 1 22, qk 24 24 [21, 23], qq 4 (.alloc 512258 (.agg [.int .i64 0, .int .i64 0])), qs 2 4 24]
 (qS [qL 25 2 4, qq 26 (.build [.int .i64 0, .int .i64 0] []), qq 27 (.bin .neq true [.i, .i] (.t 25) (.t 26))]
 (.cond (.t 27) (.seq (.ops [qf 28 0 4, ql 29 1 28, qq 30 (.build [.int .i64 0, .int .i64 0] [(0 , 1 , .t 29), (1 , 1 , .c (.int .i64 (-2)))]), qs 2 2 30]) .ret) .skip)))
 (qT (qS [qf 31 2 1, ql 32 1 31, qn 33 32, qv 34 .gtr [] 33 8]
 (.cond (.t 34) (.seq (.ops [qq 35 (.build [.int .i64 0, .int .i64 0] [(0 , 1 , .c (.int .i64 2)), (1 , 1 , .c (.int .i64 (-3)))]), qs 2 2 35]) .ret) .skip))
 (qT (qS [qf 36 2 1, ql 37 1 36, qn 38 37, qc 39 0]
 (.block 0 (.loop (qS [qu 40 .lss [] 39 38]
 (qT (.cond (.t 40) .skip (.exit 0))
 (qT (.block 1 (qS [qm 41 39, qm 5 41]
 (qS [qL 42 6 1, qm 43 5, qk 44 25 [42, 43], qm 6 44]
 (qS [qm 45 6, qv 46 .neq [.i] 45 0]
 (.cond (.t 46) (.seq (.ops [qm 47 6, qq 48 (.build [.int .i64 0, .int .i64 0] [(0 , 1 , .t 47), (1 , 1 , .c (.int .i64 (-3)))]), qs 2 2 48]) .ret) .skip)))))
 (.ops [qv 49 .add [] 39 1, qm 39 49])))))))
 (qT (qS [qf 50 3 1, ql 51 1 50, qn 52 51, qv 53 .gtr [] 52 8]
 (.cond (.t 53) (.seq (.ops [qq 54 (.build [.int .i64 0, .int .i64 0] [(0 , 1 , .c (.int .i64 2)), (1 , 1 , .c (.int .i64 (-4)))]), qs 2 2 54]) .ret) .skip))
 (qT (qS [qf 55 3 1, ql 56 1 55, qn 57 56, qc 58 0]
 (.block 2 (.loop (qS [qu 59 .lss [] 58 57]
 (qT (.cond (.t 59) .skip (.exit 2))
 (qT (.block 3 (qS [qm 60 58, qm 7 60]
 (qS [qL 61 6 1, qm 62 7, qk 63 26 [61, 62], qm 8 63]
 (qS [qm 64 8, qv 65 .neq [.i] 64 0]
 (.cond (.t 65) (.seq (.ops [qm 66 8, qm 67 7, qq 68 (.build [.int .i64 0, .int .i64 0] [(0 , 1 , .t 66), (1 , 1 , .t 67)]), qs 2 2 68]) .ret) .skip)))))
 (.ops [qv 69 .add [] 58 1, qm 58 69])))))))
 (qT (qS [qL 70 6 1, qk 71 27 [70], qm 9 71]
 (qS [qm 72 9, qv 73 .neq [.i] 72 0]
 (.cond (.t 73) (.seq (.ops [qm 74 9, qq 75 (.build [.int .i64 0, .int .i64 0] [(0 , 1 , .t 74), (1 , 1 , .c (.int .i64 (-5)))]), qs 2 2 75]) .ret) .skip)))
 (qT (qS [qL 76 6 1, qf 77 5 1, ql 78 1 77, qq 79 (.call .f (.c (.fn 28 [])) [.t 76, .c (.sl .nil []), .t 78]), qm 10 79]
 (qS [qm 80 10, qv 81 .neq [.i] 80 0]
 (.cond (.t 81) (.seq (.ops [qm 82 10, qq 83 (.build [.int .i64 0, .int .i64 0] [(0 , 1 , .t 82), (1 , 1 , .c (.int .i64 (-6)))]), qs 2 2 83]) .ret) .skip)))
 (.seq (.ops [qq 84 (.build [.int .i64 0, .int .i64 0] []), qs 2 2 84]) .ret))))))))))
def r_domain_Validate : List RVar := [.cell true 2 2]
def n_domain_Validate : Nat := 85
theorem k_domain_Validate : chkFn Go.Proofs.Tryz.prog 8 n_domain_Validate r_domain_Validate c_domain_Validate = true := by kernel_rfl
theorem f_domain_Validate (d : Dom) (ho : DoOk d) : Fc Go.Proofs.Tryz.prog 8 [domV d] (ftV (domFault d)) := by
  have hT := f_types_Validate d.types ho.types
  have hO := f_types_Objects d.types ho.types.1 d.objects ho.objects
  unfold domFault
  by_cases t1 : typesFault d.types = okF
  · rw [if_neg (by simp [t1])]
    rw [t1] at hT
    by_cases t2 : objectsFault d.types.length d.objects = okF
    · rw [if_neg (by simp [t2])]
      rw [t2] at hO
      have hd := doTy_of t1 t2
      have hpl := ho.preds.1
      have hsl := ho.schemas.1
      by_cases t3 : d.preds.length > 8
      · rw [if_pos t3]
        refine Fn.step mixed k_domain_Validate ?_
        repeat' (first | refine i_len rfl ?_ | refine i_s rfl ?_ | refine sw ?_ | refine c_f rfl ?_ | refine i_stb rfl ?_ | refine i_alloc rfl ?_ | refine i_box rfl rfl ?_ | refine c_cond rfl (fun h => ?_) (fun h => ?_) | refine sf rfl rfl hT ?_ | refine sf rfl rfl hO ?_ | fail)
        all_goals first
          | exact e_ret ⟨rfl, _, rfl, rfl⟩
          | (exfalso; clear hT hO; simp at *; omega)
          | (exfalso; clear hT hO; simp_all; done)
      · rw [if_neg t3]
        refine Fn.step mixed k_domain_Validate ?_
        repeat' (first | refine i_len rfl ?_ | refine i_s rfl ?_ | refine sw ?_ | refine c_f rfl ?_ | refine i_stb rfl ?_ | refine i_alloc rfl ?_ | refine i_box rfl rfl ?_ | refine c_cond rfl (fun h => ?_) (fun h => ?_) | refine sf rfl rfl hT ?_ | refine sf rfl rfl hO ?_ | fail)
        all_goals first
          | (exfalso; clear hT hO; simp at *; omega)
          | (exfalso; clear hT hO; simp [okF] at *; done)
          | skip
        clear hT hO
        refine c_for d.preds.length (fun k => [(1, .bptr 512070 0), (2, .bptr 512130 0), (38, .int .i64 d.preds.length), (39, .int .i64 k)]) (fun _ => [(512070, .box (domV d)), (512130, .box (ftV okF))]) (fun k => ∀ j, j < k → nzF (prdCode d) (fun _ => -3) j = none) all_zero ft fun k hk hi => ?_
        by_cases hlt : k < d.preds.length
        · obtain ⟨p, hp⟩ := get_some hlt
          have hP := f_domain_predicate d ho k p hp
          by_cases z : prdCode d k = 0
          · have hn : nzF (prdCode d) (fun _ => -3) k = none := by unfold nzF; rw [if_pos z]
            rw [z] at hP
            clear ho
            repeat' (first | refine i_len rfl ?_ | refine i_s rfl ?_ | refine sw ?_ | refine c_f rfl ?_ | refine ja rfl rfl ?_ | refine i_stb rfl ?_ | refine c_cond rfl (fun h => ?_) (fun h => ?_) | refine sf rfl rfl hP ?_ | fail)
            all_goals first
              | (exact e_for hlt (all_succ hi hn) ft)
              | (exfalso; clear hP; simp at *; omega)
          · rw [scan0_hit hi hlt (show nzF (prdCode d) (fun _ => -3) k = some ⟨prdCode d k, -3⟩ by unfold nzF; rw [if_neg z])]
            clear hi ho
            generalize prdCode d k = c at *
            repeat' (first | refine i_len rfl ?_ | refine i_s rfl ?_ | refine sw ?_ | refine ja rfl rfl ?_ | refine i_stb rfl ?_ | refine c_cond rfl (fun h => ?_) (fun h => ?_) | refine sf rfl rfl hP ?_ | fail)
            all_goals first
              | exact e_ret ⟨rfl, _, rfl, rfl⟩
              | (exfalso; clear hP; simp at *; omega)
        · rw [scan0_none fun j hj => hi j (by omega)]
          clear hi
          by_cases t4 : d.schemas.length > 8
          · simp only
            rw [if_pos t4]
            clear ho
            repeat' (first | refine i_len rfl ?_ | refine i_s rfl ?_ | refine sw ?_ | refine i_stb rfl ?_ | refine c_cond rfl (fun h => ?_) (fun h => ?_))
            all_goals first
              | exact e_ret ⟨rfl, _, rfl, rfl⟩
              | (exfalso; simp at *; omega)
          · simp only
            rw [if_neg t4]
            repeat' (first | refine i_len rfl ?_ | refine i_s rfl ?_ | refine sw ?_ | refine i_stb rfl ?_ | refine c_cond rfl (fun h => ?_) (fun h => ?_))
            all_goals first
              | (exfalso; simp at *; omega)
              | skip
            refine c_for d.schemas.length (fun k => [(1, .bptr 512070 0), (2, .bptr 512130 0), (57, .int .i64 d.schemas.length), (58, .int .i64 k)]) (fun _ => [(512070, .box (domV d)), (512130, .box (ftV okF))]) (fun k => ∀ j, j < k → nzF (schCode d) (fun i => i) j = none) all_zero ft fun k hk hi => ?_
            by_cases hlt : k < d.schemas.length
            · obtain ⟨s, hs⟩ := get_some hlt
              have hP := f_domain_schema d hd ho k s hs
              by_cases z : schCode d k = 0
              · have hn : nzF (schCode d) (fun i => i) k = none := by unfold nzF; rw [if_pos z]
                rw [z] at hP
                clear ho
                repeat' (first | refine i_s rfl ?_ | refine sw ?_ | refine c_f rfl ?_ | refine ja rfl rfl ?_ | refine c_cond rfl (fun h => ?_) (fun h => ?_) | refine sf rfl rfl hP ?_ | fail)
                all_goals first
                  | (exact e_for hlt (all_succ hi hn) ft)
                  | (exfalso; clear hP; simp at *; omega)
              · rw [scan0_hit hi hlt (show nzF (schCode d) (fun i => i) k = some ⟨schCode d k, k⟩ by unfold nzF; rw [if_neg z])]
                clear hi ho
                generalize schCode d k = c at *
                repeat' (first | refine i_s rfl ?_ | refine sw ?_ | refine ja rfl rfl ?_ | refine i_stb rfl ?_ | refine c_cond rfl (fun h => ?_) (fun h => ?_) | refine sf rfl rfl hP ?_ | fail)
                all_goals first
                  | exact e_ret ⟨rfl, _, rfl, rfl⟩
                  | (exfalso; clear hP; simp at *; omega)
            · rw [scan0_none fun j hj => hi j (by omega)]
              clear hi
              simp only
              have hS := f_domain_start d hd ho
              have hG := f_domain_literals d hd [] ⟨by simp, by simp⟩ d.goal ho.goal.1 ho.goal.2
              clear ho
              generalize startCode d = c1 at *
              generalize atomsCode d [] (d.goal.map Lit.at_) 8 = c2 at *
              by_cases z1 : c1 = 0
              · subst z1
                rw [if_neg (by simp)]
                by_cases z2 : c2 = 0
                · subst z2
                  rw [if_neg (by simp)]
                  repeat' (first | refine i_s rfl ?_ | refine sw ?_ | refine c_f rfl ?_ | refine i_stb rfl ?_ | refine c_cond rfl (fun h => ?_) (fun h => ?_) | refine sf rfl rfl hS ?_ | refine sf rfl rfl hG ?_ | fail)
                  all_goals first
                    | exact e_ret ⟨rfl, _, rfl, rfl⟩
                    | (exfalso; clear hS hG; simp at *; omega)
                · rw [if_pos z2]
                  repeat' (first | refine i_s rfl ?_ | refine sw ?_ | refine c_f rfl ?_ | refine i_stb rfl ?_ | refine c_cond rfl (fun h => ?_) (fun h => ?_) | refine sf rfl rfl hS ?_ | refine sf rfl rfl hG ?_ | fail)
                  all_goals first
                    | exact e_ret ⟨rfl, _, rfl, rfl⟩
                    | (exfalso; clear hS hG; simp at *; omega)
              · rw [if_pos z1]
                repeat' (first | refine i_s rfl ?_ | refine sw ?_ | refine i_stb rfl ?_ | refine c_cond rfl (fun h => ?_) (fun h => ?_) | refine sf rfl rfl hS ?_ | refine sf rfl rfl hG ?_ | fail)
                all_goals first
                  | exact e_ret ⟨rfl, _, rfl, rfl⟩
                  | (exfalso; clear hS hG; simp at *; omega)
    · rw [if_pos t2]
      have ht2 : (objectsFault d.types.length d.objects).code ≠ 0 := fun h => t2 ((objectsFault_code _ _).1 h)
      clear ho
      generalize objectsFault d.types.length d.objects = F at *
      refine Fn.step mixed k_domain_Validate ?_
      repeat' (first | refine i_len rfl ?_ | refine i_s rfl ?_ | refine sw ?_ | refine c_f rfl ?_ | refine i_stb rfl ?_ | refine i_alloc rfl ?_ | refine i_box rfl rfl ?_ | refine c_cond rfl (fun h => ?_) (fun h => ?_) | refine sf rfl rfl hT ?_ | refine sf rfl rfl hO ?_ | fail)
      all_goals first
        | exact e_ret ⟨rfl, _, rfl, rfl⟩
        | (exfalso; clear hT hO; simp at *; omega)
        | (exfalso; clear hT hO; simp_all; done)
        | (exfalso; clear hT hO; simp [okF] at *; done)
  · rw [if_pos t1]
    have ht1 : (typesFault d.types).code ≠ 0 := fun h => t1 ((typesFault_code _).1 h)
    clear ho hO
    generalize typesFault d.types = F at *
    refine Fn.step mixed k_domain_Validate ?_
    repeat' (first | refine i_s rfl ?_ | refine sw ?_ | refine i_stb rfl ?_ | refine i_alloc rfl ?_ | refine i_box rfl rfl ?_ | refine c_cond rfl (fun h => ?_) (fun h => ?_) | refine sf rfl rfl hT ?_ | fail)
    all_goals first
      | exact e_ret ⟨rfl, _, rfl, rfl⟩
      | (exfalso; clear hT; simp at *; omega)
      | (exfalso; clear hT; simp_all; done)
      | (exfalso; clear hT; simp [okF] at *; done)
abbrev BX : Nat := 705153
abbrev WNS : List Nat := [705153, 715522]
abbrev wS (b : Nat) (R : List Sx) : List (Nat × Blk) := [(705153, .box (.tag b [.sl (.own 715522) (R.map sxV)])), (715522, .vec R.length)]
abbrev fnV (e : Nat × List V) : V := .fn e.1 e.2
structure El (b : Nat) (e : Nat × List V) (t : Tr) : Prop where
  pure : pureL e.2 = true
  cl : ∀ ns, closedL ns e.2 = true
  run : ∀ (G : Type) (H : HT G) (g : G) (R : List Sx), R.length + tsz t ≤ 1000000 → Cc Go.Proofs.Tryz.prog H e.1 e.2 WNS (stOf (wS b R)) g fun r σ' g' => (r = .int .i64 ((R.length + tsz t : Nat) - 1 : Int) ∧ σ' = stOf (wS b (R ++ flt R.length t))) ∧ g' = g
def Els (b : Nat) (es : List (Nat × List V)) (ts : List Tr) : Prop := es.length = ts.length ∧ ∀ (i : Nat) (e : Nat × List V) (t : Tr), es[i]? = some e → ts[i]? = some t → El b e t
theorem Els.nil (b : Nat) : Els b [] [] := ⟨rfl, fun i e t h => by simp at h⟩
theorem Els.cons {b : Nat} {e : Nat × List V} {t : Tr} {es : List (Nat × List V)} {ts : List Tr} (h : El b e t) (k : Els b es ts) : Els b (e :: es) (t :: ts) := by
  refine ⟨by simp [k.1], fun i e' t' h1 h2 => ?_⟩
  cases i with
  | zero =>
    simp only [List.getElem?_cons_zero, Option.some.injEq] at h1 h2
    subst h1 h2
    exact h
  | succ i => exact k.2 i e' t' (by simpa using h1) (by simpa using h2)
theorem Els.append {b : Nat} {es fs : List (Nat × List V)} {ts us : List Tr} (h : Els b es ts) (k : Els b fs us) : Els b (es ++ fs) (ts ++ us) := by
  induction es generalizing ts with
  | nil =>
    cases ts with
    | nil => exact k
    | cons t r => have := h.1; simp at this
  | cons e es ih =>
    cases ts with
    | nil => have := h.1; simp at this
    | cons t r =>
      refine Els.cons (h.2 0 e t rfl rfl) (ih ⟨by have := h.1; simpa using this, fun i e' t' h1 h2 => h.2 (i + 1) e' t' (by simpa using h1) (by simpa using h2)⟩)
theorem Els.map {α : Type} {b : Nat} {f : α → Nat × List V} {T : α → Tr} : ∀ {l : List α}, (∀ x ∈ l, El b (f x) (T x)) → Els b (l.map f) (l.map T)
  | [], _ => Els.nil b
  | x :: r, h => Els.cons (h x (by simp)) (Els.map fun y hy => h y (by simp [hy]))
theorem tszL_take {l : List Tr} {k : Nat} {t : Tr} (h : l[k]? = some t) : tszL (l.take (k + 1)) = tszL (l.take k) + tsz t := by
  rw [take_succ_get h, tszL_append]; simp [tszL]
theorem tszL_take_le : ∀ (l : List Tr) (k : Nat), tszL (l.take k) ≤ tszL l
  | [], k => by simp
  | t :: r, 0 => by simp [tszL]
  | t :: r, k + 1 => by have := tszL_take_le r k; simp only [List.take_succ_cons, tszL]; omega
theorem wS_vec (R : List Sx) (x : Sx) : Blk.vec (R.length + 1) = .vec (R ++ [x]).length := by simp
theorem wS_nil (R : List Sx) (n : Nat) : R ++ fltL n [] = R := by simp [fltL]
def c_domain_writer_symbol : Cmd :=
 (qS [qc 4 0]
 (qS [qm 5 0, qm 6 0, qq 7 (.nilck (.t 6)), qf 8 0 7, ql 9 1 8, qm 10 1, qq 11 (.build [.str [], .sl .p []] [(0 , 1 , .t 10)]), qq 12 (.bsl 2 [.t 11]), qq 13 (.append 2 40 120 (.t 9) (.t 12)), qq 14 (.nilck (.t 5)), qf 15 0 14, qs 1 15 13]
 (.seq (.ops [qm 16 0, qq 17 (.nilck (.t 16)), qf 18 0 17, ql 19 1 18, qn 20 19, qv 21 .sub [] 20 1, qm 4 21]) .ret)))
def r_domain_writer_symbol : List RVar := [.tmp 4]
def n_domain_writer_symbol : Nat := 22
theorem k_domain_writer_symbol : chkFn Go.Proofs.Tryz.prog 93 n_domain_writer_symbol r_domain_writer_symbol c_domain_writer_symbol = true := by kernel_rfl
theorem ct_symbol {G : Type} {H : HT G} (b : Nat) (s : List UInt8) (R : List Sx) (hR : R.length ≤ 1000000) (g : G) : Cc Go.Proofs.Tryz.prog H 93 [.raw b 0, .str s] WNS (stOf (wS b R)) g fun r σ' g' => (r = .int .i64 R.length ∧ σ' = stOf (wS b (R ++ [⟨s, []⟩]))) ∧ g' = g := by
  refine CT.step _ mixed k_domain_writer_symbol (fun nm hnm => stOf_mem _ nm hnm) fun hM => ?_
  repeat (first | refine i_s rfl ?_ | refine sw ?_)
  refine i_ldr BX rfl rfl rfl ?_
  repeat refine i_s rfl ?_
  refine i_appM (c := (⟨s, []⟩ : Sx)) rfl rfl rfl rfl rfl (by omega) (by omega) ?_
  repeat refine i_s rfl ?_
  refine i_str BX rfl rfl rfl ?_
  refine i_nil ?_
  refine e_seq ?_
  refine c_cut [(0, .raw b 0)] (wS b (R ++ [(⟨s, []⟩ : Sx)])) ⟨⟨rfl, trivial⟩, ⟨rfl, ?_, trivial⟩, rfl⟩ ?_
  · exact wS_vec R ⟨s, []⟩
  have hl : (R ++ [(⟨s, []⟩ : Sx)]).length = R.length + 1 := by simp
  generalize R ++ [(⟨s, []⟩ : Sx)] = R2 at *
  repeat (first | refine i_s rfl ?_ | refine sw ?_)
  refine i_ldr BX rfl rfl rfl ?_
  repeat (first | refine i_len rfl ?_ | refine i_s rfl ?_ | refine sw ?_ | refine jb rfl rfl ?_)
  refine e_ret ⟨rfl, _, rfl, rfl, rfl, ⟨?_, restr_stOf _ _⟩, rfl⟩
  show V.int .i64 _ = _
  congr 1
  omega
def c_domain_writer_name_1 : Cmd :=
 (qS [qc 2 0]
 (.seq (.ops [ql 3 1 0, ql 4 1 1, qq 5 (.call (.s [705153, 715522]) (.c (.fn 93 [])) [.t 3, .t 4]), qm 2 5]) .ret))
def r_domain_writer_name_1 : List RVar := [.tmp 2]
def n_domain_writer_name_1 : Nat := 6
theorem k_domain_writer_name_1 : chkFn Go.Proofs.Tryz.prog 92 n_domain_writer_name_1 r_domain_writer_name_1 c_domain_writer_name_1 = true := by kernel_rfl
theorem el_name (b : Nat) (s : List UInt8) : El b (92, [.cptr .p (.raw b 0) 0, .cptr .p (.str s) 0]) (.sym s) := by
  refine ⟨rfl, fun ns => rfl, fun G H g R hR => ?_⟩
  refine CT.step _ mixed k_domain_writer_name_1 (fun nm hnm => stOf_mem _ nm hnm) fun hM => ?_
  repeat (first | refine i_s rfl ?_ | refine sw ?_)
  refine i_cs rfl rfl rfl rfl (ct_symbol b s R (by omega) g) ?_
  rintro _ _ _ ⟨⟨rfl, rfl⟩, rfl⟩
  repeat (first | refine i_s rfl ?_ | refine sw ?_)
  refine e_ret ⟨rfl, _, rfl, rfl, rfl, ⟨?_, ?_⟩, rfl⟩
  · show V.int .i64 _ = _
    congr 1
    simp [tsz]
  · exact restr_stOf _ _
def c_domain_writer_name : Cmd :=
 (qS [qx 2 2688129 1 0, qx 3 2688193 1 1, qq 4 (.mov (.c (.nilfn)))]
 (.seq (.ops [qq 5 (.mkfn 92 [.t 2, .t 3]), qm 4 5]) .ret))
def r_domain_writer_name : List RVar := [.tmp 4]
def n_domain_writer_name : Nat := 6
theorem k_domain_writer_name : chkFn Go.Proofs.Tryz.prog 42 n_domain_writer_name r_domain_writer_name c_domain_writer_name = true := by kernel_rfl
theorem f_writer_name (b : Nat) (s : List UInt8) : Fc Go.Proofs.Tryz.prog 42 [.raw b 0, .str s] (fnV (92, [.cptr .p (.raw b 0) 0, .cptr .p (.str s) 0])) := by
  refine Fn.step mixed k_domain_writer_name ?_
  repeat' (first | refine i_s rfl ?_ | refine sw ?_ | refine i_box rfl rfl ?_)
  exact e_ret ⟨rfl, _, rfl, rfl⟩
def c_domain_writer_list : Cmd :=
 (qS [qc 4 0]
 (qS [qq 5 (.newVec 2624321)]
 (.seq (qS [qm 8 1, qn 9 8, qc 10 0]
 (.block 0 (.loop (qS [qu 11 .lss [] 10 9]
 (qT (.cond (.t 11) .skip (.exit 0))
 (qT (.block 1 (qS [qi 12 1 8 10, ql 13 1 12, qm 7 13]
 (.ops [qm 14 5, qm 15 7, qq 16 (.call (.s [705153, 715522]) (.t 15) []), qq 17 (.bsl 1 [.t 16]), qq 18 (.append 1 8 3 (.t 14) (.t 17)), qm 5 18])))
 (.ops [qv 19 .add [] 10 1, qm 10 19]))))))) (qT (.frz 5)
 (qS [qm 20 0, qm 21 0, qq 22 (.nilck (.t 21)), qf 23 0 22, ql 24 1 23, qm 25 5, qq 26 (.build [.str [], .sl .nil []] [(1 , 1 , .t 25)]), qq 27 (.bsl 2 [.t 26]), qq 28 (.append 2 40 120 (.t 24) (.t 27)), qq 29 (.nilck (.t 20)), qf 30 0 29, qs 1 30 28]
 (.seq (.ops [qm 31 0, qq 32 (.nilck (.t 31)), qf 33 0 32, ql 34 1 33, qn 35 34, qv 36 .sub [] 35 1, qm 4 36]) .ret))))))
def r_domain_writer_list : List RVar := [.tmp 4]
def n_domain_writer_list : Nat := 37
theorem k_domain_writer_list : chkFn Go.Proofs.Tryz.prog 41 n_domain_writer_list r_domain_writer_list c_domain_writer_list = true := by kernel_rfl
theorem ct_wlist {G : Type} {H : HT G} (b : Nat) (es : List (Nat × List V)) (ts : List Tr) (hE : Els b es ts) (R : List Sx) (hR : R.length + tsz (.lst ts) ≤ 1000000) (hl : es.length ≤ 1000000) (g : G) : Cc Go.Proofs.Tryz.prog H 41 [.raw b 0, .sl .p (es.map fnV)] WNS (stOf (wS b R)) g fun r σ' g' => (r = .int .i64 ((R.length + tsz (.lst ts) : Nat) - 1 : Int) ∧ σ' = stOf (wS b (R ++ flt R.length (.lst ts)))) ∧ g' = g := by
  obtain ⟨hlen, hE⟩ := hE
  refine CT.step _ mixed k_domain_writer_list (fun nm hnm => stOf_mem _ nm hnm) fun hM => ?_
  repeat (first | refine i_len rfl ?_ | refine i_s rfl ?_ | refine sw ?_ | refine i_nv rfl ?_)
  refine c_for es.length (fun k => [(0, .raw b 0), (5, .sl (.own 2624321) ((chs R.length (ts.take k)).map i64V)), (8, .sl .p (es.map fnV)), (9, .int .i64 es.length), (10, .int .i64 k)])
    (fun k => (2624321, .vec (chs R.length (ts.take k)).length) :: wS b (R ++ fltL R.length (ts.take k))) (fun _ => True) trivial ⟨⟨rfl, rfl, rfl, rfl, rfl, trivial⟩, ⟨rfl, ?_, ?_, trivial⟩, rfl⟩ fun k hk _ => ?_
  · show _ = Blk.box (.tag b [.sl _ ((R ++ fltL R.length []).map sxV)])
    rw [wS_nil]; rfl
  · show _ = Blk.vec (R ++ fltL R.length []).length
    rw [wS_nil]; rfl
  have hsz := tszL_take_le ts k
  have hRl : (R ++ fltL R.length (ts.take k)).length = R.length + tszL (ts.take k) := by rw [List.length_append, fltL_len]
  simp only [tsz] at hR
  have hcl : (chs R.length (ts.take k)).length = k := by rw [chs_len]; simp; omega
  by_cases hlt : k < es.length
  · obtain ⟨e, he⟩ := get_some hlt
    obtain ⟨t, ht⟩ := get_some (l := ts) (k := k) (by omega)
    have hEl := hE k e t he ht
    have hs1 := tszL_take ht
    have hs2 := tszL_take_le ts (k + 1)
    have hrun := hEl.run G H g (R ++ fltL R.length (ts.take k)) (by omega)
    have hcl2 := hEl.cl
    have e1 : R ++ fltL R.length (ts.take (k + 1)) = (R ++ fltL R.length (ts.take k)) ++ flt (R.length + tszL (ts.take k)) t := by
      rw [take_succ_get ht, fltL_append, List.append_assoc]; simp [fltL]
    have e2 : chs R.length (ts.take (k + 1)) = chs R.length (ts.take k) ++ [((R.length + tszL (ts.take k) + tsz t : Nat) : Int) - 1] := by
      rw [take_succ_get ht, chs_append]; simp [chs]
    rw [hRl] at hrun
    clear hEl hE
    repeat' (first | refine i_s rfl ?_ | refine sw ?_ | refine jd rfl rfl ?_ | refine c_cond rfl (fun h => ?_) (fun h => ?_))
    all_goals first
      | (exfalso; clear hrun hcl2; simp at *; done)
      | (exfalso; clear hrun hcl2; simp at *; omega)
      | skip
    refine i_cs rfl (hcl2 _) rfl rfl hrun ?_
    rintro _ _ _ ⟨⟨rfl, rfl⟩, rfl⟩
    repeat refine i_s rfl ?_
    refine i_appM (c := ((R.length + tszL (ts.take k) + tsz t : Nat) : Int) - 1) rfl rfl rfl rfl rfl (by omega) (by omega) ?_
    repeat (first | refine i_s rfl ?_ | refine sw ?_ | refine ja rfl rfl ?_)
    refine e_for hlt trivial ⟨⟨rfl, ?_, rfl, rfl, rfl, trivial⟩, ⟨?_, ?_, ?_, trivial⟩, rfl⟩
    · rw [e2]; rfl
    · rw [e2]; simp; rfl
    · rw [e1]; rfl
    · rw [e1]; rfl
  have hge : k = es.length := by omega
  subst hge
  have htk : ts.take es.length = ts := List.take_of_length_le (by omega)
  rw [htk] at hcl hRl ⊢
  repeat (first | refine i_s rfl ?_ | refine sw ?_)
  refine c_f (by exact congrArg V.bool (by simp)) ?_
  repeat refine sw ?_
  refine c_frzv rfl rfl ?_
  repeat (first | refine i_s rfl ?_ | refine sw ?_)
  refine i_ldr BX rfl rfl rfl ?_
  repeat refine i_s rfl ?_
  refine i_appM (c := (⟨[], chs R.length ts⟩ : Sx)) rfl rfl rfl rfl rfl (by omega) (by omega) ?_
  repeat refine i_s rfl ?_
  refine i_str BX rfl rfl rfl ?_
  refine i_nil ?_
  refine e_seq ?_
  have e3 : R ++ flt R.length (.lst ts) = (R ++ fltL R.length ts) ++ [(⟨[], chs R.length ts⟩ : Sx)] := by simp [flt]
  rw [e3]
  refine c_cut [(0, .raw b 0)] (wS b ((R ++ fltL R.length ts) ++ [(⟨[], chs R.length ts⟩ : Sx)])) ⟨⟨rfl, trivial⟩, ⟨rfl, ?_, trivial⟩, rfl⟩ ?_
  · exact wS_vec (R ++ fltL R.length ts) ⟨[], chs R.length ts⟩
  have hl2 : ((R ++ fltL R.length ts) ++ [(⟨[], chs R.length ts⟩ : Sx)]).length = R.length + tszL ts + 1 := by rw [List.length_append, hRl]; rfl
  generalize (R ++ fltL R.length ts) ++ [(⟨[], chs R.length ts⟩ : Sx)] = R2 at *
  repeat (first | refine i_s rfl ?_ | refine sw ?_)
  refine i_ldr BX rfl rfl rfl ?_
  repeat (first | refine i_len rfl ?_ | refine i_s rfl ?_ | refine sw ?_ | refine jb rfl rfl ?_)
  refine e_ret ⟨rfl, _, rfl, rfl, rfl, ⟨?_, restr_stOf _ _⟩, rfl⟩
  show V.int .i64 _ = _
  congr 1
  simp only [tsz]
  omega
abbrev NA : Nat := 5760513
abbrev wSA (b : Nat) (R : List Sx) (k : Blk) : List (Nat × Blk) := [(705153, .box (.tag b [.sl (.own 715522) (R.map sxV)])), (715522, .vec R.length), (5760513, k)]
def c_listA : Cmd :=
 (.seq (.ops [qc 4 0]) (qT (.frz 1)
 (qS [qq 5 (.newVec 2624321)]
 (.seq (qS [qm 8 1, qn 9 8, qc 10 0]
 (.block 0 (.loop (qS [qu 11 .lss [] 10 9]
 (qT (.cond (.t 11) .skip (.exit 0))
 (qT (.block 1 (qS [qi 12 1 8 10, ql 13 1 12, qm 7 13]
 (.ops [qm 14 5, qm 15 7, qq 16 (.call (.s [705153, 715522]) (.t 15) []), qq 17 (.bsl 1 [.t 16]), qq 18 (.append 1 8 3 (.t 14) (.t 17)), qm 5 18])))
 (.ops [qv 19 .add [] 10 1, qm 10 19]))))))) (qT (.frz 5)
 (qS [qm 20 0, qm 21 0, qq 22 (.nilck (.t 21)), qf 23 0 22, ql 24 1 23, qm 25 5, qq 26 (.build [.str [], .sl .nil []] [(1 , 1 , .t 25)]), qq 27 (.bsl 2 [.t 26]), qq 28 (.append 2 40 120 (.t 24) (.t 27)), qq 29 (.nilck (.t 20)), qf 30 0 29, qs 1 30 28]
 (.seq (.ops [qm 31 0, qq 32 (.nilck (.t 31)), qf 33 0 32, ql 34 1 33, qn 35 34, qv 36 .sub [] 35 1, qm 4 36]) .ret)))))))
def r_listA : List RVar := [.tmp 4]
def n_listA : Nat := 37
theorem k_listA : chkFn Go.Proofs.Tryz.prog 41 n_listA r_listA c_listA = true := by kernel_rfl
theorem ct_listA {G : Type} {H : HT G} (b : Nat) (es : List (Nat × List V)) (ts : List Tr) (hE : Els b es ts) (R : List Sx) (hR : R.length + tsz (.lst ts) ≤ 1000000) (hl : es.length ≤ 1000000) (g : G) : Cc Go.Proofs.Tryz.prog H 41 [.raw b 0, .sl (.own NA) (es.map fnV)] [705153, 715522, 5760513] (stOf (wSA b R (.vec es.length))) g fun r σ' g' => (r = .int .i64 ((R.length + tsz (.lst ts) : Nat) - 1 : Int) ∧ ∃ k, σ' = stOf (wSA b (R ++ flt R.length (.lst ts)) k)) ∧ g' = g := by
  obtain ⟨hlen, hE⟩ := hE
  refine CT.step _ mixed k_listA (fun nm hnm => stOf_mem _ nm hnm) fun hM => ?_
  repeat (first | refine i_s rfl ?_ | refine sw ?_)
  refine c_frzv rfl rfl ?_
  repeat (first | refine i_len rfl ?_ | refine i_s rfl ?_ | refine sw ?_ | refine i_nv rfl ?_)
  refine c_for es.length (fun k => [(0, .raw b 0), (5, .sl (.own 2624321) ((chs R.length (ts.take k)).map i64V)), (8, .sl .p (es.map fnV)), (9, .int .i64 es.length), (10, .int .i64 k)])
    (fun k => (2624321, .vec (chs R.length (ts.take k)).length) :: wSA b (R ++ fltL R.length (ts.take k)) .dead) (fun _ => True) trivial ⟨⟨rfl, rfl, rfl, rfl, rfl, trivial⟩, ⟨rfl, ?_, ?_, rfl, trivial⟩, rfl⟩ fun k hk _ => ?_
  · show _ = Blk.box (.tag b [.sl _ ((R ++ fltL R.length []).map sxV)])
    rw [wS_nil]; rfl
  · show _ = Blk.vec (R ++ fltL R.length []).length
    rw [wS_nil]; rfl
  have hsz := tszL_take_le ts k
  have hRl : (R ++ fltL R.length (ts.take k)).length = R.length + tszL (ts.take k) := by rw [List.length_append, fltL_len]
  simp only [tsz] at hR
  have hcl : (chs R.length (ts.take k)).length = k := by rw [chs_len]; simp; omega
  by_cases hlt : k < es.length
  · obtain ⟨e, he⟩ := get_some hlt
    obtain ⟨t, ht⟩ := get_some (l := ts) (k := k) (by omega)
    have hEl := hE k e t he ht
    have hs1 := tszL_take ht
    have hs2 := tszL_take_le ts (k + 1)
    have hrun := hEl.run G H g (R ++ fltL R.length (ts.take k)) (by omega)
    have hcl2 := hEl.cl
    have e1 : R ++ fltL R.length (ts.take (k + 1)) = (R ++ fltL R.length (ts.take k)) ++ flt (R.length + tszL (ts.take k)) t := by
      rw [take_succ_get ht, fltL_append, List.append_assoc]; simp [fltL]
    have e2 : chs R.length (ts.take (k + 1)) = chs R.length (ts.take k) ++ [((R.length + tszL (ts.take k) + tsz t : Nat) : Int) - 1] := by
      rw [take_succ_get ht, chs_append]; simp [chs]
    rw [hRl] at hrun
    clear hEl hE
    repeat' (first | refine i_s rfl ?_ | refine sw ?_ | refine jd rfl rfl ?_ | refine c_cond rfl (fun h => ?_) (fun h => ?_))
    all_goals first
      | (exfalso; clear hrun hcl2; simp at *; done)
      | (exfalso; clear hrun hcl2; simp at *; omega)
      | skip
    refine i_cs rfl (hcl2 _) rfl rfl hrun ?_
    rintro _ _ _ ⟨⟨rfl, rfl⟩, rfl⟩
    repeat refine i_s rfl ?_
    refine i_appM (c := ((R.length + tszL (ts.take k) + tsz t : Nat) : Int) - 1) rfl rfl rfl rfl rfl (by omega) (by omega) ?_
    repeat (first | refine i_s rfl ?_ | refine sw ?_ | refine ja rfl rfl ?_)
    refine e_for hlt trivial ⟨⟨rfl, ?_, rfl, rfl, rfl, trivial⟩, ⟨?_, ?_, ?_, rfl, trivial⟩, rfl⟩
    · rw [e2]; rfl
    · rw [e2]; simp; rfl
    · rw [e1]; rfl
    · rw [e1]; rfl
  have hge : k = es.length := by omega
  subst hge
  have htk : ts.take es.length = ts := List.take_of_length_le (by omega)
  rw [htk] at hcl hRl ⊢
  repeat (first | refine i_s rfl ?_ | refine sw ?_)
  refine c_f (by exact congrArg V.bool (by simp)) ?_
  repeat refine sw ?_
  refine c_frzv rfl rfl ?_
  repeat (first | refine i_s rfl ?_ | refine sw ?_)
  refine i_ldr BX rfl rfl rfl ?_
  repeat refine i_s rfl ?_
  refine i_appM (c := (⟨[], chs R.length ts⟩ : Sx)) rfl rfl rfl rfl rfl (by omega) (by omega) ?_
  repeat refine i_s rfl ?_
  refine i_str BX rfl rfl rfl ?_
  refine i_nil ?_
  refine e_seq ?_
  have e3 : R ++ flt R.length (.lst ts) = (R ++ fltL R.length ts) ++ [(⟨[], chs R.length ts⟩ : Sx)] := by simp [flt]
  rw [e3]
  refine c_cut [(0, .raw b 0)] (wSA b ((R ++ fltL R.length ts) ++ [(⟨[], chs R.length ts⟩ : Sx)]) .dead) ⟨⟨rfl, trivial⟩, ⟨rfl, ?_, rfl, trivial⟩, rfl⟩ ?_
  · exact wS_vec (R ++ fltL R.length ts) ⟨[], chs R.length ts⟩
  have hl2 : ((R ++ fltL R.length ts) ++ [(⟨[], chs R.length ts⟩ : Sx)]).length = R.length + tszL ts + 1 := by rw [List.length_append, hRl]; rfl
  generalize (R ++ fltL R.length ts) ++ [(⟨[], chs R.length ts⟩ : Sx)] = R2 at *
  repeat (first | refine i_s rfl ?_ | refine sw ?_)
  refine i_ldr BX rfl rfl rfl ?_
  repeat (first | refine i_len rfl ?_ | refine i_s rfl ?_ | refine sw ?_ | refine jb rfl rfl ?_)
  refine e_ret ⟨rfl, _, rfl, rfl, rfl, ⟨?_, _, restr_stOf _ _⟩, rfl⟩
  show V.int .i64 _ = _
  congr 1
  simp only [tsz]
  omega
def c_domain_writer_section : Cmd :=
 (qS [qx 3 2432193 1 0, qx 4 2432257 1 1, qx 5 2432321 1 2, qq 6 (.mov (.c (.nilfn)))]
 (.seq (.ops [qq 7 (.mkfn 90 [.t 3, .t 4, .t 5]), qm 6 7]) .ret))
def r_domain_writer_section : List RVar := [.tmp 6]
def n_domain_writer_section : Nat := 8
theorem k_domain_writer_section : chkFn Go.Proofs.Tryz.prog 38 n_domain_writer_section r_domain_writer_section c_domain_writer_section = true := by kernel_rfl
theorem f_writer_section (b : Nat) (name : List UInt8) (es : List (Nat × List V)) : Fc Go.Proofs.Tryz.prog 38 [.raw b 0, .str name, .sl .p (es.map fnV)] (fnV (90, [.cptr .p (.raw b 0) 0, .cptr .p (.str name) 0, .cptr .p (.sl .p (es.map fnV)) 0])) := by
  refine Fn.step mixed k_domain_writer_section ?_
  repeat' (first | refine i_s rfl ?_ | refine sw ?_ | refine i_box rfl rfl ?_)
  exact e_ret ⟨rfl, _, rfl, rfl⟩
def c_domain_writer_section_1 : Cmd :=
 (qS [qc 3 0]
 (.seq (.opsT (.node 0 6 (.leaf [0, 1, 2, 3, 5, 4, 6, 7, 8]) (.leaf [1, 2, 3, 5, 4, 6, 0, 7, 8])) [ql 4 1 0, ql 5 1 0, ql 6 1 1, qk 7 42 [5, 6], qq 8 (.bslO 5760513 1 [.t 7]), ql 9 1 2, qq 10 (.append 1 8 78 (.t 8) (.t 9)), qq 11 (.call (.s [705153, 715522, 5760513]) (.c (.fn 41 [])) [.t 4, .t 10]), qm 3 11]) .ret))
def r_domain_writer_section_1 : List RVar := [.tmp 3]
def n_domain_writer_section_1 : Nat := 12
theorem k_domain_writer_section_1 : chkFn Go.Proofs.Tryz.prog 90 n_domain_writer_section_1 r_domain_writer_section_1 c_domain_writer_section_1 = true := by kernel_rfl
theorem el_section (b : Nat) (name : List UInt8) (es : List (Nat × List V)) (ts : List Tr) (hE : Els b es ts) (hl : es.length ≤ 100000) : El b (90, [.cptr .p (.raw b 0) 0, .cptr .p (.str name) 0, .cptr .p (.sl .p (es.map fnV)) 0]) (secT name ts) := by
  refine ⟨rfl, fun ns => rfl, fun G H g R hR => ?_⟩
  have hN := f_writer_name b name
  have hE2 := Els.cons (el_name b name) hE
  refine CT.step _ mixed k_domain_writer_section_1 (fun nm hnm => stOf_mem _ nm hnm) fun hM => ?_
  repeat (first | refine i_s rfl ?_ | refine sw ?_)
  refine c_node ?_ ?_
  all_goals
    repeat (first | refine i_s rfl ?_ | refine sw ?_ | refine sf rfl rfl hN ?_)
    refine i_bslo rfl rfl rfl rfl ?_
    skip
    refine i_app rfl rfl rfl rfl rfl (fun row hrow => ?_) (by simp; omega) (by simp; omega) ?_
    · obtain ⟨c, _, rfl⟩ := List.mem_map.1 hrow
      exact ⟨rfl, rfl⟩
    repeat refine i_s rfl ?_
    refine i_cs rfl rfl rfl (by show [_, _, (NA, Blk.vec (1 + (es.map fnV).length))] = wSA b R (.vec (_ :: es).length); simp [Nat.add_comm]; exact ⟨rfl, rfl⟩) (ct_listA b ((92, [.cptr .p (.raw b 0) 0, .cptr .p (.str name) 0]) :: es) (.sym name :: ts) hE2 R hR (by simp only [List.length_cons]; omega) g) ?_
    rintro _ _ _ ⟨⟨rfl, k, rfl⟩, rfl⟩
    repeat (first | refine i_s rfl ?_ | refine sw ?_)
    exact e_ret ⟨rfl, _, rfl, rfl, rfl, ⟨rfl, restr_stOf _ _⟩, rfl⟩
structure Wr {α : Type} (b : Nat) (wf : Nat × List V) (f : α → V) (T : α → Tr) (ok : α → Prop) : Prop where
  pure : pureL wf.2 = true
  cl : ∀ ns, closedL ns wf.2 = true
  run : ∀ x, ok x → ∀ (G : Type) (H : HT G) (g : G) (R : List Sx), R.length + tsz (T x) ≤ 1000000 → Cc Go.Proofs.Tryz.prog H wf.1 (f x :: wf.2) WNS (stOf (wS b R)) g fun r σ' g' => (r = .int .i64 ((R.length + tsz (T x) : Nat) - 1 : Int) ∧ σ' = stOf (wS b (R ++ flt R.length (T x)))) ∧ g' = g
def c_domain_each_int_1 : Cmd :=
 (qS [qc 2 0]
 (.seq (.ops [ql 3 1 0, ql 4 1 1, qq 5 (.call (.s [705153, 715522]) (.t 3) [.t 4]), qm 2 5]) .ret))
def r_domain_each_int_1 : List RVar := [.tmp 2]
def n_domain_each_int_1 : Nat := 6
theorem k_domain_each_int_1 : chkFn Go.Proofs.Tryz.prog 140 n_domain_each_int_1 r_domain_each_int_1 c_domain_each_int_1 = true := by kernel_rfl
abbrev eE_int (wf : Nat × List V) (x : Int) : Nat × List V := (140, [.cptr .p (fnV wf) 0, .cptr .p (i64V x) 0])
theorem el_each_int {b : Nat} {wf : Nat × List V} {T : Int → Tr} {ok : (Int) → Prop} (hW : Wr b wf i64V T ok) (x : Int) (hx : ok x) : El b (eE_int wf x) (T x) := by
  refine ⟨rfl, fun ns => rfl, fun G H g R hR => ?_⟩
  have hrun := hW.run x hx G H g R hR
  have hcl := hW.cl
  obtain ⟨f1, f2⟩ := wf
  clear hW
  refine CT.step _ mixed k_domain_each_int_1 (fun nm hnm => stOf_mem _ nm hnm) fun hM => ?_
  repeat (first | refine i_s rfl ?_ | refine sw ?_)
  refine i_cs rfl (by show (closedB _ _ && closedL _ f2) = true; rw [hcl]; rfl) rfl rfl hrun ?_
  rintro _ _ _ ⟨⟨rfl, rfl⟩, rfl⟩
  repeat (first | refine i_s rfl ?_ | refine sw ?_)
  exact e_ret ⟨rfl, _, rfl, rfl, rfl, ⟨rfl, restr_stOf _ _⟩, rfl⟩
def c_domain_each_int : Cmd :=
 (.seq (.ops [qx 3 6144193 1 1, qq 4 (.mov (.c (.sl .nil [])))]) (qT (.frz 3)
 (qS [qq 5 (.newVec 6144321)]
 (qT (qS [qm 8 0, qn 9 8, qc 10 0]
 (.block 0 (.loop (qS [qu 11 .lss [] 10 9]
 (qT (.cond (.t 11) .skip (.exit 0))
 (qT (.block 1 (.seq (.ops [qi 12 1 8 10, ql 13 1 12, qq 7 (.alloc 6144449 (.int .i64 0)), qs 1 7 13]) (qT (.frz 7)
 (.ops [qm 14 5, qq 15 (.mkfn 140 [.t 3, .t 7]), qq 16 (.bsl 1 [.t 15]), qq 17 (.append 1 8 78 (.t 14) (.t 16)), qm 5 17]))))
 (.ops [qv 18 .add [] 10 1, qm 10 18])))))))
 (.seq (.ops [qm 19 5, qm 4 19]) .ret)))))
def r_domain_each_int : List RVar := [.tmp 4]
def n_domain_each_int : Nat := 20
theorem k_domain_each_int : chkFn Go.Proofs.Tryz.prog 96 n_domain_each_int r_domain_each_int c_domain_each_int = true := by kernel_rfl
theorem f_each_int (wf : Nat × List V) (hp : pureL wf.2 = true) (l : List (Int)) (hl : l.length ≤ 1000000) : Fc Go.Proofs.Tryz.prog 96 [.sl .p (l.map i64V), fnV wf] (.sl .p ((l.map (eE_int wf)).map fnV)) := by
  refine Fn.step mixed k_domain_each_int ?_
  repeat (first | refine i_s rfl ?_ | refine sw ?_ | refine i_box rfl rfl ?_)
  refine c_frzb rfl rfl hp ?_
  repeat (first | refine i_len rfl ?_ | refine i_s rfl ?_ | refine sw ?_ | refine i_nv rfl ?_)
  refine c_for l.length (fun k => [(3, .cptr .p (fnV wf) 0), (5, .sl (.own 6144321) (((l.take k).map (eE_int wf)).map fnV)), (8, .sl .p (l.map i64V)), (9, .int .i64 l.length), (10, .int .i64 k)]) (fun k => [(6144321, .vec ((l.take k).map (eE_int wf)).length)]) (fun _ => True) trivial ft fun k hk _ => ?_
  by_cases hlt : k < l.length
  · obtain ⟨x, hx⟩ := get_some hlt
    have hkl : ((l.take k).map (eE_int wf)).length = k := by simp; omega
    have e1 : (l.take (k + 1)).map (eE_int wf) = (l.take k).map (eE_int wf) ++ [eE_int wf x] := by rw [take_succ_get hx, List.map_append]; rfl
    repeat' (first | refine i_s rfl ?_ | refine sw ?_ | refine jd rfl rfl ?_ | refine i_stb rfl ?_ | refine i_alloc rfl ?_ | refine c_cond rfl (fun h => ?_) (fun h => ?_))
    all_goals first
      | (exfalso; simp at *; done)
      | (exfalso; simp at *; omega)
      | skip
    refine c_frzb rfl rfl rfl ?_
    repeat (first | refine i_s rfl ?_ | refine sw ?_)
    refine i_appM (c := eE_int wf x) rfl rfl rfl rfl rfl (by omega) (by omega) ?_
    repeat (first | refine i_s rfl ?_ | refine sw ?_ | refine ja rfl rfl ?_)
    refine e_for hlt trivial ⟨⟨rfl, ?_, rfl, rfl, rfl, trivial⟩, ⟨?_, trivial⟩, rfl⟩
    · rw [e1]; rfl
    · rw [e1]; simp; rfl
  have hge : k = l.length := by omega
  subst hge
  rw [List.take_length]
  repeat' (first | refine i_s rfl ?_ | refine sw ?_ | refine c_cond rfl (fun h => ?_) (fun h => ?_))
  all_goals first
    | exact e_ret ⟨rfl, _, rfl, rfl⟩
    | (exfalso; simp at *; done)
    | (exfalso; simp at *; omega)
theorem els_each_int {b : Nat} {wf : Nat × List V} {T : Int → Tr} {ok : (Int) → Prop} (hW : Wr b wf i64V T ok) {l : List (Int)} (h : ∀ x ∈ l, ok x) : Els b (l.map (eE_int wf)) (l.map T) := Els.map fun x hx => el_each_int hW x (h x hx)
def c_domain_each_2_int_1 : Cmd :=
 (qS [qc 2 0]
 (.seq (.ops [ql 3 1 0, qL 4 2 1, qq 5 (.call (.s [705153, 715522]) (.t 3) [.t 4]), qm 2 5]) .ret))
def r_domain_each_2_int_1 : List RVar := [.tmp 2]
def n_domain_each_2_int_1 : Nat := 6
theorem k_domain_each_2_int_1 : chkFn Go.Proofs.Tryz.prog 141 n_domain_each_2_int_1 r_domain_each_2_int_1 c_domain_each_2_int_1 = true := by kernel_rfl
abbrev eE_2_int (wf : Nat × List V) (x : Int × Int) : Nat × List V := (141, [.cptr .p (fnV wf) 0, .cptr .p (pairV x) 0])
theorem el_each_2_int {b : Nat} {wf : Nat × List V} {T : Int × Int → Tr} {ok : (Int × Int) → Prop} (hW : Wr b wf pairV T ok) (x : Int × Int) (hx : ok x) : El b (eE_2_int wf x) (T x) := by
  refine ⟨rfl, fun ns => rfl, fun G H g R hR => ?_⟩
  have hrun := hW.run x hx G H g R hR
  have hcl := hW.cl
  obtain ⟨f1, f2⟩ := wf
  clear hW
  refine CT.step _ mixed k_domain_each_2_int_1 (fun nm hnm => stOf_mem _ nm hnm) fun hM => ?_
  repeat (first | refine i_s rfl ?_ | refine sw ?_)
  refine i_cs rfl (by show (closedB _ _ && closedL _ f2) = true; rw [hcl]; rfl) rfl rfl hrun ?_
  rintro _ _ _ ⟨⟨rfl, rfl⟩, rfl⟩
  repeat (first | refine i_s rfl ?_ | refine sw ?_)
  exact e_ret ⟨rfl, _, rfl, rfl, rfl, ⟨rfl, restr_stOf _ _⟩, rfl⟩
def c_domain_each_2_int : Cmd :=
 (.seq (.ops [qx 3 6272193 1 1, qq 4 (.mov (.c (.sl .nil [])))]) (qT (.frz 3)
 (qS [qq 5 (.newVec 6272321)]
 (qT (qS [qm 8 0, qn 9 8, qc 10 0]
 (.block 0 (.loop (qS [qu 11 .lss [] 10 9]
 (qT (.cond (.t 11) .skip (.exit 0))
 (qT (.block 1 (.seq (.ops [qi 12 2 8 10, qL 13 2 12, qq 7 (.alloc 6272450 (.agg [.int .i64 0, .int .i64 0])), qs 2 7 13]) (qT (.frz 7)
 (.ops [qm 14 5, qq 15 (.mkfn 141 [.t 3, .t 7]), qq 16 (.bsl 1 [.t 15]), qq 17 (.append 1 8 78 (.t 14) (.t 16)), qm 5 17]))))
 (.ops [qv 18 .add [] 10 1, qm 10 18])))))))
 (.seq (.ops [qm 19 5, qm 4 19]) .ret)))))
def r_domain_each_2_int : List RVar := [.tmp 4]
def n_domain_each_2_int : Nat := 20
theorem k_domain_each_2_int : chkFn Go.Proofs.Tryz.prog 98 n_domain_each_2_int r_domain_each_2_int c_domain_each_2_int = true := by kernel_rfl
theorem f_each_2_int (wf : Nat × List V) (hp : pureL wf.2 = true) (l : List (Int × Int)) (hl : l.length ≤ 1000000) : Fc Go.Proofs.Tryz.prog 98 [.sl .p (l.map pairV), fnV wf] (.sl .p ((l.map (eE_2_int wf)).map fnV)) := by
  refine Fn.step mixed k_domain_each_2_int ?_
  repeat (first | refine i_s rfl ?_ | refine sw ?_ | refine i_box rfl rfl ?_)
  refine c_frzb rfl rfl hp ?_
  repeat (first | refine i_len rfl ?_ | refine i_s rfl ?_ | refine sw ?_ | refine i_nv rfl ?_)
  refine c_for l.length (fun k => [(3, .cptr .p (fnV wf) 0), (5, .sl (.own 6272321) (((l.take k).map (eE_2_int wf)).map fnV)), (8, .sl .p (l.map pairV)), (9, .int .i64 l.length), (10, .int .i64 k)]) (fun k => [(6272321, .vec ((l.take k).map (eE_2_int wf)).length)]) (fun _ => True) trivial ft fun k hk _ => ?_
  by_cases hlt : k < l.length
  · obtain ⟨x, hx⟩ := get_some hlt
    have hkl : ((l.take k).map (eE_2_int wf)).length = k := by simp; omega
    have e1 : (l.take (k + 1)).map (eE_2_int wf) = (l.take k).map (eE_2_int wf) ++ [eE_2_int wf x] := by rw [take_succ_get hx, List.map_append]; rfl
    repeat' (first | refine i_s rfl ?_ | refine sw ?_ | refine jd rfl rfl ?_ | refine i_stb rfl ?_ | refine i_alloc rfl ?_ | refine c_cond rfl (fun h => ?_) (fun h => ?_))
    all_goals first
      | (exfalso; simp at *; done)
      | (exfalso; simp at *; omega)
      | skip
    refine c_frzb rfl rfl rfl ?_
    repeat (first | refine i_s rfl ?_ | refine sw ?_)
    refine i_appM (c := eE_2_int wf x) rfl rfl rfl rfl rfl (by omega) (by omega) ?_
    repeat (first | refine i_s rfl ?_ | refine sw ?_ | refine ja rfl rfl ?_)
    refine e_for hlt trivial ⟨⟨rfl, ?_, rfl, rfl, rfl, trivial⟩, ⟨?_, trivial⟩, rfl⟩
    · rw [e1]; rfl
    · rw [e1]; simp; rfl
  have hge : k = l.length := by omega
  subst hge
  rw [List.take_length]
  repeat' (first | refine i_s rfl ?_ | refine sw ?_ | refine c_cond rfl (fun h => ?_) (fun h => ?_))
  all_goals first
    | exact e_ret ⟨rfl, _, rfl, rfl⟩
    | (exfalso; simp at *; done)
    | (exfalso; simp at *; omega)
theorem els_each_2_int {b : Nat} {wf : Nat × List V} {T : Int × Int → Tr} {ok : (Int × Int) → Prop} (hW : Wr b wf pairV T ok) {l : List (Int × Int)} (h : ∀ x ∈ l, ok x) : Els b (l.map (eE_2_int wf)) (l.map T) := Els.map fun x hx => el_each_2_int hW x (h x hx)
def c_domain_each_Atom_1 : Cmd :=
 (qS [qc 2 0]
 (.seq (.ops [ql 3 1 0, qL 4 2 1, qq 5 (.call (.s [705153, 715522]) (.t 3) [.t 4]), qm 2 5]) .ret))
def r_domain_each_Atom_1 : List RVar := [.tmp 2]
def n_domain_each_Atom_1 : Nat := 6
theorem k_domain_each_Atom_1 : chkFn Go.Proofs.Tryz.prog 143 n_domain_each_Atom_1 r_domain_each_Atom_1 c_domain_each_Atom_1 = true := by kernel_rfl
abbrev eE_Atom (wf : Nat × List V) (x : At) : Nat × List V := (143, [.cptr .p (fnV wf) 0, .cptr .p (atV x) 0])
theorem el_each_Atom {b : Nat} {wf : Nat × List V} {T : At → Tr} {ok : (At) → Prop} (hW : Wr b wf atV T ok) (x : At) (hx : ok x) : El b (eE_Atom wf x) (T x) := by
  refine ⟨rfl, fun ns => rfl, fun G H g R hR => ?_⟩
  have hrun := hW.run x hx G H g R hR
  have hcl := hW.cl
  obtain ⟨f1, f2⟩ := wf
  clear hW
  refine CT.step _ mixed k_domain_each_Atom_1 (fun nm hnm => stOf_mem _ nm hnm) fun hM => ?_
  repeat (first | refine i_s rfl ?_ | refine sw ?_)
  refine i_cs rfl (by show (closedB _ _ && closedL _ f2) = true; rw [hcl]; rfl) rfl rfl hrun ?_
  rintro _ _ _ ⟨⟨rfl, rfl⟩, rfl⟩
  repeat (first | refine i_s rfl ?_ | refine sw ?_)
  exact e_ret ⟨rfl, _, rfl, rfl, rfl, ⟨rfl, restr_stOf _ _⟩, rfl⟩
def c_domain_each_Atom : Cmd :=
 (.seq (.ops [qx 3 6528193 1 1, qq 4 (.mov (.c (.sl .nil [])))]) (qT (.frz 3)
 (qS [qq 5 (.newVec 6528321)]
 (qT (qS [qm 8 0, qn 9 8, qc 10 0]
 (.block 0 (.loop (qS [qu 11 .lss [] 10 9]
 (qT (.cond (.t 11) .skip (.exit 0))
 (qT (.block 1 (.seq (.ops [qi 12 2 8 10, qL 13 2 12, qq 7 (.alloc 6528450 (.agg [.int .i64 0, .sl .nil []])), qs 2 7 13]) (qT (.frz 7)
 (.ops [qm 14 5, qq 15 (.mkfn 143 [.t 3, .t 7]), qq 16 (.bsl 1 [.t 15]), qq 17 (.append 1 8 78 (.t 14) (.t 16)), qm 5 17]))))
 (.ops [qv 18 .add [] 10 1, qm 10 18])))))))
 (.seq (.ops [qm 19 5, qm 4 19]) .ret)))))
def r_domain_each_Atom : List RVar := [.tmp 4]
def n_domain_each_Atom : Nat := 20
theorem k_domain_each_Atom : chkFn Go.Proofs.Tryz.prog 102 n_domain_each_Atom r_domain_each_Atom c_domain_each_Atom = true := by kernel_rfl
theorem f_each_Atom (wf : Nat × List V) (hp : pureL wf.2 = true) (l : List (At)) (hl : l.length ≤ 1000000) : Fc Go.Proofs.Tryz.prog 102 [.sl .p (l.map atV), fnV wf] (.sl .p ((l.map (eE_Atom wf)).map fnV)) := by
  refine Fn.step mixed k_domain_each_Atom ?_
  repeat (first | refine i_s rfl ?_ | refine sw ?_ | refine i_box rfl rfl ?_)
  refine c_frzb rfl rfl hp ?_
  repeat (first | refine i_len rfl ?_ | refine i_s rfl ?_ | refine sw ?_ | refine i_nv rfl ?_)
  refine c_for l.length (fun k => [(3, .cptr .p (fnV wf) 0), (5, .sl (.own 6528321) (((l.take k).map (eE_Atom wf)).map fnV)), (8, .sl .p (l.map atV)), (9, .int .i64 l.length), (10, .int .i64 k)]) (fun k => [(6528321, .vec ((l.take k).map (eE_Atom wf)).length)]) (fun _ => True) trivial ft fun k hk _ => ?_
  by_cases hlt : k < l.length
  · obtain ⟨x, hx⟩ := get_some hlt
    have hkl : ((l.take k).map (eE_Atom wf)).length = k := by simp; omega
    have e1 : (l.take (k + 1)).map (eE_Atom wf) = (l.take k).map (eE_Atom wf) ++ [eE_Atom wf x] := by rw [take_succ_get hx, List.map_append]; rfl
    repeat' (first | refine i_s rfl ?_ | refine sw ?_ | refine jd rfl rfl ?_ | refine i_stb rfl ?_ | refine i_alloc rfl ?_ | refine c_cond rfl (fun h => ?_) (fun h => ?_))
    all_goals first
      | (exfalso; simp at *; done)
      | (exfalso; simp at *; omega)
      | skip
    refine c_frzb rfl rfl rfl ?_
    repeat (first | refine i_s rfl ?_ | refine sw ?_)
    refine i_appM (c := eE_Atom wf x) rfl rfl rfl rfl rfl (by omega) (by omega) ?_
    repeat (first | refine i_s rfl ?_ | refine sw ?_ | refine ja rfl rfl ?_)
    refine e_for hlt trivial ⟨⟨rfl, ?_, rfl, rfl, rfl, trivial⟩, ⟨?_, trivial⟩, rfl⟩
    · rw [e1]; rfl
    · rw [e1]; simp; rfl
  have hge : k = l.length := by omega
  subst hge
  rw [List.take_length]
  repeat' (first | refine i_s rfl ?_ | refine sw ?_ | refine c_cond rfl (fun h => ?_) (fun h => ?_))
  all_goals first
    | exact e_ret ⟨rfl, _, rfl, rfl⟩
    | (exfalso; simp at *; done)
    | (exfalso; simp at *; omega)
theorem els_each_Atom {b : Nat} {wf : Nat × List V} {T : At → Tr} {ok : (At) → Prop} (hW : Wr b wf atV T ok) {l : List (At)} (h : ∀ x ∈ l, ok x) : Els b (l.map (eE_Atom wf)) (l.map T) := Els.map fun x hx => el_each_Atom hW x (h x hx)
def c_domain_each_Literal_1 : Cmd :=
 (qS [qc 2 0]
 (.seq (.ops [ql 3 1 0, qL 4 3 1, qq 5 (.call (.s [705153, 715522]) (.t 3) [.t 4]), qm 2 5]) .ret))
def r_domain_each_Literal_1 : List RVar := [.tmp 2]
def n_domain_each_Literal_1 : Nat := 6
theorem k_domain_each_Literal_1 : chkFn Go.Proofs.Tryz.prog 145 n_domain_each_Literal_1 r_domain_each_Literal_1 c_domain_each_Literal_1 = true := by kernel_rfl
abbrev eE_Literal (wf : Nat × List V) (x : Lit) : Nat × List V := (145, [.cptr .p (fnV wf) 0, .cptr .p (litV x) 0])
theorem el_each_Literal {b : Nat} {wf : Nat × List V} {T : Lit → Tr} {ok : (Lit) → Prop} (hW : Wr b wf litV T ok) (x : Lit) (hx : ok x) : El b (eE_Literal wf x) (T x) := by
  refine ⟨rfl, fun ns => rfl, fun G H g R hR => ?_⟩
  have hrun := hW.run x hx G H g R hR
  have hcl := hW.cl
  obtain ⟨f1, f2⟩ := wf
  clear hW
  refine CT.step _ mixed k_domain_each_Literal_1 (fun nm hnm => stOf_mem _ nm hnm) fun hM => ?_
  repeat (first | refine i_s rfl ?_ | refine sw ?_)
  refine i_cs rfl (by show (closedB _ _ && closedL _ f2) = true; rw [hcl]; rfl) rfl rfl hrun ?_
  rintro _ _ _ ⟨⟨rfl, rfl⟩, rfl⟩
  repeat (first | refine i_s rfl ?_ | refine sw ?_)
  exact e_ret ⟨rfl, _, rfl, rfl, rfl, ⟨rfl, restr_stOf _ _⟩, rfl⟩
def c_domain_each_Literal : Cmd :=
 (.seq (.ops [qx 3 6720193 1 1, qq 4 (.mov (.c (.sl .nil [])))]) (qT (.frz 3)
 (qS [qq 5 (.newVec 6720321)]
 (qT (qS [qm 8 0, qn 9 8, qc 10 0]
 (.block 0 (.loop (qS [qu 11 .lss [] 10 9]
 (qT (.cond (.t 11) .skip (.exit 0))
 (qT (.block 1 (.seq (.ops [qi 12 3 8 10, qL 13 3 12, qq 7 (.alloc 6720451 (.agg [.bool false, .int .i64 0, .sl .nil []])), qs 3 7 13]) (qT (.frz 7)
 (.ops [qm 14 5, qq 15 (.mkfn 145 [.t 3, .t 7]), qq 16 (.bsl 1 [.t 15]), qq 17 (.append 1 8 78 (.t 14) (.t 16)), qm 5 17]))))
 (.ops [qv 18 .add [] 10 1, qm 10 18])))))))
 (.seq (.ops [qm 19 5, qm 4 19]) .ret)))))
def r_domain_each_Literal : List RVar := [.tmp 4]
def n_domain_each_Literal : Nat := 20
theorem k_domain_each_Literal : chkFn Go.Proofs.Tryz.prog 105 n_domain_each_Literal r_domain_each_Literal c_domain_each_Literal = true := by kernel_rfl
theorem f_each_Literal (wf : Nat × List V) (hp : pureL wf.2 = true) (l : List (Lit)) (hl : l.length ≤ 1000000) : Fc Go.Proofs.Tryz.prog 105 [.sl .p (l.map litV), fnV wf] (.sl .p ((l.map (eE_Literal wf)).map fnV)) := by
  refine Fn.step mixed k_domain_each_Literal ?_
  repeat (first | refine i_s rfl ?_ | refine sw ?_ | refine i_box rfl rfl ?_)
  refine c_frzb rfl rfl hp ?_
  repeat (first | refine i_len rfl ?_ | refine i_s rfl ?_ | refine sw ?_ | refine i_nv rfl ?_)
  refine c_for l.length (fun k => [(3, .cptr .p (fnV wf) 0), (5, .sl (.own 6720321) (((l.take k).map (eE_Literal wf)).map fnV)), (8, .sl .p (l.map litV)), (9, .int .i64 l.length), (10, .int .i64 k)]) (fun k => [(6720321, .vec ((l.take k).map (eE_Literal wf)).length)]) (fun _ => True) trivial ft fun k hk _ => ?_
  by_cases hlt : k < l.length
  · obtain ⟨x, hx⟩ := get_some hlt
    have hkl : ((l.take k).map (eE_Literal wf)).length = k := by simp; omega
    have e1 : (l.take (k + 1)).map (eE_Literal wf) = (l.take k).map (eE_Literal wf) ++ [eE_Literal wf x] := by rw [take_succ_get hx, List.map_append]; rfl
    repeat' (first | refine i_s rfl ?_ | refine sw ?_ | refine jd rfl rfl ?_ | refine i_stb rfl ?_ | refine i_alloc rfl ?_ | refine c_cond rfl (fun h => ?_) (fun h => ?_))
    all_goals first
      | (exfalso; simp at *; done)
      | (exfalso; simp at *; omega)
      | skip
    refine c_frzb rfl rfl rfl ?_
    repeat (first | refine i_s rfl ?_ | refine sw ?_)
    refine i_appM (c := eE_Literal wf x) rfl rfl rfl rfl rfl (by omega) (by omega) ?_
    repeat (first | refine i_s rfl ?_ | refine sw ?_ | refine ja rfl rfl ?_)
    refine e_for hlt trivial ⟨⟨rfl, ?_, rfl, rfl, rfl, trivial⟩, ⟨?_, trivial⟩, rfl⟩
    · rw [e1]; rfl
    · rw [e1]; simp; rfl
  have hge : k = l.length := by omega
  subst hge
  rw [List.take_length]
  repeat' (first | refine i_s rfl ?_ | refine sw ?_ | refine c_cond rfl (fun h => ?_) (fun h => ?_))
  all_goals first
    | exact e_ret ⟨rfl, _, rfl, rfl⟩
    | (exfalso; simp at *; done)
    | (exfalso; simp at *; omega)
theorem els_each_Literal {b : Nat} {wf : Nat × List V} {T : Lit → Tr} {ok : (Lit) → Prop} (hW : Wr b wf litV T ok) {l : List (Lit)} (h : ∀ x ∈ l, ok x) : Els b (l.map (eE_Literal wf)) (l.map T) := Els.map fun x hx => el_each_Literal hW x (h x hx)
def c_domain_each_Type_1 : Cmd :=
 (qS [qc 2 0]
 (.seq (.ops [ql 3 1 0, qL 4 2 1, qq 5 (.call (.s [705153, 715522]) (.t 3) [.t 4]), qm 2 5]) .ret))
def r_domain_each_Type_1 : List RVar := [.tmp 2]
def n_domain_each_Type_1 : Nat := 6
theorem k_domain_each_Type_1 : chkFn Go.Proofs.Tryz.prog 91 n_domain_each_Type_1 r_domain_each_Type_1 c_domain_each_Type_1 = true := by kernel_rfl
abbrev eE_Type (wf : Nat × List V) (x : Typ) : Nat × List V := (91, [.cptr .p (fnV wf) 0, .cptr .p (tyV x) 0])
theorem el_each_Type {b : Nat} {wf : Nat × List V} {T : Typ → Tr} {ok : (Typ) → Prop} (hW : Wr b wf tyV T ok) (x : Typ) (hx : ok x) : El b (eE_Type wf x) (T x) := by
  refine ⟨rfl, fun ns => rfl, fun G H g R hR => ?_⟩
  have hrun := hW.run x hx G H g R hR
  have hcl := hW.cl
  obtain ⟨f1, f2⟩ := wf
  clear hW
  refine CT.step _ mixed k_domain_each_Type_1 (fun nm hnm => stOf_mem _ nm hnm) fun hM => ?_
  repeat (first | refine i_s rfl ?_ | refine sw ?_)
  refine i_cs rfl (by show (closedB _ _ && closedL _ f2) = true; rw [hcl]; rfl) rfl rfl hrun ?_
  rintro _ _ _ ⟨⟨rfl, rfl⟩, rfl⟩
  repeat (first | refine i_s rfl ?_ | refine sw ?_)
  exact e_ret ⟨rfl, _, rfl, rfl, rfl, ⟨rfl, restr_stOf _ _⟩, rfl⟩
def c_domain_each_Type : Cmd :=
 (.seq (.ops [qx 3 2496193 1 1, qq 4 (.mov (.c (.sl .nil [])))]) (qT (.frz 3)
 (qS [qq 5 (.newVec 2496321)]
 (qT (qS [qm 8 0, qn 9 8, qc 10 0]
 (.block 0 (.loop (qS [qu 11 .lss [] 10 9]
 (qT (.cond (.t 11) .skip (.exit 0))
 (qT (.block 1 (.seq (.ops [qi 12 2 8 10, qL 13 2 12, qq 7 (.alloc 2496450 (.agg [.str [], .int .i64 0])), qs 2 7 13]) (qT (.frz 7)
 (.ops [qm 14 5, qq 15 (.mkfn 91 [.t 3, .t 7]), qq 16 (.bsl 1 [.t 15]), qq 17 (.append 1 8 78 (.t 14) (.t 16)), qm 5 17]))))
 (.ops [qv 18 .add [] 10 1, qm 10 18])))))))
 (.seq (.ops [qm 19 5, qm 4 19]) .ret)))))
def r_domain_each_Type : List RVar := [.tmp 4]
def n_domain_each_Type : Nat := 20
theorem k_domain_each_Type : chkFn Go.Proofs.Tryz.prog 39 n_domain_each_Type r_domain_each_Type c_domain_each_Type = true := by kernel_rfl
theorem f_each_Type (wf : Nat × List V) (hp : pureL wf.2 = true) (l : List (Typ)) (hl : l.length ≤ 1000000) : Fc Go.Proofs.Tryz.prog 39 [.sl .p (l.map tyV), fnV wf] (.sl .p ((l.map (eE_Type wf)).map fnV)) := by
  refine Fn.step mixed k_domain_each_Type ?_
  repeat (first | refine i_s rfl ?_ | refine sw ?_ | refine i_box rfl rfl ?_)
  refine c_frzb rfl rfl hp ?_
  repeat (first | refine i_len rfl ?_ | refine i_s rfl ?_ | refine sw ?_ | refine i_nv rfl ?_)
  refine c_for l.length (fun k => [(3, .cptr .p (fnV wf) 0), (5, .sl (.own 2496321) (((l.take k).map (eE_Type wf)).map fnV)), (8, .sl .p (l.map tyV)), (9, .int .i64 l.length), (10, .int .i64 k)]) (fun k => [(2496321, .vec ((l.take k).map (eE_Type wf)).length)]) (fun _ => True) trivial ft fun k hk _ => ?_
  by_cases hlt : k < l.length
  · obtain ⟨x, hx⟩ := get_some hlt
    have hkl : ((l.take k).map (eE_Type wf)).length = k := by simp; omega
    have e1 : (l.take (k + 1)).map (eE_Type wf) = (l.take k).map (eE_Type wf) ++ [eE_Type wf x] := by rw [take_succ_get hx, List.map_append]; rfl
    repeat' (first | refine i_s rfl ?_ | refine sw ?_ | refine jd rfl rfl ?_ | refine i_stb rfl ?_ | refine i_alloc rfl ?_ | refine c_cond rfl (fun h => ?_) (fun h => ?_))
    all_goals first
      | (exfalso; simp at *; done)
      | (exfalso; simp at *; omega)
      | skip
    refine c_frzb rfl rfl rfl ?_
    repeat (first | refine i_s rfl ?_ | refine sw ?_)
    refine i_appM (c := eE_Type wf x) rfl rfl rfl rfl rfl (by omega) (by omega) ?_
    repeat (first | refine i_s rfl ?_ | refine sw ?_ | refine ja rfl rfl ?_)
    refine e_for hlt trivial ⟨⟨rfl, ?_, rfl, rfl, rfl, trivial⟩, ⟨?_, trivial⟩, rfl⟩
    · rw [e1]; rfl
    · rw [e1]; simp; rfl
  have hge : k = l.length := by omega
  subst hge
  rw [List.take_length]
  repeat' (first | refine i_s rfl ?_ | refine sw ?_ | refine c_cond rfl (fun h => ?_) (fun h => ?_))
  all_goals first
    | exact e_ret ⟨rfl, _, rfl, rfl⟩
    | (exfalso; simp at *; done)
    | (exfalso; simp at *; omega)
theorem els_each_Type {b : Nat} {wf : Nat × List V} {T : Typ → Tr} {ok : (Typ) → Prop} (hW : Wr b wf tyV T ok) {l : List (Typ)} (h : ∀ x ∈ l, ok x) : Els b (l.map (eE_Type wf)) (l.map T) := Els.map fun x hx => el_each_Type hW x (h x hx)
def c_domain_each_Object_1 : Cmd :=
 (qS [qc 2 0]
 (.seq (.ops [ql 3 1 0, qL 4 2 1, qq 5 (.call (.s [705153, 715522]) (.t 3) [.t 4]), qm 2 5]) .ret))
def r_domain_each_Object_1 : List RVar := [.tmp 2]
def n_domain_each_Object_1 : Nat := 6
theorem k_domain_each_Object_1 : chkFn Go.Proofs.Tryz.prog 94 n_domain_each_Object_1 r_domain_each_Object_1 c_domain_each_Object_1 = true := by kernel_rfl
abbrev eE_Object (wf : Nat × List V) (x : Obj) : Nat × List V := (94, [.cptr .p (fnV wf) 0, .cptr .p (obV x) 0])
theorem el_each_Object {b : Nat} {wf : Nat × List V} {T : Obj → Tr} {ok : (Obj) → Prop} (hW : Wr b wf obV T ok) (x : Obj) (hx : ok x) : El b (eE_Object wf x) (T x) := by
  refine ⟨rfl, fun ns => rfl, fun G H g R hR => ?_⟩
  have hrun := hW.run x hx G H g R hR
  have hcl := hW.cl
  obtain ⟨f1, f2⟩ := wf
  clear hW
  refine CT.step _ mixed k_domain_each_Object_1 (fun nm hnm => stOf_mem _ nm hnm) fun hM => ?_
  repeat (first | refine i_s rfl ?_ | refine sw ?_)
  refine i_cs rfl (by show (closedB _ _ && closedL _ f2) = true; rw [hcl]; rfl) rfl rfl hrun ?_
  rintro _ _ _ ⟨⟨rfl, rfl⟩, rfl⟩
  repeat (first | refine i_s rfl ?_ | refine sw ?_)
  exact e_ret ⟨rfl, _, rfl, rfl, rfl, ⟨rfl, restr_stOf _ _⟩, rfl⟩
def c_domain_each_Object : Cmd :=
 (.seq (.ops [qx 3 2816193 1 1, qq 4 (.mov (.c (.sl .nil [])))]) (qT (.frz 3)
 (qS [qq 5 (.newVec 2816321)]
 (qT (qS [qm 8 0, qn 9 8, qc 10 0]
 (.block 0 (.loop (qS [qu 11 .lss [] 10 9]
 (qT (.cond (.t 11) .skip (.exit 0))
 (qT (.block 1 (.seq (.ops [qi 12 2 8 10, qL 13 2 12, qq 7 (.alloc 2816450 (.agg [.str [], .int .i64 0])), qs 2 7 13]) (qT (.frz 7)
 (.ops [qm 14 5, qq 15 (.mkfn 94 [.t 3, .t 7]), qq 16 (.bsl 1 [.t 15]), qq 17 (.append 1 8 78 (.t 14) (.t 16)), qm 5 17]))))
 (.ops [qv 18 .add [] 10 1, qm 10 18])))))))
 (.seq (.ops [qm 19 5, qm 4 19]) .ret)))))
def r_domain_each_Object : List RVar := [.tmp 4]
def n_domain_each_Object : Nat := 20
theorem k_domain_each_Object : chkFn Go.Proofs.Tryz.prog 44 n_domain_each_Object r_domain_each_Object c_domain_each_Object = true := by kernel_rfl
theorem f_each_Object (wf : Nat × List V) (hp : pureL wf.2 = true) (l : List (Obj)) (hl : l.length ≤ 1000000) : Fc Go.Proofs.Tryz.prog 44 [.sl .p (l.map obV), fnV wf] (.sl .p ((l.map (eE_Object wf)).map fnV)) := by
  refine Fn.step mixed k_domain_each_Object ?_
  repeat (first | refine i_s rfl ?_ | refine sw ?_ | refine i_box rfl rfl ?_)
  refine c_frzb rfl rfl hp ?_
  repeat (first | refine i_len rfl ?_ | refine i_s rfl ?_ | refine sw ?_ | refine i_nv rfl ?_)
  refine c_for l.length (fun k => [(3, .cptr .p (fnV wf) 0), (5, .sl (.own 2816321) (((l.take k).map (eE_Object wf)).map fnV)), (8, .sl .p (l.map obV)), (9, .int .i64 l.length), (10, .int .i64 k)]) (fun k => [(2816321, .vec ((l.take k).map (eE_Object wf)).length)]) (fun _ => True) trivial ft fun k hk _ => ?_
  by_cases hlt : k < l.length
  · obtain ⟨x, hx⟩ := get_some hlt
    have hkl : ((l.take k).map (eE_Object wf)).length = k := by simp; omega
    have e1 : (l.take (k + 1)).map (eE_Object wf) = (l.take k).map (eE_Object wf) ++ [eE_Object wf x] := by rw [take_succ_get hx, List.map_append]; rfl
    repeat' (first | refine i_s rfl ?_ | refine sw ?_ | refine jd rfl rfl ?_ | refine i_stb rfl ?_ | refine i_alloc rfl ?_ | refine c_cond rfl (fun h => ?_) (fun h => ?_))
    all_goals first
      | (exfalso; simp at *; done)
      | (exfalso; simp at *; omega)
      | skip
    refine c_frzb rfl rfl rfl ?_
    repeat (first | refine i_s rfl ?_ | refine sw ?_)
    refine i_appM (c := eE_Object wf x) rfl rfl rfl rfl rfl (by omega) (by omega) ?_
    repeat (first | refine i_s rfl ?_ | refine sw ?_ | refine ja rfl rfl ?_)
    refine e_for hlt trivial ⟨⟨rfl, ?_, rfl, rfl, rfl, trivial⟩, ⟨?_, trivial⟩, rfl⟩
    · rw [e1]; rfl
    · rw [e1]; simp; rfl
  have hge : k = l.length := by omega
  subst hge
  rw [List.take_length]
  repeat' (first | refine i_s rfl ?_ | refine sw ?_ | refine c_cond rfl (fun h => ?_) (fun h => ?_))
  all_goals first
    | exact e_ret ⟨rfl, _, rfl, rfl⟩
    | (exfalso; simp at *; done)
    | (exfalso; simp at *; omega)
theorem els_each_Object {b : Nat} {wf : Nat × List V} {T : Obj → Tr} {ok : (Obj) → Prop} (hW : Wr b wf obV T ok) {l : List (Obj)} (h : ∀ x ∈ l, ok x) : Els b (l.map (eE_Object wf)) (l.map T) := Els.map fun x hx => el_each_Object hW x (h x hx)
def c_domain_each_Predicate_1 : Cmd :=
 (qS [qc 2 0]
 (.seq (.ops [ql 3 1 0, qL 4 2 1, qq 5 (.call (.s [705153, 715522]) (.t 3) [.t 4]), qm 2 5]) .ret))
def r_domain_each_Predicate_1 : List RVar := [.tmp 2]
def n_domain_each_Predicate_1 : Nat := 6
theorem k_domain_each_Predicate_1 : chkFn Go.Proofs.Tryz.prog 95 n_domain_each_Predicate_1 r_domain_each_Predicate_1 c_domain_each_Predicate_1 = true := by kernel_rfl
abbrev eE_Predicate (wf : Nat × List V) (x : Prd) : Nat × List V := (95, [.cptr .p (fnV wf) 0, .cptr .p (prdV x) 0])
theorem el_each_Predicate {b : Nat} {wf : Nat × List V} {T : Prd → Tr} {ok : (Prd) → Prop} (hW : Wr b wf prdV T ok) (x : Prd) (hx : ok x) : El b (eE_Predicate wf x) (T x) := by
  refine ⟨rfl, fun ns => rfl, fun G H g R hR => ?_⟩
  have hrun := hW.run x hx G H g R hR
  have hcl := hW.cl
  obtain ⟨f1, f2⟩ := wf
  clear hW
  refine CT.step _ mixed k_domain_each_Predicate_1 (fun nm hnm => stOf_mem _ nm hnm) fun hM => ?_
  repeat (first | refine i_s rfl ?_ | refine sw ?_)
  refine i_cs rfl (by show (closedB _ _ && closedL _ f2) = true; rw [hcl]; rfl) rfl rfl hrun ?_
  rintro _ _ _ ⟨⟨rfl, rfl⟩, rfl⟩
  repeat (first | refine i_s rfl ?_ | refine sw ?_)
  exact e_ret ⟨rfl, _, rfl, rfl, rfl, ⟨rfl, restr_stOf _ _⟩, rfl⟩
def c_domain_each_Predicate : Cmd :=
 (.seq (.ops [qx 3 2944193 1 1, qq 4 (.mov (.c (.sl .nil [])))]) (qT (.frz 3)
 (qS [qq 5 (.newVec 2944321)]
 (qT (qS [qm 8 0, qn 9 8, qc 10 0]
 (.block 0 (.loop (qS [qu 11 .lss [] 10 9]
 (qT (.cond (.t 11) .skip (.exit 0))
 (qT (.block 1 (.seq (.ops [qi 12 2 8 10, qL 13 2 12, qq 7 (.alloc 2944450 (.agg [.str [], .sl .nil []])), qs 2 7 13]) (qT (.frz 7)
 (.ops [qm 14 5, qq 15 (.mkfn 95 [.t 3, .t 7]), qq 16 (.bsl 1 [.t 15]), qq 17 (.append 1 8 78 (.t 14) (.t 16)), qm 5 17]))))
 (.ops [qv 18 .add [] 10 1, qm 10 18])))))))
 (.seq (.ops [qm 19 5, qm 4 19]) .ret)))))
def r_domain_each_Predicate : List RVar := [.tmp 4]
def n_domain_each_Predicate : Nat := 20
theorem k_domain_each_Predicate : chkFn Go.Proofs.Tryz.prog 46 n_domain_each_Predicate r_domain_each_Predicate c_domain_each_Predicate = true := by kernel_rfl
theorem f_each_Predicate (wf : Nat × List V) (hp : pureL wf.2 = true) (l : List (Prd)) (hl : l.length ≤ 1000000) : Fc Go.Proofs.Tryz.prog 46 [.sl .p (l.map prdV), fnV wf] (.sl .p ((l.map (eE_Predicate wf)).map fnV)) := by
  refine Fn.step mixed k_domain_each_Predicate ?_
  repeat (first | refine i_s rfl ?_ | refine sw ?_ | refine i_box rfl rfl ?_)
  refine c_frzb rfl rfl hp ?_
  repeat (first | refine i_len rfl ?_ | refine i_s rfl ?_ | refine sw ?_ | refine i_nv rfl ?_)
  refine c_for l.length (fun k => [(3, .cptr .p (fnV wf) 0), (5, .sl (.own 2944321) (((l.take k).map (eE_Predicate wf)).map fnV)), (8, .sl .p (l.map prdV)), (9, .int .i64 l.length), (10, .int .i64 k)]) (fun k => [(2944321, .vec ((l.take k).map (eE_Predicate wf)).length)]) (fun _ => True) trivial ft fun k hk _ => ?_
  by_cases hlt : k < l.length
  · obtain ⟨x, hx⟩ := get_some hlt
    have hkl : ((l.take k).map (eE_Predicate wf)).length = k := by simp; omega
    have e1 : (l.take (k + 1)).map (eE_Predicate wf) = (l.take k).map (eE_Predicate wf) ++ [eE_Predicate wf x] := by rw [take_succ_get hx, List.map_append]; rfl
    repeat' (first | refine i_s rfl ?_ | refine sw ?_ | refine jd rfl rfl ?_ | refine i_stb rfl ?_ | refine i_alloc rfl ?_ | refine c_cond rfl (fun h => ?_) (fun h => ?_))
    all_goals first
      | (exfalso; simp at *; done)
      | (exfalso; simp at *; omega)
      | skip
    refine c_frzb rfl rfl rfl ?_
    repeat (first | refine i_s rfl ?_ | refine sw ?_)
    refine i_appM (c := eE_Predicate wf x) rfl rfl rfl rfl rfl (by omega) (by omega) ?_
    repeat (first | refine i_s rfl ?_ | refine sw ?_ | refine ja rfl rfl ?_)
    refine e_for hlt trivial ⟨⟨rfl, ?_, rfl, rfl, rfl, trivial⟩, ⟨?_, trivial⟩, rfl⟩
    · rw [e1]; rfl
    · rw [e1]; simp; rfl
  have hge : k = l.length := by omega
  subst hge
  rw [List.take_length]
  repeat' (first | refine i_s rfl ?_ | refine sw ?_ | refine c_cond rfl (fun h => ?_) (fun h => ?_))
  all_goals first
    | exact e_ret ⟨rfl, _, rfl, rfl⟩
    | (exfalso; simp at *; done)
    | (exfalso; simp at *; omega)
theorem els_each_Predicate {b : Nat} {wf : Nat × List V} {T : Prd → Tr} {ok : (Prd) → Prop} (hW : Wr b wf prdV T ok) {l : List (Prd)} (h : ∀ x ∈ l, ok x) : Els b (l.map (eE_Predicate wf)) (l.map T) := Els.map fun x hx => el_each_Predicate hW x (h x hx)
def ItoaOk : Prop := ∀ n : Nat, n ≤ 100 → Fc Go.Proofs.Tryz.prog 100 [.int .i64 n] (.str (dig n))
theorem itoa_at (hI : ItoaOk) {x : Int} (h0 : 0 ≤ x) (h1 : x ≤ 100) : Fc Go.Proofs.Tryz.prog 100 [.int .i64 x] (.str (dig x.toNat)) := by
  have := hI x.toNat (by omega)
  rw [show ((x.toNat : Nat) : Int) = x from by omega] at this
  exact this
def c_domain_typeName : Cmd :=
 (qS [qx 2 2752134 6 0, qq 4 (.mov (.c (.str [])))]
 (qT (qS [qm 5 1, qv 6 .lss [] 5 0]
 (.cond (.t 6) (.seq (.ops [qq 4 (.mov (.c (.str [111, 98, 106, 101, 99, 116])))]) .ret) .skip))
 (.seq (.ops [qf 7 0 2, ql 8 1 7, qm 9 1, qi 10 2 8 9, qf 11 0 10, ql 12 1 11, qm 4 12]) .ret)))
def r_domain_typeName : List RVar := [.tmp 4]
def n_domain_typeName : Nat := 13
theorem k_domain_typeName : chkFn Go.Proofs.Tryz.prog 43 n_domain_typeName r_domain_typeName c_domain_typeName = true := by kernel_rfl
theorem f_typeName (d : Dom) (t : Int) (h1 : t < d.types.length) : Fc Go.Proofs.Tryz.prog 43 [domV d, .int .i64 t] (.str (typeNm d t)) := by
  by_cases h0 : t < 0
  · have e : typeNm d t = objectS := by unfold typeNm; rw [if_pos h0]
    rw [e]
    refine Fn.step mixed k_domain_typeName ?_
    repeat' (first | refine i_s rfl ?_ | refine sw ?_ | refine i_box rfl rfl ?_ | refine c_cond rfl (fun h => ?_) (fun h => ?_))
    all_goals first
      | exact e_ret ⟨rfl, _, rfl, rfl⟩
      | (exfalso; simp at *; done)
      | (exfalso; simp at *; omega)
  · obtain ⟨x, hx⟩ := get_some (l := d.types) (k := t.toNat) (by omega)
    have e : typeNm d t = x.name := by unfold typeNm; rw [if_neg h0, hx]
    rw [e]
    refine Fn.step mixed k_domain_typeName ?_
    repeat' (first | refine i_s rfl ?_ | refine sw ?_ | refine jd rfl rfl ?_ | refine i_box rfl rfl ?_ | refine c_cond rfl (fun h => ?_) (fun h => ?_))
    all_goals first
      | exact e_ret ⟨rfl, _, rfl, rfl⟩
      | (exfalso; simp at *; done)
      | (exfalso; simp at *; omega)
abbrev rdC (b : Nat) (d : Dom) : List V := [.cptr .p (.raw b 0) 0, .cptr .p (domV d) 0]
def c_domain_writer_typeNames_1 : Cmd :=
 (qS [qc 4 0]
 (.seq (.ops [ql 5 1 1, qL 6 6 2, qm 7 0, qk 8 43 [6, 7], qq 9 (.call (.s [705153, 715522]) (.c (.fn 93 [])) [.t 5, .t 8]), qm 4 9]) .ret))
def r_domain_writer_typeNames_1 : List RVar := [.tmp 4]
def n_domain_writer_typeNames_1 : Nat := 10
theorem k_domain_writer_typeNames_1 : chkFn Go.Proofs.Tryz.prog 97 n_domain_writer_typeNames_1 r_domain_writer_typeNames_1 c_domain_writer_typeNames_1 = true := by kernel_rfl
abbrev wfNm (b : Nat) (d : Dom) : Nat × List V := (97, rdC b d)
theorem wr_nm (b : Nat) (d : Dom) : Wr b (wfNm b d) i64V (nmT d) (fun t => t < d.types.length) := by
  refine ⟨rfl, fun ns => rfl, fun t ht G H g R hR => ?_⟩
  have hT := f_typeName d t ht
  have hR2 : R.length ≤ 1000000 := by omega
  refine CT.step _ mixed k_domain_writer_typeNames_1 (fun nm hnm => stOf_mem _ nm hnm) fun hM => ?_
  repeat (first | refine i_s rfl ?_ | refine sw ?_ | refine sf rfl rfl hT ?_)
  refine i_cs rfl rfl rfl rfl (ct_symbol b (typeNm d t) R hR2 g) ?_
  rintro _ _ _ ⟨⟨rfl, rfl⟩, rfl⟩
  repeat (first | refine i_s rfl ?_ | refine sw ?_)
  refine e_ret ⟨rfl, _, rfl, rfl, rfl, ⟨?_, restr_stOf _ _⟩, rfl⟩
  show V.int .i64 _ = _
  simp [nmT, tsz]
def c_domain_writer_typeNames : Cmd :=
 (.seq (.ops [qx 3 3072193 1 0, qx 4 3072262 6 1, qq 6 (.mov (.c (.sl .nil [])))]) (.seq (.frz 4) (qT (.frz 3)
 (.seq (.ops [qm 7 2, qq 8 (.mkfn 97 [.t 3, .t 4]), qk 9 96 [7, 8], qm 6 9]) .ret))))
def r_domain_writer_typeNames : List RVar := [.tmp 6]
def n_domain_writer_typeNames : Nat := 10
theorem k_domain_writer_typeNames : chkFn Go.Proofs.Tryz.prog 48 n_domain_writer_typeNames r_domain_writer_typeNames c_domain_writer_typeNames = true := by kernel_rfl
theorem f_typeNamesW (b : Nat) (d : Dom) (l : List Int) (hl : l.length ≤ 1000000) : Fc Go.Proofs.Tryz.prog 48 [.raw b 0, domV d, .sl .p (l.map i64V)] (.sl .p ((l.map (eE_int (wfNm b d))).map fnV)) := by
  have hE := f_each_int (wfNm b d) rfl l hl
  refine Fn.step mixed k_domain_writer_typeNames ?_
  repeat (first | refine i_s rfl ?_ | refine sw ?_ | refine i_box rfl rfl ?_)
  refine c_frzb rfl rfl rfl ?_
  repeat refine sw ?_
  refine c_frzb rfl rfl rfl ?_
  repeat (first | refine i_s rfl ?_ | refine sw ?_ | refine sf rfl rfl hE ?_)
  exact e_ret ⟨rfl, _, rfl, rfl⟩
def c_domain_writer_atom_1 : Cmd :=
 (qS [qc 4 0]
 (qT (qS [qm 5 0, qv 6 .lss [] 5 0]
 (.cond (.t 6) (.seq (.ops [ql 7 1 1, qm 8 0, qq 9 (.bin .sub false [] (.c (.int .i64 (-1))) (.t 8)), qk 10 100 [9], qq 11 (.bin .add false [] (.c (.str [63])) (.t 10)), qq 12 (.call (.s [705153, 715522]) (.c (.fn 93 [])) [.t 7, .t 11]), qm 4 12]) .ret) .skip))
 (.seq (.ops [ql 13 1 1, qf 14 1 2, ql 15 1 14, qm 16 0, qi 17 2 15 16, qf 18 0 17, ql 19 1 18, qq 20 (.call (.s [705153, 715522]) (.c (.fn 93 [])) [.t 13, .t 19]), qm 4 20]) .ret)))
def r_domain_writer_atom_1 : List RVar := [.tmp 4]
def n_domain_writer_atom_1 : Nat := 21
theorem k_domain_writer_atom_1 : chkFn Go.Proofs.Tryz.prog 144 n_domain_writer_atom_1 r_domain_writer_atom_1 c_domain_writer_atom_1 = true := by kernel_rfl
abbrev wfArg (b : Nat) (d : Dom) : Nat × List V := (144, rdC b d)
theorem wr_arg (hI : ItoaOk) (b : Nat) (d : Dom) : Wr b (wfArg b d) i64V (argT d) (fun x => -100 ≤ x ∧ x < d.objects.length) := by
  refine ⟨rfl, fun ns => rfl, fun x hx G H g R hR => ?_⟩
  obtain ⟨x0, x1⟩ := hx
  have hR2 : R.length ≤ 1000000 := by omega
  by_cases h : x < 0
  · have hT := itoa_at hI (x := -1 - x) (by omega) (by omega)
    have e : argT d x = .sym ([63] ++ dig (-1 - x).toNat) := by unfold argT argS; rw [if_pos h]; rfl
    rw [e]
    refine CT.step _ mixed k_domain_writer_atom_1 (fun nm hnm => stOf_mem _ nm hnm) fun hM => ?_
    repeat' (first | refine i_s rfl ?_ | refine sw ?_ | refine jb rfl rfl ?_ | refine c_cond rfl (fun h => ?_) (fun h => ?_) | refine sf rfl rfl hT ?_ | fail)
    all_goals first
      | (exfalso; clear hT; simp at *; done)
      | (exfalso; clear hT; simp at *; omega)
      | skip
    have hdl : (dig (-1 - x).toNat).length ≤ 3 := digF_len _ _ 3 (by omega) (by omega)
    refine i_cat rfl rfl (by simp only [List.length_cons, List.length_nil]; omega) ?_
    skip
    refine i_cs rfl rfl rfl rfl (ct_symbol b ([63] ++ dig (-1 - x).toNat) R hR2 g) ?_
    rintro _ _ _ ⟨⟨rfl, rfl⟩, rfl⟩
    repeat (first | refine i_s rfl ?_ | refine sw ?_)
    refine e_ret ⟨rfl, _, rfl, rfl, rfl, ⟨?_, restr_stOf _ _⟩, rfl⟩
    show V.int .i64 _ = _
    simp [tsz]
  · obtain ⟨o, ho⟩ := get_some (l := d.objects) (k := x.toNat) (by omega)
    have e : argT d x = .sym o.name := by unfold argT argS objNm; rw [if_neg h, ho]
    rw [e]
    refine CT.step _ mixed k_domain_writer_atom_1 (fun nm hnm => stOf_mem _ nm hnm) fun hM => ?_
    repeat' (first | refine i_s rfl ?_ | refine sw ?_ | refine jd rfl rfl ?_ | refine c_cond rfl (fun h => ?_) (fun h => ?_))
    all_goals first
      | (exfalso; simp at *; done)
      | (exfalso; simp at *; omega)
      | skip
    refine i_cs rfl rfl rfl rfl (ct_symbol b o.name R hR2 g) ?_
    rintro _ _ _ ⟨⟨rfl, rfl⟩, rfl⟩
    repeat (first | refine i_s rfl ?_ | refine sw ?_)
    refine e_ret ⟨rfl, _, rfl, rfl, rfl, ⟨?_, restr_stOf _ _⟩, rfl⟩
    show V.int .i64 _ = _
    simp [tsz]
structure AtW (d : Dom) (a : At) : Prop where
  p0 : 0 ≤ a.pred
  p1 : a.pred < d.preds.length
  l : a.args.length ≤ 1000
  r : ∀ x ∈ a.args, -100 ≤ x ∧ x < d.objects.length
def c_domain_writer_atom : Cmd :=
 (.seq (.ops [qx 3 6656193 1 0, qx 4 6656262 6 1, qx 5 6656322 2 2, qc 6 0]) (.seq (.frz 4) (qT (.frz 3)
 (qS [qf 8 1 5, ql 9 1 8, qq 10 (.mkfn 144 [.t 3, .t 4]), qk 11 96 [9, 10], qm 7 11]
 (.seq (.ops [ql 12 1 3, qf 13 2 4, ql 14 1 13, qf 15 0 5, ql 16 1 15, qi 17 2 14 16, qf 18 0 17, ql 19 1 18, qm 20 7, qk 21 38 [12, 19, 20], qq 22 (.call (.s [705153, 715522]) (.t 21) []), qm 6 22]) .ret)))))
def r_domain_writer_atom : List RVar := [.tmp 6]
def n_domain_writer_atom : Nat := 23
theorem k_domain_writer_atom : chkFn Go.Proofs.Tryz.prog 104 n_domain_writer_atom r_domain_writer_atom c_domain_writer_atom = true := by kernel_rfl
theorem ct_atom {G : Type} {H : HT G} (hI : ItoaOk) (b : Nat) (d : Dom) (a : At) (ha : AtW d a) (R : List Sx) (hR : R.length + tsz (atT d a) ≤ 1000000) (g : G) : Cc Go.Proofs.Tryz.prog H 104 [.raw b 0, domV d, atV a] WNS (stOf (wS b R)) g fun r σ' g' => (r = .int .i64 ((R.length + tsz (atT d a) : Nat) - 1 : Int) ∧ σ' = stOf (wS b (R ++ flt R.length (atT d a)))) ∧ g' = g := by
  have p0 := ha.p0
  have p1 := ha.p1
  have hl := ha.l
  obtain ⟨p, hp⟩ := get_some (l := d.preds) (k := a.pred.toNat) (by omega)
  have hE := f_each_int (wfArg b d) rfl a.args (by omega)
  have hS := f_writer_section b p.name (a.args.map (eE_int (wfArg b d)))
  have e : atT d a = secT p.name (a.args.map (argT d)) := by unfold atT prdNm; rw [hp]
  rw [e] at hR ⊢
  have hrun := (el_section b p.name _ _ (els_each_int (wr_arg hI b d) ha.r) (by simp; omega)).run G H g R hR
  refine CT.step _ mixed k_domain_writer_atom (fun nm hnm => stOf_mem _ nm hnm) fun hM => ?_
  repeat (first | refine i_s rfl ?_ | refine sw ?_ | refine i_box rfl rfl ?_)
  refine c_frzb rfl rfl rfl ?_
  repeat refine sw ?_
  refine c_frzb rfl rfl rfl ?_
  repeat (first | refine i_s rfl ?_ | refine sw ?_ | refine jd rfl rfl ?_ | refine sf rfl rfl hE ?_ | refine sf rfl rfl hS ?_)
  refine i_cs rfl rfl rfl rfl hrun ?_
  rintro _ _ _ ⟨⟨rfl, rfl⟩, rfl⟩
  repeat (first | refine i_s rfl ?_ | refine sw ?_)
  exact e_ret ⟨rfl, _, rfl, rfl, rfl, ⟨rfl, restr_stOf _ _⟩, rfl⟩
def c_domain_writer_atoms_1 : Cmd :=
 (qS [qx 3 6592194 2 0, qc 4 0]
 (.seq (.ops [ql 5 1 1, qL 6 6 2, qL 7 2 3, qq 8 (.call (.s [705153, 715522]) (.c (.fn 104 [])) [.t 5, .t 6, .t 7]), qm 4 8]) .ret))
def r_domain_writer_atoms_1 : List RVar := [.tmp 4]
def n_domain_writer_atoms_1 : Nat := 9
theorem k_domain_writer_atoms_1 : chkFn Go.Proofs.Tryz.prog 103 n_domain_writer_atoms_1 r_domain_writer_atoms_1 c_domain_writer_atoms_1 = true := by kernel_rfl
abbrev wfAt (b : Nat) (d : Dom) : Nat × List V := (103, rdC b d)
theorem wr_at (hI : ItoaOk) (b : Nat) (d : Dom) : Wr b (wfAt b d) atV (atT d) (AtW d) := by
  refine ⟨rfl, fun ns => rfl, fun a ha G H g R hR => ?_⟩
  have hrun := ct_atom (G := G) (H := H) hI b d a ha R hR g
  refine CT.step _ mixed k_domain_writer_atoms_1 (fun nm hnm => stOf_mem _ nm hnm) fun hM => ?_
  repeat (first | refine i_s rfl ?_ | refine sw ?_ | refine i_box rfl rfl ?_)
  refine i_cs rfl rfl rfl rfl hrun ?_
  rintro _ _ _ ⟨⟨rfl, rfl⟩, rfl⟩
  repeat (first | refine i_s rfl ?_ | refine sw ?_)
  exact e_ret ⟨rfl, _, rfl, rfl, rfl, ⟨rfl, restr_stOf _ _⟩, rfl⟩
abbrev secE (b : Nat) (name : List UInt8) (es : List (Nat × List V)) : Nat × List V := (90, [.cptr .p (.raw b 0) 0, .cptr .p (.str name) 0, .cptr .p (.sl .p (es.map fnV)) 0])
def c_domain_writer_atoms : Cmd :=
 (.seq (.ops [qx 4 3200257 1 0, qx 5 3200326 6 1, qq 8 (.mov (.c (.nilfn)))]) (.seq (.frz 5) (qT (.frz 4)
 (.seq (.ops [ql 9 1 4, qm 10 2, qm 11 3, qq 12 (.mkfn 103 [.t 4, .t 5]), qk 13 102 [11, 12], qk 14 38 [9, 10, 13], qm 8 14]) .ret))))
def r_domain_writer_atoms : List RVar := [.tmp 8]
def n_domain_writer_atoms : Nat := 15
theorem k_domain_writer_atoms : chkFn Go.Proofs.Tryz.prog 50 n_domain_writer_atoms r_domain_writer_atoms c_domain_writer_atoms = true := by kernel_rfl
theorem f_atomsW (b : Nat) (d : Dom) (name : List UInt8) (l : List At) (hl : l.length ≤ 1000000) : Fc Go.Proofs.Tryz.prog 50 [.raw b 0, domV d, .str name, .sl .p (l.map atV)] (fnV (secE b name (l.map (eE_Atom (wfAt b d))))) := by
  have hE := f_each_Atom (wfAt b d) rfl l hl
  have hS := f_writer_section b name (l.map (eE_Atom (wfAt b d)))
  refine Fn.step mixed k_domain_writer_atoms ?_
  repeat (first | refine i_s rfl ?_ | refine sw ?_ | refine i_box rfl rfl ?_)
  refine c_frzb rfl rfl rfl ?_
  repeat refine sw ?_
  refine c_frzb rfl rfl rfl ?_
  repeat (first | refine i_s rfl ?_ | refine sw ?_ | refine sf rfl rfl hE ?_ | refine sf rfl rfl hS ?_)
  exact e_ret ⟨rfl, _, rfl, rfl⟩
def c_domain_writer_literals_1_1 : Cmd :=
 (qS [qc 3 0]
 (.seq (.ops [ql 4 1 0, qL 5 6 1, qf 6 1 2, qL 7 2 6, qq 8 (.call (.s [705153, 715522]) (.c (.fn 104 [])) [.t 4, .t 5, .t 7]), qm 3 8]) .ret))
def r_domain_writer_literals_1_1 : List RVar := [.tmp 3]
def n_domain_writer_literals_1_1 : Nat := 9
theorem k_domain_writer_literals_1_1 : chkFn Go.Proofs.Tryz.prog 107 n_domain_writer_literals_1_1 r_domain_writer_literals_1_1 c_domain_writer_literals_1_1 = true := by kernel_rfl
abbrev eNot (b : Nat) (d : Dom) (x : Lit) : Nat × List V := (107, [.cptr .p (.raw b 0) 0, .cptr .p (domV d) 0, .cptr .p (litV x) 0])
theorem el_not (hI : ItoaOk) (b : Nat) (d : Dom) (x : Lit) (ha : AtW d x.at_) : El b (eNot b d x) (atT d x.at_) := by
  refine ⟨rfl, fun ns => rfl, fun G H g R hR => ?_⟩
  have hrun := ct_atom (G := G) (H := H) hI b d x.at_ ha R hR g
  refine CT.step _ mixed k_domain_writer_literals_1_1 (fun nm hnm => stOf_mem _ nm hnm) fun hM => ?_
  repeat (first | refine i_s rfl ?_ | refine sw ?_)
  refine i_cs rfl rfl rfl rfl hrun ?_
  rintro _ _ _ ⟨⟨rfl, rfl⟩, rfl⟩
  repeat (first | refine i_s rfl ?_ | refine sw ?_)
  exact e_ret ⟨rfl, _, rfl, rfl, rfl, ⟨rfl, restr_stOf _ _⟩, rfl⟩
def c_domain_writer_literals_1 : Cmd :=
 (.seq (.ops [qx 3 6784195 3 0, qc 4 0]) (qT (.frz 3)
 (qT (qS [qf 5 0 3, ql 6 1 5]
 (.cond (.t 6) (.seq (.ops [ql 7 1 1, qq 8 (.mkfn 107 [.t 1, .t 2, .t 3]), qq 9 (.bsl 1 [.t 8]), qq 10 (.call .f (.c (.fn 38 [])) [.t 7, .c (.str [110, 111, 116]), .t 9]), qq 11 (.call (.s [705153, 715522]) (.t 10) []), qm 4 11]) .ret) .skip))
 (.seq (.ops [ql 12 1 1, qL 13 6 2, qf 14 1 3, qL 15 2 14, qq 16 (.call (.s [705153, 715522]) (.c (.fn 104 [])) [.t 12, .t 13, .t 15]), qm 4 16]) .ret))))
def r_domain_writer_literals_1 : List RVar := [.tmp 4]
def n_domain_writer_literals_1 : Nat := 17
theorem k_domain_writer_literals_1 : chkFn Go.Proofs.Tryz.prog 106 n_domain_writer_literals_1 r_domain_writer_literals_1 c_domain_writer_literals_1 = true := by kernel_rfl
abbrev wfLit (b : Nat) (d : Dom) : Nat × List V := (106, rdC b d)
theorem wr_lit (hI : ItoaOk) (b : Nat) (d : Dom) : Wr b (wfLit b d) litV (litT d) (fun x => AtW d x.at_) := by
  refine ⟨rfl, fun ns => rfl, fun x ha G H g R hR => ?_⟩
  obtain ⟨neg, a⟩ := x
  cases neg with
  | true =>
    have e : litT d ⟨true, a⟩ = secT notS [atT d a] := by unfold litT; rw [if_pos rfl]
    rw [e] at hR ⊢
    have hS := f_writer_section b notS [eNot b d ⟨true, a⟩]
    have hrun := (el_section b notS [eNot b d ⟨true, a⟩] [atT d a] (Els.cons (el_not hI b d ⟨true, a⟩ ha) (Els.nil b)) (by simp)).run G H g R hR
    refine CT.step _ mixed k_domain_writer_literals_1 (fun nm hnm => stOf_mem _ nm hnm) fun hM => ?_
    repeat (first | refine i_s rfl ?_ | refine sw ?_ | refine i_box rfl rfl ?_)
    refine c_frzb rfl rfl rfl ?_
    repeat (first | refine i_s rfl ?_ | refine sw ?_ | refine c_t rfl ?_ | refine sf rfl rfl hS ?_)
    refine i_cs rfl rfl rfl rfl hrun ?_
    rintro _ _ _ ⟨⟨rfl, rfl⟩, rfl⟩
    repeat (first | refine i_s rfl ?_ | refine sw ?_)
    exact e_ret ⟨rfl, _, rfl, rfl, rfl, ⟨rfl, restr_stOf _ _⟩, rfl⟩
  | false =>
    have e : litT d ⟨false, a⟩ = atT d a := by unfold litT; rw [if_neg (by simp)]
    rw [e] at hR ⊢
    have hrun := ct_atom (G := G) (H := H) hI b d a ha R hR g
    refine CT.step _ mixed k_domain_writer_literals_1 (fun nm hnm => stOf_mem _ nm hnm) fun hM => ?_
    repeat (first | refine i_s rfl ?_ | refine sw ?_ | refine i_box rfl rfl ?_)
    refine c_frzb rfl rfl rfl ?_
    repeat (first | refine i_s rfl ?_ | refine sw ?_ | refine c_f rfl ?_)
    refine i_cs rfl rfl rfl rfl hrun ?_
    rintro _ _ _ ⟨⟨rfl, rfl⟩, rfl⟩
    repeat (first | refine i_s rfl ?_ | refine sw ?_)
    exact e_ret ⟨rfl, _, rfl, rfl, rfl, ⟨rfl, restr_stOf _ _⟩, rfl⟩
def c_domain_writer_literals : Cmd :=
 (.seq (.ops [qx 4 3264257 1 0, qx 5 3264326 6 1, qq 8 (.mov (.c (.nilfn)))]) (.seq (.frz 5) (qT (.frz 4)
 (.seq (.ops [ql 9 1 4, qm 10 2, qm 11 3, qq 12 (.mkfn 106 [.t 4, .t 5]), qk 13 105 [11, 12], qk 14 38 [9, 10, 13], qm 8 14]) .ret))))
def r_domain_writer_literals : List RVar := [.tmp 8]
def n_domain_writer_literals : Nat := 15
theorem k_domain_writer_literals : chkFn Go.Proofs.Tryz.prog 51 n_domain_writer_literals r_domain_writer_literals c_domain_writer_literals = true := by kernel_rfl
theorem f_literalsW (b : Nat) (d : Dom) (name : List UInt8) (l : List Lit) (hl : l.length ≤ 1000000) : Fc Go.Proofs.Tryz.prog 51 [.raw b 0, domV d, .str name, .sl .p (l.map litV)] (fnV (secE b name (l.map (eE_Literal (wfLit b d))))) := by
  have hE := f_each_Literal (wfLit b d) rfl l hl
  have hS := f_writer_section b name (l.map (eE_Literal (wfLit b d)))
  refine Fn.step mixed k_domain_writer_literals ?_
  repeat (first | refine i_s rfl ?_ | refine sw ?_ | refine i_box rfl rfl ?_)
  refine c_frzb rfl rfl rfl ?_
  repeat refine sw ?_
  refine c_frzb rfl rfl rfl ?_
  repeat (first | refine i_s rfl ?_ | refine sw ?_ | refine sf rfl rfl hE ?_ | refine sf rfl rfl hS ?_)
  exact e_ret ⟨rfl, _, rfl, rfl⟩
theorem atW_of {d : Dom} (hd : DomV d) {ps : List Int} (hps : ps.length ≤ 100) {a : At} (h : atomCode d ps a = 0) : AtW d a ∧ a.args.length ≤ 3 := by
  obtain ⟨⟨p0, p1⟩, p, hp, hl, _⟩ := atom_args h
  have ht := (prdVal_of hd hp).types.1
  refine ⟨⟨p0, p1, by omega, fun x hx => ?_⟩, by omega⟩
  have := atom_rng h x hx
  omega
theorem tszL_map_le {α : Type} {g : α → Tr} {n : Nat} : ∀ {l : List α}, (∀ x ∈ l, tsz (g x) ≤ n) → tszL (l.map g) ≤ l.length * n
  | [], _ => by simp [tszL]
  | x :: r, h => by
    have h1 := h x (by simp)
    have h2 := tszL_map_le (l := r) (fun y hy => h y (by simp [hy]))
    simp only [List.map_cons, tszL, List.length_cons, Nat.add_mul]
    omega
theorem tsz_sec (name : List UInt8) (l : List Tr) : tsz (secT name l) = tszL l + 2 := by simp only [secT, tsz, tszL]; omega
theorem tsz_at (d : Dom) {a : At} (h : a.args.length ≤ 3) : tsz (atT d a) ≤ 5 := by
  unfold atT
  rw [tsz_sec]
  have := tszL_map_le (g := argT d) (n := 1) (l := a.args) (fun x _ => by simp [argT, tsz])
  omega
theorem tsz_lit (d : Dom) {x : Lit} (h : x.at_.args.length ≤ 3) : tsz (litT d x) ≤ 7 := by
  have h1 := tsz_at d h
  unfold litT
  split
  · rw [tsz_sec]
    simp only [tszL]
    omega
  · omega
theorem tsz_sch {d : Dom} (hd : DomV d) {s : Sch} (hs : s ∈ d.schemas) : tsz (schT d s) ≤ 200 := by
  obtain ⟨i, hi⟩ := List.getElem?_of_mem hs
  have hv := (schV2_of hd hi).val
  have h0 := hv.types.1
  have h1 := tszL_map_le (g := nmT d) (n := 1) (l := s.types) (fun x _ => by simp [nmT, tsz])
  have h2 := tszL_map_le (g := pairT) (n := 3) (l := s.diff) (fun x _ => by simp [pairT, tsz, tszL])
  have h3 := tszL_map_le (g := litT d) (n := 7) (l := s.pre) (fun x hx => tsz_lit d (atW_of hd (by omega) (hv.pre x hx)).2)
  have h4 := tszL_map_le (g := atT d) (n := 5) (l := s.add) (fun x hx => tsz_at d (atW_of hd (by omega) (hv.add x hx)).2)
  have h5 := tszL_map_le (g := atT d) (n := 5) (l := s.del) (fun x hx => tsz_at d (atW_of hd (by omega) (hv.del x hx)).2)
  have q2 := hv.dl
  have q3 := hv.prel
  have q4 := hv.addl
  have q5 := hv.dell
  unfold schT
  rw [tsz_sec]
  simp only [tszL, tsz, tsz_sec]
  omega
theorem tsz_dom {d : Dom} (hd : DomV d) (hty : d.types.length ≤ 1000) : tsz (domT d) ≤ 20000 := by
  have h1 := tszL_map_le (g := tyT d) (n := 3) (l := d.types) (fun x _ => by simp [tyT, tsz, tszL])
  have h2 := tszL_map_le (g := obT d) (n := 3) (l := d.objects) (fun x _ => by simp [obT, tsz, tszL])
  have h3 := tszL_map_le (g := prT d) (n := 5) (l := d.preds) (fun x hx => by
    obtain ⟨i, hi⟩ := List.getElem?_of_mem hx
    have ht := (prdVal_of hd hi).types.1
    unfold prT
    rw [tsz_sec]
    have := tszL_map_le (g := nmT d) (n := 1) (l := x.types) (fun x _ => by simp [nmT, tsz])
    omega)
  have h4 := tszL_map_le (g := schT d) (n := 200) (l := d.schemas) (fun x hx => tsz_sch hd hx)
  have hi := (atomsCode_all hd.ini)
  have hg := (atomsCode_all hd.goal)
  have h5 := tszL_map_le (g := atT d) (n := 5) (l := d.init) (fun x hx => tsz_at d (atW_of hd (by simp) (hi.2 x hx)).2)
  have h6 := tszL_map_le (g := litT d) (n := 7) (l := d.goal) (fun x hx => tsz_lit d (atW_of hd (by simp) (hg.2 x.at_ (List.mem_map_of_mem hx))).2)
  have q1 := hd.ty.ol
  have q2 := hd.pl
  have q3 := hd.sl
  have q4 := hi.1
  have q5 := hg.1
  rw [List.length_map] at q5
  unfold domT
  rw [tsz_sec]
  simp only [tszL_append, tszL, tsz_sec]
  omega
mutual
theorem flt_sxs : ∀ (t : Tr) (b : Nat), tok t = true → b + tsz t ≤ 1000000 → ∀ x ∈ flt b t, x.sym.length ≤ 12 ∧ x.ch.length ≤ 1000000 ∧ ∀ c ∈ x.ch, InR .i64 c
  | .sym s, b, ht, hb, x, hx => by
    simp only [flt, List.mem_singleton] at hx
    subst hx
    have hs : symbolB s = true := by simpa [tok] using ht
    refine ⟨?_, by simp, fun c hc => by simp at hc⟩
    unfold symbolB at hs
    simp only [Bool.and_eq_true, decide_eq_true_eq] at hs
    exact hs.2.2
  | .lst l, b, ht, hb, x, hx => by
    simp only [flt, List.mem_append, List.mem_singleton] at hx
    simp only [tsz] at hb
    rcases hx with hx | rfl
    · exact fltL_sxs l b (by simpa [tok] using ht) (by omega) x hx
    · exact ⟨by simp, by rw [chs_len]; have := tszL_len l; omega, fun c hc => chs_rng l b (by omega) c hc⟩
theorem fltL_sxs : ∀ (l : List Tr) (b : Nat), tokL l = true → b + tszL l ≤ 1000000 → ∀ x ∈ fltL b l, x.sym.length ≤ 12 ∧ x.ch.length ≤ 1000000 ∧ ∀ c ∈ x.ch, InR .i64 c
  | [], b, ht, hb, x, hx => by simp [fltL] at hx
  | t :: r, b, ht, hb, x, hx => by
    simp only [fltL, List.mem_append] at hx
    simp only [tokL, Bool.and_eq_true] at ht
    simp only [tszL] at hb
    rcases hx with hx | hx
    · exact flt_sxs t b ht.1 (by omega) x hx
    · exact fltL_sxs r (b + tsz t) ht.2 (by omega) x hx
theorem tszL_len : ∀ l : List Tr, l.length ≤ tszL l
  | [] => by simp [tszL]
  | t :: r => by have := tsz_pos t; have := tszL_len r; simp only [tszL, List.length_cons]; omega
theorem chs_rng : ∀ (l : List Tr) (b : Nat), b + tszL l ≤ 1000000 → ∀ c ∈ chs b l, InR .i64 c
  | [], b, hb, c, hc => by simp [chs] at hc
  | t :: r, b, hb, c, hc => by
    simp only [chs, List.mem_cons] at hc
    simp only [tszL] at hb
    have := tsz_pos t
    rcases hc with rfl | hc
    · exact ⟨by omega, by omega⟩
    · exact chs_rng r (b + tsz t) (by omega) c hc
end
theorem flt_sxsOk {t : Tr} (ht : tok t = true) (hs : tsz t ≤ 1000000) : SxsOk (flt 0 t) := by
  have h := flt_sxs t 0 ht (by omega)
  exact ⟨by rw [flt_len]; omega, fun x hx => by have := h x hx; exact ⟨by omega, by omega⟩, fun x hx => (h x hx).2.2⟩
def c_R1_SameAtoms : Cmd :=
 (qS [qb 4 false]
 (qT (qS [qm 6 0, qn 7 6, qm 8 1, qn 9 8, qu 10 .neq [.i] 7 9]
 (.cond (.t 10) (.seq (.ops [qb 4 false]) .ret) .skip))
 (qT (qS [qc 5 0]
 (.block 0 (.loop (qT (qS [qm 11 5, qm 12 0, qn 13 12, qu 14 .lss [] 11 13]
 (.cond (.t 14) .skip (.exit 0)))
 (qT (.block 1 (qS [qm 17 0, qm 18 5, qi 19 2 17 18, qL 20 2 19, qm 21 1, qm 22 5, qi 23 2 21 22, qL 24 2 23, qk 25 88 [20, 24], qq 26 (.not (.t 25))]
 (.cond (.t 26) (.seq (.ops [qb 4 false]) .ret) .skip)))
 (.ops [qm 15 5, qv 16 .add [] 15 1, qm 5 16]))))))
 (.seq (.ops [qb 4 true]) .ret))))
def r_R1_SameAtoms : List RVar := [.tmp 4]
def n_R1_SameAtoms : Nat := 27
theorem k_R1_SameAtoms : chkFn Go.Proofs.Tryz.prog 61 n_R1_SameAtoms r_R1_SameAtoms c_R1_SameAtoms = true := by kernel_rfl
theorem f_R1_SameAtomsR (a : List At) (hl : a.length ≤ 4398046511104) (ha : ∀ x ∈ a, AtOk x) : Fc Go.Proofs.Tryz.prog 61 [.sl .p (a.map atV), .sl .p (a.map atV)] (.bool true) := by
  refine Fn.step mixed k_R1_SameAtoms ?_
  repeat' (first | refine i_len rfl ?_ | refine i_s rfl ?_ | refine sw ?_ | refine c_cond rfl (fun h => ?_) (fun h => ?_))
  all_goals first
    | (exfalso; simp at *; done)
    | skip
  refine c_for a.length (fun i => [(0, .sl .p (a.map atV)), (1, .sl .p (a.map atV)), (5, .int .i64 i)]) (fun _ => []) (fun _ => True) trivial ft fun i hi _ => ?_
  by_cases hlt : i < a.length
  · obtain ⟨x, hx⟩ := get_some hlt
    have hS := f_R1_SameAtom x x (ha x (mem_get hx)) (ha x (mem_get hx))
    rw [decide_eq_true rfl] at hS
    repeat' (first | refine i_len rfl ?_ | refine i_s rfl ?_ | refine sw ?_ | refine c_f rfl ?_ | refine ja rfl rfl ?_ | refine jd rfl rfl ?_ | refine c_cond rfl (fun h => ?_) (fun h => ?_) | refine sf rfl rfl hS ?_ | fail)
    all_goals first
      | (exact e_for hlt trivial ft)
      | (exfalso; clear hS; simp at *; done)
      | (exfalso; clear hS; simp at *; omega)
  · repeat' (first | refine i_len rfl ?_ | refine i_s rfl ?_ | refine sw ?_ | refine c_cond rfl (fun h => ?_) (fun h => ?_))
    all_goals first
      | exact e_ret ⟨rfl, _, rfl, rfl⟩
      | (exfalso; simp at *; done)
      | (exfalso; simp at *; omega)
def c_R1_SameLiterals : Cmd :=
 (qS [qb 4 false]
 (qT (qS [qm 6 0, qn 7 6, qm 8 1, qn 9 8, qu 10 .neq [.i] 7 9]
 (.cond (.t 10) (.seq (.ops [qb 4 false]) .ret) .skip))
 (qT (qS [qc 5 0]
 (.block 0 (.loop (qT (qS [qm 11 5, qm 12 0, qn 13 12, qu 14 .lss [] 11 13]
 (.cond (.t 14) .skip (.exit 0)))
 (qT (.block 1 (qS [qm 17 0, qm 18 5, qi 19 3 17 18, qf 20 0 19, ql 21 1 20, qm 22 1, qm 23 5, qi 24 3 22 23, qf 25 0 24, ql 26 1 25, qu 27 .neq [.b] 21 26, qm 28 27, qg 29 28 false (.mov (.t 0)), qg 30 28 false (.mov (.t 5)), qg 31 28 false (.iaddr 3 (.t 29) (.t 30)), qg 32 28 false (.faddr 1 (.t 31)), qg 33 28 false (.load true 2 (.t 32)), qg 34 28 false (.mov (.t 1)), qg 35 28 false (.mov (.t 5)), qg 36 28 false (.iaddr 3 (.t 34) (.t 35)), qg 37 28 false (.faddr 1 (.t 36)), qg 38 28 false (.load true 2 (.t 37)), qg 39 28 false (.call .f (.c (.fn 88 [])) [.t 33, .t 38]), qg 40 28 false (.not (.t 39)), qq 41 (.pick (.t 28) (.c (.bool true)) (.t 40))]
 (.cond (.t 41) (.seq (.ops [qb 4 false]) .ret) .skip)))
 (.ops [qm 15 5, qv 16 .add [] 15 1, qm 5 16]))))))
 (.seq (.ops [qb 4 true]) .ret))))
def r_R1_SameLiterals : List RVar := [.tmp 4]
def n_R1_SameLiterals : Nat := 42
theorem k_R1_SameLiterals : chkFn Go.Proofs.Tryz.prog 62 n_R1_SameLiterals r_R1_SameLiterals c_R1_SameLiterals = true := by kernel_rfl
theorem f_R1_SameLiteralsR (a : List Lit) (hl : a.length ≤ 4398046511104) (ha : ∀ x ∈ a, AtOk x.at_) : Fc Go.Proofs.Tryz.prog 62 [.sl .p (a.map litV), .sl .p (a.map litV)] (.bool true) := by
  refine Fn.step mixed k_R1_SameLiterals ?_
  repeat' (first | refine i_len rfl ?_ | refine i_s rfl ?_ | refine sw ?_ | refine c_cond rfl (fun h => ?_) (fun h => ?_))
  all_goals first
    | (exfalso; simp at *; done)
    | skip
  refine c_for a.length (fun i => [(0, .sl .p (a.map litV)), (1, .sl .p (a.map litV)), (5, .int .i64 i)]) (fun _ => []) (fun _ => True) trivial ft fun i hi _ => ?_
  by_cases hlt : i < a.length
  · obtain ⟨x, hx⟩ := get_some hlt
    have hS := f_R1_SameAtom x.at_ x.at_ (ha x (mem_get hx)) (ha x (mem_get hx))
    rw [decide_eq_true rfl] at hS
    repeat' (first | refine i_len rfl ?_ | refine i_s rfl ?_ | refine sw ?_ | refine i_gt rfl ?_ | refine i_gf rfl ?_ | refine c_t rfl ?_ | refine c_f rfl ?_ | refine ja rfl rfl ?_ | refine jd rfl rfl ?_ | (refine sp ?_ ?_ <;> try intro h) | refine sf rfl rfl hS ?_ | fail)
    all_goals first
      | (exact e_for hlt trivial ft)
      | (exfalso; clear hS; simp at *; done)
      | (exfalso; clear hS; simp at *; omega)
  · repeat' (first | refine i_len rfl ?_ | refine i_s rfl ?_ | refine sw ?_ | refine c_cond rfl (fun h => ?_) (fun h => ?_))
    all_goals first
      | exact e_ret ⟨rfl, _, rfl, rfl⟩
      | (exfalso; simp at *; done)
      | (exfalso; simp at *; omega)
def c_R1_sameSchema : Cmd :=
 (qS [qx 2 3840135 7 0, qx 3 3840199 7 1, qb 4 false]
 (qT (qS [qf 6 0 2, ql 7 1 6, qf 8 0 3, ql 9 1 8, qu 10 .neq [.s] 7 9, qm 11 10, qg 12 11 false (.faddr 6 (.t 2)), qg 13 11 false (.load false 1 (.t 12)), qg 14 11 false (.faddr 6 (.t 3)), qg 15 11 false (.load false 1 (.t 14)), qg 16 11 false (.bin .neq false [.i] (.t 13) (.t 15)), qq 17 (.pick (.t 11) (.c (.bool true)) (.t 16)), qm 18 17, qg 19 18 false (.faddr 1 (.t 2)), qg 20 18 false (.load false 1 (.t 19)), qg 21 18 false (.faddr 1 (.t 3)), qg 22 18 false (.load false 1 (.t 21)), qg 23 18 false (.call .f (.c (.fn 59 [])) [.t 20, .t 22]), qg 24 18 false (.not (.t 23)), qq 25 (.pick (.t 18) (.c (.bool true)) (.t 24)), qm 26 25, qg 27 26 false (.faddr 2 (.t 2)), qg 28 26 false (.load false 1 (.t 27)), qg 29 26 false (.len false (.t 28)), qg 30 26 false (.faddr 2 (.t 3)), qg 31 26 false (.load false 1 (.t 30)), qg 32 26 false (.len false (.t 31)), qg 33 26 false (.bin .neq false [.i] (.t 29) (.t 32)), qq 34 (.pick (.t 26) (.c (.bool true)) (.t 33))]
 (.cond (.t 34) (.seq (.ops [qb 4 false]) .ret) .skip))
 (qT (qS [qc 5 0]
 (.block 0 (.loop (qT (qS [qm 35 5, qf 36 2 2, ql 37 1 36, qn 38 37, qu 39 .lss [] 35 38]
 (.cond (.t 39) .skip (.exit 0)))
 (qT (.block 1 (qS [qf 42 2 2, ql 43 1 42, qm 44 5, qi 45 2 43 44, qL 46 2 45, qf 47 2 3, ql 48 1 47, qm 49 5, qi 50 2 48 49, qL 51 2 50, qq 52 (.bin .neq true [.i, .i] (.t 46) (.t 51))]
 (.cond (.t 52) (.seq (.ops [qb 4 false]) .ret) .skip)))
 (.ops [qm 40 5, qv 41 .add [] 40 1, qm 5 41]))))))
 (.seq (.ops [qf 53 3 2, ql 54 1 53, qf 55 3 3, ql 56 1 55, qk 57 62 [54, 56], qm 58 57, qg 59 58 true (.faddr 4 (.t 2)), qg 60 58 true (.load false 1 (.t 59)), qg 61 58 true (.faddr 4 (.t 3)), qg 62 58 true (.load false 1 (.t 61)), qg 63 58 true (.call .f (.c (.fn 61 [])) [.t 60, .t 62]), qq 64 (.pick (.t 58) (.t 63) (.c (.bool false))), qm 65 64, qg 66 65 true (.faddr 5 (.t 2)), qg 67 65 true (.load false 1 (.t 66)), qg 68 65 true (.faddr 5 (.t 3)), qg 69 65 true (.load false 1 (.t 68)), qg 70 65 true (.call .f (.c (.fn 61 [])) [.t 67, .t 69]), qq 71 (.pick (.t 65) (.t 70) (.c (.bool false))), qm 4 71]) .ret))))
def r_R1_sameSchema : List RVar := [.tmp 4]
def n_R1_sameSchema : Nat := 72
theorem k_R1_sameSchema : chkFn Go.Proofs.Tryz.prog 60 n_R1_sameSchema r_R1_sameSchema c_R1_sameSchema = true := by kernel_rfl
theorem f_R1_sameSchemaR (s : Sch) (hs : SchOk s) : Fc Go.Proofs.Tryz.prog 60 [schV s, schV s] (.bool true) := by
  have hI := f_R1_Ints s.types s.types (by have := hs.types; omega)
  rw [decide_eq_true rfl] at hI
  have hP := f_R1_SameLiteralsR s.pre (by have := hs.pre; omega) hs.preA
  have hA := f_R1_SameAtomsR s.add hs.add hs.addA
  have hD := f_R1_SameAtomsR s.del hs.del hs.delA
  have hdl := hs.diff
  refine Fn.step mixed k_R1_sameSchema ?_
  repeat' (first | refine i_len rfl ?_ | refine i_s rfl ?_ | refine sw ?_ | refine i_gt rfl ?_ | refine i_gf rfl ?_ | refine c_t rfl ?_ | refine i_box rfl rfl ?_ | (refine sp ?_ ?_ <;> try intro h) | refine sf rfl rfl hI ?_ | fail)
  all_goals first
    | (exfalso; clear hI hP hA hD; simp at *; done)
    | skip
  refine c_for s.diff.length (fun k => [(2, .bptr 3840135 0), (3, .bptr 3840199 0), (5, .int .i64 k)]) (fun _ => [(3840135, .box (schV s)), (3840199, .box (schV s))]) (fun _ => True) trivial ft fun k hk _ => ?_
  by_cases hlt : k < s.diff.length
  · obtain ⟨x, hx⟩ := get_some hlt
    clear hI hP hA hD
    repeat' (first | refine i_len rfl ?_ | refine i_s rfl ?_ | refine sw ?_ | refine ja rfl rfl ?_ | refine jd rfl rfl ?_ | refine c_cond rfl (fun h => ?_) (fun h => ?_))
    all_goals first
      | (exact e_for hlt trivial ft)
      | (exfalso; simp at *; done)
      | (exfalso; simp at *; omega)
  · clear hI
    repeat' (first | refine i_len rfl ?_ | refine i_s rfl ?_ | refine sw ?_ | refine i_gt rfl ?_ | refine c_cond rfl (fun h => ?_) (fun h => ?_) | refine sf rfl rfl hP ?_ | refine sf rfl rfl hA ?_ | refine sf rfl rfl hD ?_ | fail)
    all_goals first
      | exact e_ret ⟨rfl, _, rfl, rfl⟩
      | (exfalso; clear hP hA hD; simp at *; done)
      | (exfalso; clear hP hA hD; simp at *; omega)
def c_R1_SameDomain : Cmd :=
 (qS [qx 2 896134 6 0, qx 3 896198 6 1, qb 4 false]
 (qT (qS [qf 9 0 2, ql 10 1 9, qn 11 10, qf 12 0 3, ql 13 1 12, qn 14 13, qu 15 .neq [.i] 11 14, qm 16 15, qg 17 16 false (.faddr 1 (.t 2)), qg 18 16 false (.load false 1 (.t 17)), qg 19 16 false (.len false (.t 18)), qg 20 16 false (.faddr 1 (.t 3)), qg 21 16 false (.load false 1 (.t 20)), qg 22 16 false (.len false (.t 21)), qg 23 16 false (.bin .neq false [.i] (.t 19) (.t 22)), qq 24 (.pick (.t 16) (.c (.bool true)) (.t 23)), qm 25 24, qg 26 25 false (.faddr 2 (.t 2)), qg 27 25 false (.load false 1 (.t 26)), qg 28 25 false (.len false (.t 27)), qg 29 25 false (.faddr 2 (.t 3)), qg 30 25 false (.load false 1 (.t 29)), qg 31 25 false (.len false (.t 30)), qg 32 25 false (.bin .neq false [.i] (.t 28) (.t 31)), qq 33 (.pick (.t 25) (.c (.bool true)) (.t 32)), qm 34 33, qg 35 34 false (.faddr 3 (.t 2)), qg 36 34 false (.load false 1 (.t 35)), qg 37 34 false (.len false (.t 36)), qg 38 34 false (.faddr 3 (.t 3)), qg 39 34 false (.load false 1 (.t 38)), qg 40 34 false (.len false (.t 39)), qg 41 34 false (.bin .neq false [.i] (.t 37) (.t 40)), qq 42 (.pick (.t 34) (.c (.bool true)) (.t 41))]
 (.cond (.t 42) (.seq (.ops [qb 4 false]) .ret) .skip))
 (qT (qS [qc 5 0]
 (.block 0 (.loop (qT (qS [qm 43 5, qf 44 0 2, ql 45 1 44, qn 46 45, qu 47 .lss [] 43 46]
 (.cond (.t 47) .skip (.exit 0)))
 (qT (.block 1 (qS [qf 50 0 2, ql 51 1 50, qm 52 5, qi 53 2 51 52, qL 54 2 53, qf 55 0 3, ql 56 1 55, qm 57 5, qi 58 2 56 57, qL 59 2 58, qq 60 (.bin .neq true [.s, .i] (.t 54) (.t 59))]
 (.cond (.t 60) (.seq (.ops [qb 4 false]) .ret) .skip)))
 (.ops [qm 48 5, qv 49 .add [] 48 1, qm 5 49]))))))
 (qT (qS [qc 6 0]
 (.block 2 (.loop (qT (qS [qm 61 6, qf 62 1 2, ql 63 1 62, qn 64 63, qu 65 .lss [] 61 64]
 (.cond (.t 65) .skip (.exit 2)))
 (qT (.block 3 (qS [qf 68 1 2, ql 69 1 68, qm 70 6, qi 71 2 69 70, qL 72 2 71, qf 73 1 3, ql 74 1 73, qm 75 6, qi 76 2 74 75, qL 77 2 76, qq 78 (.bin .neq true [.s, .i] (.t 72) (.t 77))]
 (.cond (.t 78) (.seq (.ops [qb 4 false]) .ret) .skip)))
 (.ops [qm 66 6, qv 67 .add [] 66 1, qm 6 67]))))))
 (qT (qS [qc 7 0]
 (.block 4 (.loop (qT (qS [qm 79 7, qf 80 2 2, ql 81 1 80, qn 82 81, qu 83 .lss [] 79 82]
 (.cond (.t 83) .skip (.exit 4)))
 (qT (.block 5 (qS [qf 86 2 2, ql 87 1 86, qm 88 7, qi 89 2 87 88, qf 90 0 89, ql 91 1 90, qf 92 2 3, ql 93 1 92, qm 94 7, qi 95 2 93 94, qf 96 0 95, ql 97 1 96, qu 98 .neq [.s] 91 97, qm 99 98, qg 100 99 false (.faddr 2 (.t 2)), qg 101 99 false (.load false 1 (.t 100)), qg 102 99 false (.mov (.t 7)), qg 103 99 false (.iaddr 2 (.t 101) (.t 102)), qg 104 99 false (.faddr 1 (.t 103)), qg 105 99 false (.load false 1 (.t 104)), qg 106 99 false (.faddr 2 (.t 3)), qg 107 99 false (.load false 1 (.t 106)), qg 108 99 false (.mov (.t 7)), qg 109 99 false (.iaddr 2 (.t 107) (.t 108)), qg 110 99 false (.faddr 1 (.t 109)), qg 111 99 false (.load false 1 (.t 110)), qg 112 99 false (.call .f (.c (.fn 59 [])) [.t 105, .t 111]), qg 113 99 false (.not (.t 112)), qq 114 (.pick (.t 99) (.c (.bool true)) (.t 113))]
 (.cond (.t 114) (.seq (.ops [qb 4 false]) .ret) .skip)))
 (.ops [qm 84 7, qv 85 .add [] 84 1, qm 7 85]))))))
 (qT (qS [qc 8 0]
 (.block 6 (.loop (qT (qS [qm 115 8, qf 116 3 2, ql 117 1 116, qn 118 117, qu 119 .lss [] 115 118]
 (.cond (.t 119) .skip (.exit 6)))
 (qT (.block 7 (qS [qf 122 3 2, ql 123 1 122, qm 124 8, qi 125 7 123 124, qL 126 7 125, qf 127 3 3, ql 128 1 127, qm 129 8, qi 130 7 128 129, qL 131 7 130, qk 132 60 [126, 131], qq 133 (.not (.t 132))]
 (.cond (.t 133) (.seq (.ops [qb 4 false]) .ret) .skip)))
 (.ops [qm 120 8, qv 121 .add [] 120 1, qm 8 121]))))))
 (.seq (.ops [qf 134 4 2, ql 135 1 134, qf 136 4 3, ql 137 1 136, qk 138 61 [135, 137], qm 139 138, qg 140 139 true (.faddr 5 (.t 2)), qg 141 139 true (.load false 1 (.t 140)), qg 142 139 true (.faddr 5 (.t 3)), qg 143 139 true (.load false 1 (.t 142)), qg 144 139 true (.call .f (.c (.fn 62 [])) [.t 141, .t 143]), qq 145 (.pick (.t 139) (.t 144) (.c (.bool false))), qm 4 145]) .ret)))))))
def r_R1_SameDomain : List RVar := [.tmp 4]
def n_R1_SameDomain : Nat := 146
theorem k_R1_SameDomain : chkFn Go.Proofs.Tryz.prog 14 n_R1_SameDomain r_R1_SameDomain c_R1_SameDomain = true := by kernel_rfl
theorem f_R1_SameDomainR (d : Dom) (hd : DoOk d) : Fc Go.Proofs.Tryz.prog 14 [domV d, domV d] (.bool true) := by
  have hA := f_R1_SameAtomsR d.init hd.init.1 hd.init.2
  have hL := f_R1_SameLiteralsR d.goal (by have := hd.goal.1; omega) hd.goal.2
  have l0 := hd.types.1
  have l1 := hd.objects.1
  have l2 := hd.preds.1
  have l3 := hd.schemas.1
  refine Fn.step mixed k_R1_SameDomain ?_
  repeat' (first | refine i_len rfl ?_ | refine i_s rfl ?_ | refine sw ?_ | refine i_gt rfl ?_ | refine i_gf rfl ?_ | refine c_t rfl ?_ | refine i_box rfl rfl ?_ | (refine sp ?_ ?_ <;> try intro h) | fail)
  all_goals first
    | (exfalso; clear hA hL; simp at *; done)
    | skip
  refine c_for d.types.length (fun k => [(2, .bptr 896134 0), (3, .bptr 896198 0), (5, .int .i64 k)]) (fun _ => [(896134, .box (domV d)), (896198, .box (domV d))]) (fun _ => True) trivial ft fun k hk _ => ?_
  by_cases hlt : k < d.types.length
  · obtain ⟨x, hx⟩ := get_some hlt
    clear hA hL
    repeat' (first | refine i_len rfl ?_ | refine i_s rfl ?_ | refine sw ?_ | refine ja rfl rfl ?_ | refine jd rfl rfl ?_ | refine c_cond rfl (fun h => ?_) (fun h => ?_))
    all_goals first
      | (exact e_for hlt trivial ft)
      | (exfalso; simp at *; done)
      | (exfalso; simp at *; omega)
  repeat' (first | refine i_len rfl ?_ | refine i_s rfl ?_ | refine sw ?_ | refine c_cond rfl (fun h => ?_) (fun h => ?_))
  all_goals first
    | (exfalso; clear hA hL; simp at *; done)
    | (exfalso; clear hA hL; simp at *; omega)
    | skip
  refine c_for d.objects.length (fun k => [(2, .bptr 896134 0), (3, .bptr 896198 0), (6, .int .i64 k)]) (fun _ => [(896134, .box (domV d)), (896198, .box (domV d))]) (fun _ => True) trivial ft fun k hk _ => ?_
  by_cases hlt : k < d.objects.length
  · obtain ⟨x, hx⟩ := get_some hlt
    clear hA hL
    repeat' (first | refine i_len rfl ?_ | refine i_s rfl ?_ | refine sw ?_ | refine ja rfl rfl ?_ | refine jd rfl rfl ?_ | refine c_cond rfl (fun h => ?_) (fun h => ?_))
    all_goals first
      | (exact e_for hlt trivial ft)
      | (exfalso; simp at *; done)
      | (exfalso; simp at *; omega)
  repeat' (first | refine i_len rfl ?_ | refine i_s rfl ?_ | refine sw ?_ | refine c_cond rfl (fun h => ?_) (fun h => ?_))
  all_goals first
    | (exfalso; clear hA hL; simp at *; done)
    | (exfalso; clear hA hL; simp at *; omega)
    | skip
  refine c_for d.preds.length (fun k => [(2, .bptr 896134 0), (3, .bptr 896198 0), (7, .int .i64 k)]) (fun _ => [(896134, .box (domV d)), (896198, .box (domV d))]) (fun _ => True) trivial ft fun k hk _ => ?_
  by_cases hlt : k < d.preds.length
  · obtain ⟨x, hx⟩ := get_some hlt
    clear hA hL
    have hI := f_R1_Ints x.types x.types (by have := (hd.preds.2 x (mem_get hx)).2; omega)
    rw [decide_eq_true rfl] at hI
    repeat' (first | refine i_len rfl ?_ | refine i_s rfl ?_ | refine sw ?_ | refine i_gt rfl ?_ | refine i_gf rfl ?_ | refine c_t rfl ?_ | refine c_f rfl ?_ | refine ja rfl rfl ?_ | refine jd rfl rfl ?_ | (refine sp ?_ ?_ <;> try intro h) | refine sf rfl rfl hI ?_ | fail)
    all_goals first
      | (exact e_for hlt trivial ft)
      | (exfalso; clear hI; simp at *; done)
      | (exfalso; clear hI; simp at *; omega)
  repeat' (first | refine i_len rfl ?_ | refine i_s rfl ?_ | refine sw ?_ | refine c_cond rfl (fun h => ?_) (fun h => ?_))
  all_goals first
    | (exfalso; clear hA hL; simp at *; done)
    | (exfalso; clear hA hL; simp at *; omega)
    | skip
  refine c_for d.schemas.length (fun k => [(2, .bptr 896134 0), (3, .bptr 896198 0), (8, .int .i64 k)]) (fun _ => [(896134, .box (domV d)), (896198, .box (domV d))]) (fun _ => True) trivial ft fun k hk _ => ?_
  by_cases hlt : k < d.schemas.length
  · obtain ⟨x, hx⟩ := get_some hlt
    clear hA hL
    have hI := f_R1_sameSchemaR x (hd.schemas.2 x (mem_get hx))
    repeat' (first | refine i_len rfl ?_ | refine i_s rfl ?_ | refine sw ?_ | refine c_f rfl ?_ | refine ja rfl rfl ?_ | refine jd rfl rfl ?_ | refine c_cond rfl (fun h => ?_) (fun h => ?_) | refine sf rfl rfl hI ?_ | fail)
    all_goals first
      | (exact e_for hlt trivial ft)
      | (exfalso; clear hI; simp at *; done)
      | (exfalso; clear hI; simp at *; omega)
  · repeat' (first | refine i_len rfl ?_ | refine i_s rfl ?_ | refine sw ?_ | refine i_gt rfl ?_ | refine c_cond rfl (fun h => ?_) (fun h => ?_) | refine sf rfl rfl hA ?_ | refine sf rfl rfl hL ?_ | fail)
    all_goals first
      | exact e_ret ⟨rfl, _, rfl, rfl⟩
      | (exfalso; clear hA hL; simp at *; done)
      | (exfalso; clear hA hL; simp at *; omega)
end Hm
end
section
namespace Hm
open Go
mutual
def dv {H : Type} : DataW H → V
  | .lit (.bool b) => .bool b
  | .lit (.int k n) => .int k n
  | .lit (.string l) => .str l
  | .slice elems _ => .sl .p (dvL elems)
  | .agg parts => .agg (dvC parts)
  | .nil => .sl .p []
  | _ => .any
def dvL {H : Type} : List (DataW H) → List V
  | [] => []
  | d :: r => dv d :: dvL r
def dvC {H : Type} : List (DataW H) → List V
  | [] => []
  | d :: r => (dv d).cells ++ dvC r
end
theorem dvL_map {H : Type} : ∀ l : List (DataW H), dvL l = l.map dv
  | [] => rfl
  | d :: r => by simp only [dvL, List.map_cons, dvL_map r]
def lay (P : Program) : List Field → Nat → Option Nat
  | [], o => some o
  | f :: r, o => bif Nat.beq f.offset o then lay P r (o + P.cellsOf f.type) else none
def pl (P : Program) : Nat → TypeId → Bool
  | 0, _ => false
  | n + 1, t => match P.underlying t with
    | some .bool => true
    | some (.int _) => true
    | some .string => true
    | some (.slice e) => Nat.blt 0 (P.cellsOf e) && pl P n e
    | some (.struct fs) => (match lay P fs.toList 0 with
      | some m => Nat.beq m (P.cellsOf t)
      | none => false) && fs.toList.all fun f => pl P n f.type
    | some (.array len e) => Nat.beq (len * P.cellsOf e) (P.cellsOf t) && pl P n e
    | _ => false
def arrF (e : TypeId) (c i : Nat) : Field := { name := "", type := e, offset := i * c, embedded := false, tag := "", pkgPath := "", byteOffset := 0 }
theorem lay_arr {P : Program} {e : TypeId} : ∀ (len k : Nat), lay P ((List.range' k len).map (arrF e (P.cellsOf e))) (k * P.cellsOf e) = some ((k + len) * P.cellsOf e)
  | 0, k => rfl
  | len + 1, k => by
    simp only [List.range'_succ, List.map_cons, lay, arrF, Nat.beq_refl, cond_true]
    have := lay_arr (P := P) (e := e) len (k + 1)
    rw [Nat.succ_mul] at this
    rw [show k + (len + 1) = k + 1 + len from by omega]
    exact this
section
variable {H : Type} {enc : TypeId × Value → H} {P : Program} {w : World} {sp : Nat → Bool}
theorem fields_rep {S : Nat → Prop} {cs : List Value} : ∀ (fl : List Field) (ys : List (DataW H × List MemPlace)) (o m : Nat), lay P fl o = some m → m ≤ cs.length → ys.length = fl.length →
    (∀ (i : Nat) (f : Field) (y : DataW H × List MemPlace), fl[i]? = some f → ys[i]? = some y → ((cs.drop f.offset).take (P.cellsOf f.type)).length = (dv y.1).cells.length ∧
      ∀ (j : Nat) (v : V) (x : Value), (dv y.1).cells[j]? = some v → ((cs.drop f.offset).take (P.cellsOf f.type))[j]? = some x → RepP w S v x) →
    o ≤ m ∧ (dvC (ys.map (·.1))).length = m - o ∧ ∀ (j : Nat) (v : V) (x : Value), (dvC (ys.map (·.1)))[j]? = some v → cs[o + j]? = some x → RepP w S v x
  | [], [], o, m, hl, _, _, _ => by
    simp only [lay, Option.some.injEq] at hl
    subst hl
    exact ⟨Nat.le_refl _, by simp [dvC], fun j v x h => by simp [dvC] at h⟩
  | f :: fl, y :: ys, o, m, hl, hm, hlen, h => by
    simp only [lay] at hl
    cases hb : Nat.beq f.offset o with
    | false => rw [hb] at hl; cases hl
    | true =>
      rw [hb] at hl
      have ho := Nat.eq_of_beq_eq_true hb
      obtain ⟨h1, h2, h3⟩ := fields_rep fl ys (o + P.cellsOf f.type) m hl hm (by simpa using hlen) (fun i f y hf hy => h (i + 1) f y (by simpa using hf) (by simpa using hy))
      obtain ⟨k1, k2⟩ := h 0 f y rfl rfl
      rw [ho] at k1 k2
      have hk : (dv y.1).cells.length = P.cellsOf f.type := by
        rw [← k1, List.length_take, List.length_drop]; omega
      refine ⟨by omega, by simp only [List.map_cons, dvC, List.length_append, h2, hk]; omega, fun j v x hv hx => ?_⟩
      simp only [List.map_cons, dvC] at hv
      by_cases hj : j < P.cellsOf f.type
      · rw [List.getElem?_append_left (by omega)] at hv
        refine k2 j v x hv ?_
        rw [List.getElem?_take, if_pos hj, List.getElem?_drop]
        exact hx
      · rw [List.getElem?_append_right (by omega), hk] at hv
        exact h3 _ v x hv (by rw [show o + P.cellsOf f.type + (j - P.cellsOf f.type) = o + j from by omega]; exact hx)
  | [], _ :: _, _, _, _, _, hlen, _ => by simp at hlen
  | _ :: _, [], _, _, _, _, hlen, _ => by simp at hlen
theorem cells_get {w : World} {a : Addr} {n : Nat} {cs : List Value} (h : w.cells? 0 a n = some cs) : cs.length = n ∧ ∀ i, i < n → w.cell? (a.add i) = cs[i]? := by
  unfold World.cells? at h
  rw [if_pos (Nat.zero_le _)] at h
  exact ⟨by simpa using mapM_some_length h, fun i hi => mapM_some_get h i i (by simp [hi])⟩
theorem cell_lt {w : World} {a : Addr} {v : Value} (h : w.cell? a = some v) : a.block < w.heap.size ∧ a.spot = none := by
  unfold World.cell? at h
  split at h
  · rename_i c t fr hc
    refine ⟨(Array.getElem?_eq_some_iff.1 hc).1, ?_⟩
    cases hs : a.spot with
    | none => rfl
    | some _ => rw [hs] at h; simp at h
  · cases h
theorem trod_rep : ∀ (n : Nat) (t : TypeId) (fuel : Nat) (cs : List Value) (x : DataW H × List MemPlace), pl P n t = true → DataW.trod enc P w 0 sp true fuel t cs = some x →
    cs.length = (dv x.1).cells.length ∧ ∀ (i : Nat) (v : V) (y : Value), (dv x.1).cells[i]? = some v → cs[i]? = some y → RepP w (fun b => b < w.heap.size) v y
  | 0, t, fuel, cs, x, hp, _ => by cases hp
  | n + 1, t, fuel, cs, x, hp, h => by
    unfold pl at hp
    split at hp
    · rename_i ht
      obtain ⟨b, rfl, rfl⟩ := DataW.trod_bool ht h
      refine ⟨rfl, fun i v y hv hy => ?_⟩
      cases i with
      | zero => simp [dv, V.cells] at hv hy; subst hv hy; exact .bool b
      | succ i => simp at hy
    · rename_i k ht
      obtain ⟨m, rfl, rfl, _⟩ := DataW.trod_int ht h
      refine ⟨rfl, fun i v y hv hy => ?_⟩
      cases i with
      | zero => simp [dv, V.cells] at hv hy; subst hv hy; exact .int k m
      | succ i => simp at hy
    · rename_i ht
      obtain ⟨s, rfl, rfl, _⟩ := DataW.trod_string ht h
      refine ⟨rfl, fun i v y hv hy => ?_⟩
      cases i with
      | zero =>
        simp [dv, V.cells] at hv hy
        subst hv hy
        have := RepP.str (w := w) (S := fun b => b < w.heap.size) s.data.toList
        simpa using this
      | succ i => simp at hy
    · rename_i e ht
      simp only [Bool.and_eq_true] at hp
      obtain ⟨hc0, hpe⟩ := hp
      have hc : 0 < P.cellsOf e := by simpa [Nat.blt_eq] using hc0
      rcases Go.Deep.open_slice ht h with ⟨rfl, rfl⟩ | ⟨a, len, cap, m, q, D, Pl, rfl, _, hlc, _, hm, rfl, hcell⟩
      · refine ⟨rfl, fun i v y hv hy => ?_⟩
        cases i with
        | zero => simp [dv, V.cells] at hv hy; subst hv hy; exact .emp none 0
        | succ i => simp at hy
      · refine ⟨rfl, fun i v y hv hy => ?_⟩
        cases i with
        | succ i => simp at hy
        | zero =>
          simp only [dv, V.cells, List.getElem?_cons_zero, Option.some.injEq] at hv hy
          subst hv hy
          rw [dvL_map, List.map_map]
          cases len with
          | zero => exact .emp (some a) cap
          | succ len =>
            have hle : len + 1 ≤ m := by rw [hm]; split <;> omega
            have key : ∀ i, i < len + 1 → (∃ cs' : List Value, (∀ j, j < P.cellsOf e → w.cell? ((a.add (i * P.cellsOf e)).add j) = cs'[j]?) ∧ cs'.length = P.cellsOf e ∧ cs'.length = (dv (D i)).cells.length ∧
                ∀ (j : Nat) (v : V) (y : Value), (dv (D i)).cells[j]? = some v → cs'[j]? = some y → RepP w (fun b => b < w.heap.size) v y) := by
              intro i hi
              obtain ⟨cs', h1, h2⟩ := hcell i (by omega)
              obtain ⟨h3, h4⟩ := cells_get h1
              obtain ⟨h5, h6⟩ := trod_rep n e q cs' _ hpe h2
              exact ⟨cs', h4, h3, h5, h6⟩
            obtain ⟨cs0, k1, k2, _, _⟩ := key 0 (by omega)
            have k3 := k1 0 hc
            rw [List.getElem?_eq_getElem (by omega)] at k3
            obtain ⟨hblt, hspot⟩ := cell_lt k3
            simp only [Nat.zero_mul, Addr.add_zero'] at hblt hspot
            have hb : a.block < w.heap.size := hblt
            have hs : a.spot = none := hspot
            obtain ⟨b, off, spot⟩ := a
            simp only at hb hs
            subst hs
            have e1 : len + 1 = ((List.range (len + 1)).map (dv ∘ D)).length := by simp
            have goal : RepP w (fun b => b < w.heap.size) (.sl .p ((List.range (len + 1)).map (dv ∘ D))) (.slice (some ⟨b, off, none⟩) ((List.range (len + 1)).map (dv ∘ D)).length cap) := by
              refine .sl _ b off cap (P.cellsOf e) (fun i j => (w.cell? ⟨b, off + i * P.cellsOf e + j, none⟩).getD default) hb (by omega) (fun row hrow => ?_) (fun i j row v hr hv => ?_) (fun i j row v hr hv => ?_)
              · obtain ⟨i, hi, rfl⟩ := List.mem_map.1 hrow
                obtain ⟨cs', _, g1, g2, _⟩ := key i (List.mem_range.1 hi)
                show (dv (D i)).cells.length = _
                omega
              · rw [List.getElem?_map] at hr
                have hi : i < len + 1 := by
                  have := (List.getElem?_eq_some_iff.1 (Option.map_eq_some_iff.1 hr).choose_spec.1).1
                  simpa using this
                rw [List.getElem?_range hi] at hr
                simp only [Option.map_some, Option.some.injEq, Function.comp] at hr
                subst hr
                obtain ⟨cs', g0, g1, g2, g3⟩ := key i hi
                have hj := (List.getElem?_eq_some_iff.1 hv).1
                have := g0 j (by omega)
                simp only [Addr.add_lit] at this
                rw [this, List.getElem?_eq_getElem (by omega)]
                rfl
              · rw [List.getElem?_map] at hr
                have hi : i < len + 1 := by
                  have := (List.getElem?_eq_some_iff.1 (Option.map_eq_some_iff.1 hr).choose_spec.1).1
                  simpa using this
                rw [List.getElem?_range hi] at hr
                simp only [Option.map_some, Option.some.injEq, Function.comp] at hr
                subst hr
                obtain ⟨cs', g0, g1, g2, g3⟩ := key i hi
                have hj := (List.getElem?_eq_some_iff.1 hv).1
                have := g0 j (by omega)
                simp only [Addr.add_lit] at this
                rw [this, List.getElem?_eq_getElem (by omega)]
                exact g3 j v _ hv (by rw [List.getElem?_eq_getElem (by omega)]; rfl)
            rw [← e1] at goal
            exact goal
    · rename_i fs ht
      simp only [Bool.and_eq_true, List.all_eq_true] at hp
      obtain ⟨hlay, hall⟩ := hp
      split at hlay
      · rename_i m hm
        have hme := Nat.eq_of_beq_eq_true hlay
        obtain ⟨xs, q, _, rfl, hlen, hxl, hseg⟩ := DataW.trod_struct ht h
        obtain ⟨_, g1, g2⟩ := fields_rep (P := P) (w := w) (S := fun b => b < w.heap.size) (cs := cs) fs.toList xs 0 m hm (by omega) (by simpa using hxl) (fun i f y hf hy => by
          have hf' : fs[i]? = some f := by simpa using hf
          have := hseg i f hf'
          rw [hy] at this
          exact trod_rep n f.type q _ y (hall f (List.mem_of_getElem? hf)) this)
        refine ⟨by simp only [dv, V.cells, g1]; omega, fun i v y hv hy => g2 i v y (by simpa [dv, V.cells] using hv) (by simpa using hy)⟩
      · cases hlay
    · rename_i len e ht
      simp only [Bool.and_eq_true] at hp
      obtain ⟨hlay, hpe⟩ := hp
      have hme := Nat.eq_of_beq_eq_true hlay
      obtain ⟨xs, q, _, rfl, hlen, hxl, hseg⟩ := DataW.trod_array ht h
      have hla := lay_arr (P := P) (e := e) len 0
      rw [Nat.zero_mul, Nat.zero_add] at hla
      obtain ⟨_, g1, g2⟩ := fields_rep (P := P) (w := w) (S := fun b => b < w.heap.size) (cs := cs) _ xs 0 _ hla (by omega) (by simpa using hxl) (fun i f y hf hy => by
        have hi : i < len := by have := (List.getElem?_eq_some_iff.1 hy).1; omega
        rw [List.getElem?_map, List.getElem?_range' hi] at hf
        simp only [Option.map_some, Option.some.injEq, Nat.zero_add, Nat.one_mul] at hf
        subst hf
        have := hseg i hi
        rw [hy] at this
        exact trod_rep n e q _ y hpe this)
      refine ⟨by simp only [dv, V.cells, g1]; omega, fun i v y hv hy => g2 i v y (by simpa [dv, V.cells] using hv) (by simpa using hy)⟩
    · cases hp
theorem arg_rep {n base : Nat} {t : TypeId} {v : Value} {d : DataW H} {ps : List MemPlace} (hp : pl P n t = true) (hok : Value.okWide P w .any base t v) (h : DataW.Trod enc P w 0 sp true t v d ps) : RepP w (fun b => b < w.heap.size) (dv d) v := by
  obtain ⟨fuel, h⟩ := h
  obtain ⟨h1, h2⟩ := trod_rep n t fuel _ _ hp h
  cases n with
  | zero => cases hp
  | succ n =>
    unfold pl at hp
    split at hp
    · rename_i ht
      obtain ⟨b, e, e2⟩ := DataW.trod_bool ht h
      injection e2 with e2 _
      subst e2
      cases v <;> simp [Value.okWide, ht, Cell.okWide, Cell.ok] at hok
      simp [Value.cells] at e
      subst e
      exact .bool _
    · rename_i k ht
      obtain ⟨m, e, e2, _⟩ := DataW.trod_int ht h
      injection e2 with e2 _
      subst e2
      cases v <;> simp [Value.okWide, ht, Cell.okWide, Cell.ok] at hok
      simp [Value.cells] at e
      obtain ⟨rfl, rfl⟩ := e
      exact .int _ _
    · rename_i ht
      obtain ⟨s, e, e2, _⟩ := DataW.trod_string ht h
      injection e2 with e2 _
      subst e2
      cases v <;> simp [Value.okWide, ht, Cell.okWide, Cell.ok] at hok
      simp [Value.cells] at e
      subst e
      exact h2 0 _ _ rfl rfl
    · rename_i e ht
      have hv : v.cells = #[v] := by
        cases v <;> first | rfl | (simp [Value.okWide, ht, Cell.okWide, Cell.ok] at hok)
      have hd : (dv d).cells = [dv d] := by
        rcases Go.Deep.open_slice ht h with ⟨_, e2⟩ | ⟨_, _, _, _, _, _, _, _, _, _, _, _, e2, _⟩ <;> (injection e2 with e2 _; subst e2; rfl)
      exact h2 0 _ _ (by rw [hd]; rfl) (by rw [hv]; rfl)
    · rename_i fs ht
      simp only [Value.okWide, ht] at hok
      obtain ⟨cs, rfl, _, _⟩ := hok
      obtain ⟨xs, q, _, e2, _⟩ := DataW.trod_struct ht h
      injection e2 with e2 _
      subst e2
      have := RepP.agg (w := w) (S := fun b => b < w.heap.size) (dvC (xs.map (·.1))) cs.toList (by
        have := h1
        simp only [dv, V.cells, Value.cells] at this
        exact this.symm) (fun i v x hv hx => h2 i v x (by simpa [dv, V.cells] using hv) (by simpa [Value.cells] using hx))
      simpa [dv] using this
    · rename_i len e ht
      simp only [Value.okWide, ht] at hok
      obtain ⟨cs, rfl, _, _⟩ := hok
      obtain ⟨xs, q, _, e2, _⟩ := DataW.trod_array ht h
      injection e2 with e2 _
      subst e2
      have := RepP.agg (w := w) (S := fun b => b < w.heap.size) (dvC (xs.map (·.1))) cs.toList (by
        have := h1
        simp only [dv, V.cells, Value.cells] at this
        exact this.symm) (fun i v x hv hx => h2 i v x (by simpa [dv, V.cells] using hv) (by simpa [Value.cells] using hx))
      simpa [dv] using this
    · cases hp
theorem args_rep {n base : Nat} : ∀ (ts : List TypeId) (vs : List Value) (ds : List (DataW H)) (ps : List MemPlace), ts.all (pl P n) = true → (∀ (j : Nat) t v, ts[j]? = some t → vs[j]? = some v → Value.okWide P w .any base t v) →
    DataW.TrodAll enc P w 0 sp true ts vs ds ps → Reps (RepP w (fun b => b < w.heap.size)) (ds.map dv) vs
  | [], [], [], _, _, _, _ => ⟨rfl, fun i v x h => by simp at h⟩
  | t :: ts, v :: vs, d :: ds, ps, hp, hok, h => by
    obtain ⟨p, q, h1, h2, _⟩ := h
    simp only [List.all_cons, Bool.and_eq_true] at hp
    have ih := args_rep ts vs ds q hp.2 (fun j t v ht hv => hok (j + 1) t v (by simpa using ht) (by simpa using hv)) h2
    refine ⟨by simpa using ih.1, fun i u x hu hx => ?_⟩
    cases i with
    | zero =>
      simp at hu hx
      subst hu hx
      exact arg_rep hp.1 (hok 0 t v rfl rfl) h1
    | succ i => exact ih.2 i u x (by simpa using hu) (by simpa using hx)
  | [], _ :: _, _, _, _, _, h => by simp [DataW.TrodAll] at h
  | [], [], _ :: _, _, _, _, h => by simp [DataW.TrodAll] at h
  | _ :: _, [], _, _, _, _, h => by simp [DataW.TrodAll] at h
  | _ :: _, _ :: _, [], _, _, _, h => by simp [DataW.TrodAll] at h
def wt (P : Program) {H : Type} : Nat → TypeId → DataW H → Prop
  | 0, _, _ => False
  | n + 1, t, d => match P.underlying t with
    | some .bool => ∃ b, d = .lit (.bool b)
    | some (.int k) => ∃ m, d = .lit (.int k m) ∧ (Lit.int k m).wf = true
    | some .string => ∃ l, d = .lit (.string l) ∧ l.length ≤ reachBytes
    | some (.slice e) => d = .nil ∨ ∃ elems spare, d = .slice elems spare ∧ elems.length * P.bytesOf e ≤ reachBytes ∧ ∀ x ∈ elems, wt P n e x
    | some (.struct fs) => ∃ parts, d = .agg parts ∧ parts.length = fs.size ∧ ∀ (i : Nat) (f : Field) (p : DataW H), fs[i]? = some f → parts[i]? = some p → wt P n f.type p
    | some (.array len e) => ∃ parts, d = .agg parts ∧ parts.length = len ∧ ∀ x ∈ parts, wt P n e x
    | _ => True
theorem weightsAll_mem {e : TypeId} : ∀ {l : List (DataW H)} {x : DataW H}, x ∈ l → ∀ n ∈ x.weights P e, n ∈ DataW.weightsAll P e l
  | d :: r, x, hx, n, hn => by
    simp only [DataW.weightsAll, List.mem_append]
    rcases List.mem_cons.1 hx with rfl | hx
    · exact .inl hn
    · exact .inr (weightsAll_mem hx n hn)
theorem trod_wt : ∀ (fuel : Nat) (t : TypeId) (cs : List Value) (x : DataW H × List MemPlace), DataW.trod enc P w 0 sp true fuel t cs = some x → (∀ n ∈ x.1.weights P t, n ≤ reachBytes) → wt P fuel t x.1
  | 0, t, cs, x, h, _ => by simp [DataW.trod] at h
  | fuel + 1, t, cs, x, h, hw => by
    unfold wt
    split
    · rename_i ht
      obtain ⟨b, _, rfl⟩ := DataW.trod_bool ht h
      exact ⟨b, rfl⟩
    · rename_i k ht
      obtain ⟨m, _, rfl, hm⟩ := DataW.trod_int ht h
      exact ⟨m, rfl, hm⟩
    · rename_i ht
      obtain ⟨s, _, rfl, _⟩ := DataW.trod_string ht h
      exact ⟨_, rfl, hw _ (by simp [DataW.weights])⟩
    · rename_i e ht
      rcases DataW.trod_slice ht h with ⟨_, rfl⟩ | ⟨a, len, cap, elems, rest, n, hn, _, rfl, _, _, _, hlen, hel, _, _⟩
      · exact .inl rfl
      · injection hn with hn
        subst hn
        refine .inr ⟨_, _, rfl, ?_, fun y hy => ?_⟩
        · have := hw ((elems.length + rest.length) * P.bytesOf e) (by simp [DataW.weights, ht])
          simp only [List.length_map]
          exact Nat.le_trans (Nat.mul_le_mul_right _ (Nat.le_add_right _ _)) this
        · obtain ⟨z, hz, rfl⟩ := List.mem_map.1 hy
          obtain ⟨i, hi, ez⟩ := List.getElem_of_mem hz
          have := hel i (by omega)
          rw [List.getElem?_eq_getElem hi, ez] at this
          obtain ⟨cs', h1, h2⟩ := Option.bind_eq_some_iff.1 this
          refine trod_wt fuel e cs' z h2 fun n hn => hw n ?_
          simp only [DataW.weights, ht, List.mem_cons, List.mem_append]
          exact .inr (.inl (weightsAll_mem hy n hn))
    · rename_i fs ht
      obtain ⟨xs, n, hn, rfl, _, hxl, hseg⟩ := DataW.trod_struct ht h
      injection hn with hn
      subst hn
      refine ⟨_, rfl, by simpa using hxl, fun i f p hf hp => ?_⟩
      rw [List.getElem?_map] at hp
      obtain ⟨z, hz, rfl⟩ := Option.map_eq_some_iff.1 hp
      have := hseg i f hf
      rw [hz] at this
      refine trod_wt fuel f.type _ z this fun n hn => hw n ?_
      simp only [DataW.weights, ht]
      exact DataW.weights_mem_each (j := i) (by rw [List.getElem?_map]; simp [hf]) (by rw [List.getElem?_map, hz]; rfl) n hn
    · rename_i len e ht
      obtain ⟨xs, n, hn, rfl, _, hxl, hseg⟩ := DataW.trod_array ht h
      injection hn with hn
      subst hn
      refine ⟨_, rfl, by simpa using hxl, fun y hy => ?_⟩
      obtain ⟨z, hz, rfl⟩ := List.mem_map.1 hy
      obtain ⟨i, hi, ez⟩ := List.getElem_of_mem hz
      have := hseg i (by omega)
      rw [List.getElem?_eq_getElem hi, ez] at this
      refine trod_wt fuel e _ z this fun n hn => hw n ?_
      simp only [DataW.weights, ht]
      exact weightsAll_mem hy n hn
    · trivial
theorem args_wt : ∀ (ts : List TypeId) (vs : List Value) (ds : List (DataW H)) (ps : List MemPlace), DataW.TrodAll enc P w 0 sp true ts vs ds ps → (∀ n ∈ DataW.weightsEach P ts ds, n ≤ reachBytes) →
    ds.length = ts.length ∧ ∀ (j : Nat) t d, ts[j]? = some t → ds[j]? = some d → ∃ n, wt P n t d
  | [], [], [], _, _, _ => ⟨rfl, fun j t d h => by simp at h⟩
  | t :: ts, v :: vs, d :: ds, ps, h, hw => by
    obtain ⟨p, q, ⟨fuel, h1⟩, h2, _⟩ := h
    have ih := args_wt ts vs ds q h2 (fun n hn => hw n (by simp only [DataW.weightsEach, List.mem_append]; exact .inr hn))
    refine ⟨by simpa using ih.1, fun j t' d' ht hd => ?_⟩
    cases j with
    | zero =>
      simp at ht hd
      subst ht hd
      exact ⟨fuel, trod_wt fuel t _ _ h1 fun n hn => hw n (by simp only [DataW.weightsEach, List.mem_append]; exact .inl hn)⟩
    | succ j => exact ih.2 j t' d' (by simpa using ht) (by simpa using hd)
  | [], _ :: _, _, _, h, _ => by simp [DataW.TrodAll] at h
  | [], [], _ :: _, _, h, _ => by simp [DataW.TrodAll] at h
  | _ :: _, [], _, _, h, _ => by simp [DataW.TrodAll] at h
  | _ :: _, _ :: _, [], _, h, _ => by simp [DataW.TrodAll] at h
end
section
variable {H : Type} {enc : TypeId × Value → H} {P : Program}
theorem below_all (hl : laidOutB P = true) {W W' : World} (hb : Go.RowKit.Below W.heap.size W W') : ∀ (ts : List TypeId) (vs : List Value) (ds : List (DataW H)) (ps : List MemPlace), (ts.all fun t => P.readableRec t && decide (t < P.types.size)) = true → (∀ x ∈ ps, x.block < W.heap.size) →
    DataW.TrodAll enc P W 0 (fun _ => true) true ts vs ds ps → DataW.TrodAll enc P W' 0 (fun b => decide (b < W.heap.size)) true ts vs ds ps
  | [], [], [], _, _, _, h => h
  | t :: ts, v :: vs, d :: ds, ps, hr, hlt, h => by
    obtain ⟨p, q, h1, h2, rfl⟩ := h
    simp only [List.all_cons, Bool.and_eq_true] at hr
    exact ⟨p, q, Go.RowKit.Below.trod hl hr.1.1 (of_decide_eq_true hr.1.2) h1 hb (fun x hx => hlt x (by simp [hx])), below_all hl hb ts vs ds q hr.2 (fun x hx => hlt x (by simp [hx])) h2, rfl⟩
  | [], _ :: _, _, _, _, _, h => by simp [DataW.TrodAll] at h
  | [], [], _ :: _, _, _, _, h => by simp [DataW.TrodAll] at h
  | _ :: _, [], _, _, _, _, h => by simp [DataW.TrodAll] at h
  | _ :: _, _ :: _, [], _, _, _, h => by simp [DataW.TrodAll] at h
end
theorem law_call {C : Checked} {f : FuncId} {fn : Func} {s : ChangeSpec} {H : Type} {enc : TypeId × Value → H} {tb : TypeId} {n : Nat}
    (hvars : s.vars = []) (hs : ∀ ds : List (DataW H), ds.length = fn.params.toList.length → (s.fn H (ds ++ [])).results = [.lit (.bool true)] ∧ (s.fn H (ds ++ [])).args = ds ∧ (s.fn H (ds ++ [])).vars = [])
    (hlaid : laidOutB C.prog = true) (hp : (fn.params.toList.all (pl C.prog n)) = true) (hr : (fn.params.toList.all fun t => C.prog.readableRec t && decide (t < C.prog.types.size)) = true)
    (hres : fn.resultTypes = #[tb]) (htb : C.prog.underlying tb = some .bool)
    (hc : ∀ ds : List (DataW H), ds.length = fn.params.toList.length → (∀ (j : Nat) t d, fn.params.toList[j]? = some t → ds[j]? = some d → ∃ n, wt C.prog n t d) → Fc C.prog f (ds.map dv) (.bool true))
    (W : World) (base : Nat) (args : Array Value) (ds gs : List (DataW H)) (before : List MemPlace)
    (hval : ∀ (j : Nat) t v, fn.params[j]? = some t → args[j]? = some v → Value.okWide C.prog W .any base t v)
    (hW : DataW.Whole enc C.prog fn.params.toList s.vars false W args.toList ds gs before)
    (hsz : (DataW.weightsEach C.prog (fn.params.toList ++ s.plain.varTypes C.prog) (ds ++ gs)).all (· ≤ reachBytes) = true)
    (hgl : ∀ p ∈ glb, ∃ (cs : List Value) (e : TypeId) (fr : Nat × Nat), W.heap[p.1]? = some (.cells cs.toArray e fr) ∧ p.2 cs) :
    Calls C.prog f args W fun e W' => ∃ v, e = .returned v ∧ s.post enc C.prog fn false true false false W args v W' := by
  have hW' := hW
  obtain ⟨p, q, hA, hV, hbe, hfz, hnd⟩ := hW
  rw [hvars] at hV
  have hg : gs = [] ∧ q = [] := by
    cases gs with
    | nil => exact ⟨rfl, by simpa [DataW.TrodVars] using hV⟩
    | cons g gs => simp [DataW.TrodVars] at hV
  obtain ⟨rfl, rfl⟩ := hg
  have hw : ∀ n ∈ DataW.weightsEach C.prog fn.params.toList ds, n ≤ reachBytes := by
    intro n hn
    have h1 := List.all_eq_true.1 hsz n
    have hlen : ds.length = fn.params.toList.length := by
      have : ∀ (ts : List TypeId) (vs : List Value) (ds : List (DataW H)) (ps : List MemPlace), DataW.TrodAll enc C.prog W 0 (fun _ => true) true ts vs ds ps → ds.length = ts.length := by
        intro ts
        induction ts with
        | nil => intro vs ds ps h; cases vs <;> cases ds <;> simp [DataW.TrodAll] at h ⊢
        | cons t ts ih =>
          intro vs ds ps h
          cases vs <;> cases ds <;> simp [DataW.TrodAll] at h ⊢
          obtain ⟨p, _, q, h2, _⟩ := h
          exact ih _ _ _ h2
      exact this _ _ _ _ hA
    have h2 : n ∈ DataW.weightsEach C.prog (fn.params.toList ++ s.plain.varTypes C.prog) (ds ++ []) := by
      have : ∀ (ts us : List TypeId) (ds : List (DataW H)), ds.length = ts.length → ∀ n ∈ DataW.weightsEach C.prog ts ds, n ∈ DataW.weightsEach C.prog (ts ++ us) ds := by
        intro ts
        induction ts with
        | nil => intro us ds h n hn; simp [DataW.weightsEach] at hn
        | cons t ts ih =>
          intro us ds h n hn
          cases ds with
          | nil => simp at h
          | cons d ds =>
            simp only [List.cons_append, DataW.weightsEach, List.mem_append] at hn ⊢
            rcases hn with hn | hn
            · exact .inl hn
            · exact .inr (ih us ds (by simpa using h) n hn)
      rw [List.append_nil]
      exact this _ _ _ hlen n hn
    exact of_decide_eq_true (h1 h2)
  obtain ⟨hdl, hwt⟩ := args_wt _ _ _ _ hA hw
  have hrep := args_rep (n := n) (base := base) _ _ _ _ hp (fun j t v ht hv => hval j t v (by simpa using ht) (by simpa using hv)) hA
  obtain ⟨_, hcall⟩ := (hc ds hdl hwt).out
  have hcw := callsIn_wide.1 (hcall W (fun b => b < W.heap.size) args.toList (fun b h => h) (fun p hp => by
    obtain ⟨cs, e, fr, h1, h2⟩ := hgl p hp
    exact ⟨(Array.getElem?_eq_some_iff.1 h1).1, cs, e, fr, h1, h2⟩) hrep)
  simp only [Array.toArray_toList] at hcw
  refine hcw.mono fun e W' ⟨x', S', he, hx, _, _, hgrow⟩ => ?_
  subst he
  cases hx
  have hb : Go.RowKit.Below W.heap.size W W' := ⟨hgrow.os, hgrow.tape, hgrow.output.1, hgrow.size, fun k hk => hgrow.same k hk⟩
  obtain ⟨s1, s2, s3⟩ := hs ds hdl
  refine ⟨_, rfl, ds, [], before, [], p, [], hW', ?_, ?_, ?_, ?_, fun h => by cases h⟩
  · rw [s1, hres]
    refine ⟨[], [], ⟨1, ?_⟩, rfl, rfl⟩
    unfold DataW.trod
    rw [htb]
    rfl
  · rw [s2]
    have hlt : ∀ x ∈ p, x.block < W.heap.size := fun x hx => hW'.lt x (by rw [hbe]; simp [hx])
    exact below_all hlaid hb _ _ _ _ hr hlt hA
  · rw [s3, hvars]; rfl
  · exact hb.frame _
end Hm
namespace Hm
open Go
section
variable {H : Type} {P : Program}
def wtE (P : Program) {H : Type} (n : Nat) : List TypeId → List (DataW H) → Prop
  | [], [] => True
  | t :: ts, d :: ds => wt P n t d ∧ wtE P n ts ds
  | _, _ => False
theorem wtE_of {n : Nat} : ∀ (ts : List TypeId) (ds : List (DataW H)), ds.length = ts.length → (∀ (i : Nat) (t : TypeId) (d : DataW H), ts[i]? = some t → ds[i]? = some d → wt P n t d) → wtE P n ts ds
  | [], [], _, _ => trivial
  | t :: ts, d :: ds, hl, h => ⟨h 0 t d rfl rfl, wtE_of ts ds (by simpa using hl) fun i t d h1 h2 => h (i + 1) t d (by simpa using h1) (by simpa using h2)⟩
  | [], _ :: _, hl, _ => by simp at hl
  | _ :: _, [], hl, _ => by simp at hl
theorem wt_st {n : Nat} {t : TypeId} {d : DataW H} {fs : Array Field} (ht : P.underlying t = some (.struct fs)) (h : wt P n t d) : ∃ parts m, d = .agg parts ∧ wtE P m (fs.toList.map (·.type)) parts := by
  cases n with
  | zero => exact h.elim
  | succ n =>
    simp only [wt, ht] at h
    obtain ⟨parts, rfl, hl, h⟩ := h
    refine ⟨parts, n, rfl, wtE_of _ _ (by simpa using hl) fun i t d h1 h2 => ?_⟩
    rw [List.getElem?_map] at h1
    obtain ⟨f, hf, rfl⟩ := Option.map_eq_some_iff.1 h1
    exact h i f d (by simpa using hf) h2
theorem wt_arr {n len : Nat} {t e : TypeId} {d : DataW H} (ht : P.underlying t = some (.array len e)) (h : wt P n t d) : ∃ parts m, d = .agg parts ∧ parts.length = len ∧ ∀ x ∈ parts, wt P m e x := by
  cases n with
  | zero => exact h.elim
  | succ n =>
    simp only [wt, ht] at h
    obtain ⟨parts, rfl, hl, h⟩ := h
    exact ⟨parts, n, rfl, hl, h⟩
theorem wt_int {n : Nat} {t : TypeId} {d : DataW H} (ht : P.underlying t = some (.int .i64)) (h : wt P n t d) : ∃ m, d = .lit (.int .i64 m) ∧ InR .i64 m := by
  cases n with
  | zero => exact h.elim
  | succ n =>
    simp only [wt, ht] at h
    obtain ⟨m, rfl, h⟩ := h
    refine ⟨m, rfl, ?_⟩
    simpa [Lit.wf, IntKind.min, IntKind.max, IntKind.signed, IntKind.bits, InR] using h
theorem wt_bool {n : Nat} {t : TypeId} {d : DataW H} (ht : P.underlying t = some .bool) (h : wt P n t d) : ∃ b, d = .lit (.bool b) := by
  cases n with
  | zero => exact h.elim
  | succ n => simpa only [wt, ht] using h
theorem wt_str {n : Nat} {t : TypeId} {d : DataW H} (ht : P.underlying t = some .string) (h : wt P n t d) : ∃ l, d = .lit (.string l) ∧ l.length ≤ 140737488351232 := by
  cases n with
  | zero => exact h.elim
  | succ n =>
    simp only [wt, ht] at h
    exact h
theorem ex_map {α : Type} {f : α → V} {Q : α → Prop} : ∀ (ds : List (DataW H)), (∀ d ∈ ds, ∃ a, dv d = f a ∧ Q a) → ∃ l : List α, dvL ds = l.map f ∧ l.length = ds.length ∧ ∀ a ∈ l, Q a
  | [], _ => ⟨[], rfl, rfl, fun a h => by cases h⟩
  | d :: ds, h => by
    obtain ⟨a, h1, h2⟩ := h d (by simp)
    obtain ⟨l, h3, h4, h5⟩ := ex_map ds fun x hx => h x (by simp [hx])
    refine ⟨a :: l, by simp only [dvL, List.map_cons, h1, h3], by simp [h4], fun b hb => ?_⟩
    rcases List.mem_cons.1 hb with rfl | hb
    · exact h2
    · exact h5 b hb
theorem wt_sl {α : Type} {f : α → V} {Q : α → Prop} {t e : TypeId} (ht : P.underlying t = some (.slice e)) (he : ∀ (n : Nat) (d : DataW H), wt P n e d → ∃ a, dv d = f a ∧ Q a) {n : Nat} {d : DataW H} (h : wt P n t d) :
    ∃ l : List α, dv d = .sl .p (l.map f) ∧ l.length * P.bytesOf e ≤ 140737488351232 ∧ ∀ a ∈ l, Q a := by
  cases n with
  | zero => exact h.elim
  | succ n =>
    simp only [wt, ht] at h
    rcases h with rfl | ⟨elems, spare, rfl, hl, h⟩
    · exact ⟨[], rfl, by simp, fun a h => by cases h⟩
    · obtain ⟨l, h1, h2, h3⟩ := ex_map elems fun x hx => he n x (h x hx)
      exact ⟨l, by simp only [dv, h1], by rw [h2]; exact hl, h3⟩
end
theorem in_Typ {H : Type} (n : Nat) (d : DataW H) (h : wt Go.Proofs.Tryz.prog n 83 d) : ∃ t : Typ, dv d = tyV t ∧ t.name.length ≤ 140737488351232 ∧ InR .i64 t.parent := by
  obtain ⟨parts, m, rfl, hp⟩ := wt_st Go.Proofs.Tryz.underlying83 h
  match parts, hp with
  | [d0, d1], hp =>
    obtain ⟨h0, h1, _⟩ := hp
    obtain ⟨s, rfl, hs⟩ := wt_str Go.Proofs.Tryz.underlying9 h0
    obtain ⟨k, rfl, hk⟩ := wt_int Go.Proofs.Tryz.underlying3 h1
    exact ⟨⟨s, k⟩, rfl, hs, hk⟩
theorem in_Obj {H : Type} (n : Nat) (d : DataW H) (h : wt Go.Proofs.Tryz.prog n 52 d) : ∃ t : Obj, dv d = obV t ∧ t.name.length ≤ 140737488351232 ∧ InR .i64 t.type := by
  obtain ⟨parts, m, rfl, hp⟩ := wt_st Go.Proofs.Tryz.underlying52 h
  match parts, hp with
  | [d0, d1], hp =>
    obtain ⟨h0, h1, _⟩ := hp
    obtain ⟨s, rfl, hs⟩ := wt_str Go.Proofs.Tryz.underlying9 h0
    obtain ⟨k, rfl, hk⟩ := wt_int Go.Proofs.Tryz.underlying3 h1
    exact ⟨⟨s, k⟩, rfl, hs, hk⟩
theorem by_Typ : Program.bytesOf Go.Proofs.Tryz.prog 83 = 24 := by kernel_rfl
theorem by_Obj : Program.bytesOf Go.Proofs.Tryz.prog 52 = 24 := by kernel_rfl
theorem in_Typs {H : Type} {n : Nat} {d : DataW H} (h : wt Go.Proofs.Tryz.prog n 22 d) : ∃ l : List Typ, dv d = .sl .p (l.map tyV) ∧ l.length ≤ 140737488355328 ∧ ∀ t ∈ l, t.name.length ≤ 140737488355328 := by
  obtain ⟨l, h1, h2, h3⟩ := wt_sl Go.Proofs.Tryz.underlying22 in_Typ h
  rw [by_Typ] at h2
  exact ⟨l, h1, by omega, fun t ht => by have := (h3 t ht).1; omega⟩
theorem in_Objs {H : Type} {n : Nat} {d : DataW H} (h : wt Go.Proofs.Tryz.prog n 23 d) : ∃ l : List Obj, dv d = .sl .p (l.map obV) ∧ l.length ≤ 140737488355328 ∧ ∀ t ∈ l, t.name.length ≤ 140737488355328 := by
  obtain ⟨l, h1, h2, h3⟩ := wt_sl Go.Proofs.Tryz.underlying23 in_Obj h
  rw [by_Obj] at h2
  exact ⟨l, h1, by omega, fun t ht => by have := (h3 t ht).1; omega⟩
theorem by_intD : Program.bytesOf Go.Proofs.Tryz.prog 3 = 8 := by kernel_rfl
theorem by_Pair : Program.bytesOf Go.Proofs.Tryz.prog 99 = 16 := by kernel_rfl
theorem by_Atom : Program.bytesOf Go.Proofs.Tryz.prog 49 = 32 := by kernel_rfl
theorem by_Lit : Program.bytesOf Go.Proofs.Tryz.prog 129 = 40 := by kernel_rfl
theorem by_Prd : Program.bytesOf Go.Proofs.Tryz.prog 67 = 40 := by kernel_rfl
theorem by_Sch : Program.bytesOf Go.Proofs.Tryz.prog 60 = 144 := by kernel_rfl
theorem in_Int1 {H : Type} (n : Nat) (d : DataW H) (h : wt Go.Proofs.Tryz.prog n 3 d) : ∃ m, dv d = i64V m ∧ InR .i64 m := by
  obtain ⟨m, rfl, hm⟩ := wt_int Go.Proofs.Tryz.underlying3 h
  exact ⟨m, rfl, hm⟩
theorem in_Ints {H : Type} {n : Nat} {d : DataW H} (h : wt Go.Proofs.Tryz.prog n 47 d) : ∃ l : List Int, dv d = .sl .p (l.map i64V) ∧ l.length ≤ 17592186044416 ∧ ∀ c ∈ l, InR .i64 c := by
  obtain ⟨l, h1, h2, h3⟩ := wt_sl Go.Proofs.Tryz.underlying47 in_Int1 h
  rw [by_intD] at h2
  exact ⟨l, h1, by omega, h3⟩
theorem in_Pair {H : Type} (n : Nat) (d : DataW H) (h : wt Go.Proofs.Tryz.prog n 99 d) : ∃ p : Int × Int, dv d = pairV p ∧ True := by
  obtain ⟨parts, m, rfl, hl, hp⟩ := wt_arr Go.Proofs.Tryz.underlying99 h
  match parts, hl with
  | [d0, d1], _ =>
    obtain ⟨x, rfl, _⟩ := wt_int Go.Proofs.Tryz.underlying3 (hp d0 (by simp))
    obtain ⟨y, rfl, _⟩ := wt_int Go.Proofs.Tryz.underlying3 (hp d1 (by simp))
    exact ⟨(x, y), rfl, trivial⟩
theorem in_Pairs {H : Type} {n : Nat} {d : DataW H} (h : wt Go.Proofs.Tryz.prog n 58 d) : ∃ l : List (Int × Int), dv d = .sl .p (l.map pairV) ∧ l.length ≤ 17592186044416 := by
  obtain ⟨l, h1, h2, h3⟩ := wt_sl Go.Proofs.Tryz.underlying58 in_Pair h
  rw [by_Pair] at h2
  exact ⟨l, h1, by omega⟩
theorem in_Atom {H : Type} (n : Nat) (d : DataW H) (h : wt Go.Proofs.Tryz.prog n 49 d) : ∃ a : At, dv d = atV a ∧ AtOk a := by
  obtain ⟨parts, m, rfl, hp⟩ := wt_st Go.Proofs.Tryz.underlying49 h
  match parts, hp with
  | [d0, d1], hp =>
    obtain ⟨h0, h1, _⟩ := hp
    obtain ⟨k, rfl, hk⟩ := wt_int Go.Proofs.Tryz.underlying3 h0
    obtain ⟨l, e1, b1, r1⟩ := in_Ints h1
    refine ⟨⟨k, l⟩, ?_, ⟨b1, r1, hk⟩⟩
    simp only [dv, dvC, V.cells, e1, List.append_nil, atV, List.cons_append, List.nil_append]
theorem in_Atoms {H : Type} {n : Nat} {d : DataW H} (h : wt Go.Proofs.Tryz.prog n 26 d) : ∃ l : List At, dv d = .sl .p (l.map atV) ∧ l.length ≤ 4398046511104 ∧ ∀ a ∈ l, AtOk a := by
  obtain ⟨l, h1, h2, h3⟩ := wt_sl Go.Proofs.Tryz.underlying26 in_Atom h
  rw [by_Atom] at h2
  exact ⟨l, h1, by omega, h3⟩
theorem in_Lit {H : Type} (n : Nat) (d : DataW H) (h : wt Go.Proofs.Tryz.prog n 129 d) : ∃ x : Lit, dv d = litV x ∧ AtOk x.at_ := by
  obtain ⟨parts, m, rfl, hp⟩ := wt_st Go.Proofs.Tryz.underlying129 h
  match parts, hp with
  | [d0, d1], hp =>
    obtain ⟨h0, h1, _⟩ := hp
    obtain ⟨b, rfl⟩ := wt_bool Go.Proofs.Tryz.underlying4 h0
    obtain ⟨a, e1, o1⟩ := in_Atom _ _ h1
    refine ⟨⟨b, a⟩, ?_, o1⟩
    simp only [dv, dvC, V.cells, e1, atV, List.append_nil, litV, List.cons_append, List.nil_append]
theorem in_Lits {H : Type} {n : Nat} {d : DataW H} (h : wt Go.Proofs.Tryz.prog n 27 d) : ∃ l : List Lit, dv d = .sl .p (l.map litV) ∧ l.length ≤ 3518437208883 ∧ ∀ x ∈ l, AtOk x.at_ := by
  obtain ⟨l, h1, h2, h3⟩ := wt_sl Go.Proofs.Tryz.underlying27 in_Lit h
  rw [by_Lit] at h2
  exact ⟨l, h1, by omega, h3⟩
theorem in_Prd {H : Type} (n : Nat) (d : DataW H) (h : wt Go.Proofs.Tryz.prog n 67 d) : ∃ p : Prd, dv d = prdV p ∧ (p.name.length ≤ 140737488355328 ∧ p.types.length ≤ 17592186044416) := by
  obtain ⟨parts, m, rfl, hp⟩ := wt_st Go.Proofs.Tryz.underlying67 h
  match parts, hp with
  | [d0, d1], hp =>
    obtain ⟨h0, h1, _⟩ := hp
    obtain ⟨s, rfl, hs⟩ := wt_str Go.Proofs.Tryz.underlying9 h0
    obtain ⟨l, e1, b1, r1⟩ := in_Ints h1
    refine ⟨⟨s, l⟩, ?_, by simp only; omega, b1⟩
    simp only [dv, dvC, V.cells, e1, List.append_nil, prdV, List.cons_append, List.nil_append]
theorem in_Prds {H : Type} {n : Nat} {d : DataW H} (h : wt Go.Proofs.Tryz.prog n 24 d) : ∃ l : List Prd, dv d = .sl .p (l.map prdV) ∧ l.length ≤ 140737488355328 ∧ ∀ p ∈ l, p.name.length ≤ 140737488355328 ∧ p.types.length ≤ 17592186044416 := by
  obtain ⟨l, h1, h2, h3⟩ := wt_sl Go.Proofs.Tryz.underlying24 in_Prd h
  rw [by_Prd] at h2
  exact ⟨l, h1, by omega, h3⟩
theorem in_Sch {H : Type} (n : Nat) (d : DataW H) (h : wt Go.Proofs.Tryz.prog n 60 d) : ∃ s : Sch, dv d = schV s ∧ SchOk s := by
  obtain ⟨parts, m, rfl, hp⟩ := wt_st Go.Proofs.Tryz.underlying60 h
  match parts, hp with
  | [d0, d1, d2, d3, d4, d5, d6], hp =>
    obtain ⟨h0, h1, h2, h3, h4, h5, h6, _⟩ := hp
    obtain ⟨s, rfl, hs⟩ := wt_str Go.Proofs.Tryz.underlying9 h0
    obtain ⟨l1, e1, b1, r1⟩ := in_Ints h1
    obtain ⟨l2, e2, b2⟩ := in_Pairs h2
    obtain ⟨l3, e3, b3, r3⟩ := in_Lits h3
    obtain ⟨l4, e4, b4, r4⟩ := in_Atoms h4
    obtain ⟨l5, e5, b5, r5⟩ := in_Atoms h5
    obtain ⟨k, rfl, hk⟩ := wt_int Go.Proofs.Tryz.underlying3 h6
    refine ⟨⟨s, l1, l2, l3, l4, l5, k⟩, ?_, ⟨by simp only; omega, b1, b2, b3, b4, b5, r3, r4, r5⟩⟩
    simp only [dv, dvC, V.cells, e1, e2, e3, e4, e5, List.append_nil, schV, List.cons_append, List.nil_append]
theorem in_Schs {H : Type} {n : Nat} {d : DataW H} (h : wt Go.Proofs.Tryz.prog n 25 d) : ∃ l : List Sch, dv d = .sl .p (l.map schV) ∧ l.length ≤ 140737488355328 ∧ ∀ s ∈ l, SchOk s := by
  obtain ⟨l, h1, h2, h3⟩ := wt_sl Go.Proofs.Tryz.underlying25 in_Sch h
  rw [by_Sch] at h2
  exact ⟨l, h1, by omega, h3⟩
theorem in_Dom {H : Type} {n : Nat} {d : DataW H} (h : wt Go.Proofs.Tryz.prog n 29 d) : ∃ x : Dom, dv d = domV x ∧ DoOk x := by
  obtain ⟨parts, m, rfl, hp⟩ := wt_st Go.Proofs.Tryz.underlying29 h
  match parts, hp with
  | [d0, d1, d2, d3, d4, d5], hp =>
    obtain ⟨h0, h1, h2, h3, h4, h5, _⟩ := hp
    obtain ⟨l0, e0, b0⟩ := in_Typs h0
    obtain ⟨l1, e1, b1⟩ := in_Objs h1
    obtain ⟨l2, e2, b2⟩ := in_Prds h2
    obtain ⟨l3, e3, b3⟩ := in_Schs h3
    obtain ⟨l4, e4, b4⟩ := in_Atoms h4
    obtain ⟨l5, e5, b5⟩ := in_Lits h5
    refine ⟨⟨l0, l1, l2, l3, l4, l5⟩, ?_, ⟨b0, b1, b2, b3, b4, b5⟩⟩
    simp only [dv, dvC, V.cells, e0, e1, e2, e3, e4, e5, List.append_nil, domV, List.cons_append, List.nil_append]
end Hm
end
