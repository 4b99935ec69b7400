/- Part Y1PA of the proof. -/
import Derived.Test.YtcafpbooikaahaaGreatYPB
import Derived.Test.YtcafpbooikaahaaGreatY1A
set_option linter.unusedVariables false
set_option linter.unusedSimpArgs false
section
namespace Hm
open Go
set_option maxRecDepth 100000
set_option maxHeartbeats 1000000
def c_R1_In : Cmd :=
 (qS [qb 6 false]
 (.seq (.ops [qm 7 0, qm 8 1, qu 9 .geq [] 7 8, qm 10 9, qg 11 10 true (.mov (.t 0)), qg 12 10 true (.mov (.t 2)), qg 13 10 true (.bin .leq false [] (.t 11) (.t 12)), qq 14 (.pick (.t 10) (.t 13) (.c (.bool false))), qm 6 14]) .ret))
def r_R1_In : List RVar := [.tmp 6]
def n_R1_In : Nat := 15
theorem k_R1_In : chkFn Go.Proofs.Tryz.prog 59 n_R1_In r_R1_In c_R1_In = true := by kernel_rfl
theorem f_R1_In (x lo hi : Int) : Fc Go.Proofs.Tryz.prog 59 [.int .i64 x, .int .i64 lo, .int .i64 hi] (.bool (decide (lo ≤ x) && decide (x ≤ hi))) := by
  refine Fn.step mixed k_R1_In ?_
  repeat' (first | refine i_s rfl ?_ | refine sw ?_ | refine i_gt rfl ?_ | refine i_gf rfl ?_ | refine i_g rfl (fun h => ?_) (fun h => ?_))
  all_goals refine e_ret ⟨rfl, _, rfl, congrArg V.bool ?_⟩
  · have := of_decide_eq_true h; simp; omega
  · have := of_decide_eq_false h; simp; omega
def c_R1_At : Cmd :=
 (qS [qq 4 (.alloc 1728258 (.agg [.int .i64 0, .int .i64 0]))]
 (.seq (.ops [qm 5 0, qm 6 1, qq 7 (.build [.int .i64 0, .int .i64 0] [(0 , 1 , .t 5), (1 , 1 , .t 6)]), qs 2 4 7]) .ret))
def r_R1_At : List RVar := [.cell true 2 4]
def n_R1_At : Nat := 8
theorem k_R1_At : chkFn Go.Proofs.Tryz.prog 27 n_R1_At r_R1_At c_R1_At = true := by kernel_rfl
theorem f_R1_At (c i : Int) : Fc Go.Proofs.Tryz.prog 27 [.int .i64 c, .int .i64 i] (.agg [.int .i64 c, .int .i64 i]) := by
  refine Fn.step mixed k_R1_At ?_
  repeat' (first | refine i_s rfl ?_ | refine sw ?_ | refine i_stb rfl ?_ | refine i_alloc rfl ?_)
  exact e_ret ⟨rfl, _, rfl, rfl⟩
def c_R1_Has : Cmd :=
 (qS [qb 4 false]
 (qT (qS [qc 5 0]
 (.block 0 (.loop (qT (qS [qm 6 5, qm 7 0, qn 8 7, qu 9 .lss [] 6 8]
 (.cond (.t 9) .skip (.exit 0)))
 (qT (.block 1 (qS [qm 12 0, qm 13 5, qi 14 1 12 13, ql 15 1 14, qm 16 1, qu 17 .eql [.i] 15 16]
 (.cond (.t 17) (.seq (.ops [qb 4 true]) .ret) .skip)))
 (.ops [qm 10 5, qv 11 .add [] 10 1, qm 5 11]))))))
 (.seq (.ops [qb 4 false]) .ret)))
def r_R1_Has : List RVar := [.tmp 4]
def n_R1_Has : Nat := 18
theorem k_R1_Has : chkFn Go.Proofs.Tryz.prog 22 n_R1_Has r_R1_Has c_R1_Has = true := by kernel_rfl
theorem f_R1_Has (xs : List Int) (n : Int) (hl : xs.length ≤ 140737488355328) : Fc Go.Proofs.Tryz.prog 22 [.sl .p (xs.map i64V), .int .i64 n] (.bool (decide (n ∈ xs))) := by
  refine Fn.step mixed k_R1_Has ?_
  repeat (first | refine i_s rfl ?_ | refine sw ?_)
  refine c_for xs.length (fun k => [(0, .sl .p (xs.map i64V)), (1, .int .i64 n), (5, .int .i64 k)]) (fun _ => []) (fun k => n ∉ xs.take k) (by simp) ft fun k hk hi => ?_
  repeat (first | refine i_len rfl ?_ | refine i_s rfl ?_ | refine sw ?_)
  refine c_cond rfl (fun h => ?_) (fun h => ?_)
  · have hlt : k < xs.length := by simpa using h
    obtain ⟨c, hc⟩ := get_some hlt
    repeat' (first | refine i_s rfl ?_ | refine sw ?_ | refine ja rfl rfl ?_ | refine jd rfl rfl ?_ | refine c_cond rfl (fun h => ?_) (fun h => ?_))
    · refine e_ret ⟨rfl, _, rfl, congrArg V.bool ?_⟩
      have e : c = n := by simpa using h
      exact decide_eq_true (e ▸ mem_get hc)
    · refine e_for hlt ?_ ft
      have e : c ≠ n := by simpa using h
      rw [take_succ_get hc, List.mem_append]
      simp [hi, Ne.symm e]
  · have hge : ¬ k < xs.length := by simpa using h
    rw [List.take_of_length_le (by omega)] at hi
    repeat' (first | refine i_s rfl ?_ | refine sw ?_ | fail)
    exact e_ret ⟨rfl, _, rfl, congrArg V.bool (decide_eq_false hi)⟩
end Hm
end
section
namespace Hm
open Go
set_option maxRecDepth 100000
set_option maxHeartbeats 4000000
def c_R1_Sign : Cmd :=
 (qS [qc 4 0]
 (qT (qS [qm 5 0, qm 6 1, qu 7 .lss [] 5 6]
 (.cond (.t 7) (.seq (.ops [qc 4 (-1)]) .ret) .skip))
 (qT (qS [qm 8 0, qm 9 1, qu 10 .gtr [] 8 9]
 (.cond (.t 10) (.seq (.ops [qc 4 1]) .ret) .skip))
 (.seq (.ops [qc 4 0]) .ret))))
def r_R1_Sign : List RVar := [.tmp 4]
def n_R1_Sign : Nat := 11
theorem k_R1_Sign : chkFn Go.Proofs.Tryz.prog 99 n_R1_Sign r_R1_Sign c_R1_Sign = true := by kernel_rfl
theorem f_R1_Sign (a b : Int) : Fc Go.Proofs.Tryz.prog 99 [.int .i64 a, .int .i64 b] (.int .i64 (signI a b)) := by
  refine Fn.step mixed k_R1_Sign ?_
  repeat' (first | refine i_s rfl ?_ | refine sw ?_ | refine c_cond rfl (fun h => ?_) (fun h => ?_))
  all_goals first
    | (refine e_ret ⟨rfl, _, rfl, congrArg (V.int .i64) ?_⟩; unfold signI; simp at *; (repeat' split) <;> omega)
def c_R1_AtomOrder : Cmd :=
 (qS [qx 2 3392130 2 0, qx 3 3392194 2 1, qc 4 0]
 (qT (qS [qf 6 0 2, ql 7 1 6, qf 8 0 3, ql 9 1 8, qu 10 .neq [.i] 7 9]
 (.cond (.t 10) (.seq (.ops [qf 11 0 2, ql 12 1 11, qf 13 0 3, ql 14 1 13, qk 15 99 [12, 14], qm 4 15]) .ret) .skip))
 (qT (qS [qc 5 0]
 (.block 0 (.loop (qT (qS [qm 16 5, qf 17 1 2, ql 18 1 17, qn 19 18, qu 20 .lss [] 16 19, qm 21 20, qg 22 21 true (.mov (.t 5)), qg 23 21 true (.faddr 1 (.t 3)), qg 24 21 true (.load false 1 (.t 23)), qg 25 21 true (.len false (.t 24)), qg 26 21 true (.bin .lss false [] (.t 22) (.t 25)), qq 27 (.pick (.t 21) (.t 26) (.c (.bool false)))]
 (.cond (.t 27) .skip (.exit 0)))
 (qT (.block 1 (qS [qf 30 1 2, ql 31 1 30, qm 32 5, qi 33 1 31 32, ql 34 1 33, qf 35 1 3, ql 36 1 35, qm 37 5, qi 38 1 36 37, ql 39 1 38, qu 40 .neq [.i] 34 39]
 (.cond (.t 40) (.seq (.ops [qf 41 1 2, ql 42 1 41, qm 43 5, qi 44 1 42 43, ql 45 1 44, qf 46 1 3, ql 47 1 46, qm 48 5, qi 49 1 47 48, ql 50 1 49, qk 51 99 [45, 50], qm 4 51]) .ret) .skip)))
 (.ops [qm 28 5, qv 29 .add [] 28 1, qm 5 29]))))))
 (.seq (.ops [qf 52 1 2, ql 53 1 52, qn 54 53, qf 55 1 3, ql 56 1 55, qn 57 56, qk 58 99 [54, 57], qm 4 58]) .ret))))
def r_R1_AtomOrder : List RVar := [.tmp 4]
def n_R1_AtomOrder : Nat := 59
theorem k_R1_AtomOrder : chkFn Go.Proofs.Tryz.prog 53 n_R1_AtomOrder r_R1_AtomOrder c_R1_AtomOrder = true := by kernel_rfl
theorem f_R1_AtomOrder (a b : At) (ha : AtOk a) (hb : AtOk b) : Fc Go.Proofs.Tryz.prog 53 [atV a, atV b] (.int .i64 (atomOrd a b)) := by
  have hal := ha.len
  have hbl := hb.len
  by_cases hp : a.pred = b.pred
  · unfold atomOrd
    rw [if_pos hp]
    have hS := f_R1_Sign a.args.length b.args.length
    refine Fn.step mixed k_R1_AtomOrder ?_
    repeat' (first | refine i_s rfl ?_ | refine sw ?_ | refine i_box rfl rfl ?_ | refine c_cond rfl (fun h => ?_) (fun h => ?_))
    all_goals first
      | (exfalso; simp_all; done)
      | skip
    refine c_for (min a.args.length b.args.length) (fun k => [(2, .bptr 3392130 0), (3, .bptr 3392194 0), (5, .int .i64 k)]) (fun _ => [(3392130, .box (atV a)), (3392194, .box (atV b))]) (fun k => a.args.take k = b.args.take k) (by simp) ft fun k hk hi => ?_
    by_cases hlt : k < a.args.length ∧ k < b.args.length
    · obtain ⟨x, hx⟩ := get_some hlt.1
      obtain ⟨y, hy⟩ := get_some hlt.2
      obtain ⟨hl1, hl2⟩ := hlt
      by_cases hxy : x = y
      · clear hS
        repeat' (first | refine i_len rfl ?_ | refine i_s rfl ?_ | refine sw ?_ | refine i_gt rfl ?_ | refine i_gf rfl ?_ | refine c_f rfl ?_ | refine ja rfl rfl ?_ | refine jd rfl rfl ?_ | (refine sp ?_ ?_ <;> try intro h) | fail)
        all_goals first
          | (exact e_for (by omega) (by rw [take_succ_get hx, take_succ_get hy, hi, hxy]) ft)
          | (exfalso; simp at *; omega)
      · rw [cmpL_at hi hx hy hxy]
        have hS2 := f_R1_Sign x y
        repeat' (first | refine i_len rfl ?_ | refine i_s rfl ?_ | refine sw ?_ | refine i_gt rfl ?_ | refine i_gf rfl ?_ | refine c_f rfl ?_ | refine ja rfl rfl ?_ | refine jd rfl rfl ?_ | (refine sp ?_ ?_ <;> try intro h) | refine sf rfl rfl hS2 ?_ | fail)
        all_goals first
          | exact e_ret ⟨rfl, _, rfl, rfl⟩
          | (exfalso; clear hS hS2; simp at *; omega)
    · rw [cmpL_end hi (by omega) (by omega) (by omega)]
      repeat' (first | refine i_len rfl ?_ | refine i_s rfl ?_ | refine sw ?_ | refine i_gt rfl ?_ | refine i_gf rfl ?_ | refine c_f rfl ?_ | (refine sp ?_ ?_ <;> try intro h) | refine sf rfl rfl hS ?_ | fail)
      all_goals first
        | exact e_ret ⟨rfl, _, rfl, rfl⟩
        | (exfalso; clear hS; simp at *; omega)
  · unfold atomOrd
    rw [if_neg hp]
    have hS := f_R1_Sign a.pred b.pred
    refine Fn.step mixed k_R1_AtomOrder ?_
    repeat' (first | refine i_s rfl ?_ | refine sw ?_ | refine i_box rfl rfl ?_ | refine c_cond rfl (fun h => ?_) (fun h => ?_) | refine sf rfl rfl hS ?_ | fail)
    all_goals first
      | exact e_ret ⟨rfl, _, rfl, rfl⟩
      | (exfalso; clear hS; simp_all; done)
def c_R1_SameAtom : Cmd :=
 (qS [qx 2 2048130 2 0, qx 3 2048194 2 1, qb 4 false]
 (.seq (.ops [qL 5 2 2, qL 6 2 3, qk 7 53 [5, 6], qv 8 .eql [.i] 7 0, qm 4 8]) .ret))
def r_R1_SameAtom : List RVar := [.tmp 4]
def n_R1_SameAtom : Nat := 9
theorem k_R1_SameAtom : chkFn Go.Proofs.Tryz.prog 32 n_R1_SameAtom r_R1_SameAtom c_R1_SameAtom = true := by kernel_rfl
theorem f_R1_SameAtom (a b : At) (ha : AtOk a) (hb : AtOk b) : Fc Go.Proofs.Tryz.prog 32 [atV a, atV b] (.bool (decide (a = b))) := by
  have h := f_R1_AtomOrder a b ha hb
  refine Fn.step mixed k_R1_SameAtom ?_
  repeat' (first | refine i_s rfl ?_ | refine sw ?_ | refine i_box rfl rfl ?_ | refine sf rfl rfl h ?_ | fail)
  refine e_ret ⟨rfl, _, rfl, congrArg V.bool ?_⟩
  by_cases e : a = b
  · rw [atomOrd_zero.2 e, decide_eq_true e]; rfl
  · have : atomOrd a b ≠ 0 := fun h => e (atomOrd_zero.1 h)
    rw [decide_eq_false e]
    simpa using this
def c_R1_HasAtom : Cmd :=
 (qS [qx 3 4288194 2 1, qb 4 false]
 (qT (qS [qc 5 0]
 (.block 0 (.loop (qT (qS [qm 6 5, qm 7 0, qn 8 7, qu 9 .lss [] 6 8]
 (.cond (.t 9) .skip (.exit 0)))
 (qT (.block 1 (qS [qm 12 0, qm 13 5, qi 14 2 12 13, qL 15 2 14, qL 16 2 3, qk 17 32 [15, 16]]
 (.cond (.t 17) (.seq (.ops [qb 4 true]) .ret) .skip)))
 (.ops [qm 10 5, qv 11 .add [] 10 1, qm 5 11]))))))
 (.seq (.ops [qb 4 false]) .ret)))
def r_R1_HasAtom : List RVar := [.tmp 4]
def n_R1_HasAtom : Nat := 18
theorem k_R1_HasAtom : chkFn Go.Proofs.Tryz.prog 67 n_R1_HasAtom r_R1_HasAtom c_R1_HasAtom = true := by kernel_rfl
theorem f_R1_HasAtom (l : List At) (a : At) (hl : l.length ≤ 140737488355328) (ho : ∀ x ∈ l, AtOk x) (ha : AtOk a) : Fc Go.Proofs.Tryz.prog 67 [.sl .p (l.map atV), atV a] (.bool (decide (a ∈ l))) := by
  refine Fn.step mixed k_R1_HasAtom ?_
  repeat' (first | refine i_s rfl ?_ | refine sw ?_ | refine i_box rfl rfl ?_)
  refine c_for l.length (fun k => [(0, .sl .p (l.map atV)), (3, .bptr 4288194 0), (5, .int .i64 k)]) (fun _ => [(4288194, .box (atV a))]) (fun k => a ∉ l.take k) (by simp) ft fun k hk hi => ?_
  by_cases hlt : k < l.length
  · obtain ⟨x, hx⟩ := get_some hlt
    have hS := f_R1_SameAtom x a (ho x (mem_get hx)) ha
    by_cases e : x = a
    · rw [decide_eq_true (e ▸ mem_get hx : a ∈ l)]
      rw [decide_eq_true e] at hS
      repeat' (first | refine i_len rfl ?_ | refine i_s rfl ?_ | refine sw ?_ | refine c_t rfl ?_ | refine jd rfl rfl ?_ | refine c_cond rfl (fun h => ?_) (fun h => ?_) | refine sf rfl rfl hS ?_ | fail)
      all_goals first
        | exact e_ret ⟨rfl, _, rfl, rfl⟩
        | (exfalso; clear hS; simp at *; omega)
    · rw [decide_eq_false e] at hS
      repeat' (first | refine i_len rfl ?_ | refine i_s rfl ?_ | refine sw ?_ | refine c_f rfl ?_ | refine ja rfl rfl ?_ | refine jd rfl rfl ?_ | refine c_cond rfl (fun h => ?_) (fun h => ?_) | refine sf rfl rfl hS ?_ | fail)
      all_goals first
        | (exact e_for hlt (by rw [take_succ_get hx]; simp only [List.mem_append, List.mem_singleton, not_or]; exact ⟨hi, fun h => e h.symm⟩) ft)
        | (exfalso; clear hS; simp at *; omega)
  · rw [List.take_of_length_le (by omega)] at hi
    rw [decide_eq_false hi]
    repeat' (first | refine i_len rfl ?_ | refine i_s rfl ?_ | refine sw ?_ | refine c_cond rfl (fun h => ?_) (fun h => ?_))
    all_goals first
      | exact e_ret ⟨rfl, _, rfl, rfl⟩
      | (exfalso; simp at *; omega)
def c_R1_Copy : Cmd :=
 (qS [qq 2 (.mov (.c (.sl .nil [])))]
 (qS [qq 3 (.newArr 7744193)]
 (.seq (.ops [qm 4 3, qm 5 0, qq 6 (.append 1 8 3 (.t 4) (.t 5)), qm 2 6]) .ret)))
def r_R1_Copy : List RVar := [.tmp 2]
def n_R1_Copy : Nat := 7
theorem k_R1_Copy : chkFn Go.Proofs.Tryz.prog 121 n_R1_Copy r_R1_Copy c_R1_Copy = true := by kernel_rfl
theorem c_R1_Copy_ct {G : Type} {H : HT G} (s : List Int) (hl : s.length ≤ 17592186044416) (σ : Store) (g : G) (h1 : σ 7744193 = .unused) (hp : ∀ nm, σ nm ≠ .unused → nm ∈ [7744193]) :
    Cc Go.Proofs.Tryz.prog H 121 [.sl .p (s.map i64V)] [7744193] σ g fun r σ' g' => (∃ gen, r = .msl 7744193 gen 0 s.length ∧ σ' = stOf [(7744193, .arr gen (s.map i64V))]) ∧ g' = g := by
  refine CT.step _ mixed k_R1_Copy hp fun hM => ?_
  repeat (first | refine i_s rfl ?_ | refine sw ?_)
  refine i_na h1 ?_
  repeat (first | refine i_s rfl ?_ | refine sw ?_)
  refine i_appm rfl rfl rfl rfl rfl (fun row hrow => ?_) (by simp; omega) (by simp; omega) ?_
  · obtain ⟨n, _, rfl⟩ := List.mem_map.1 hrow
    exact ⟨rfl, rfl⟩
  repeat (first | refine i_s rfl ?_ | refine sw ?_)
  refine e_ret ⟨rfl, _, rfl, rfl, rfl, ⟨1, ?_, ?_⟩, rfl⟩
  · show V.msl _ _ _ _ = V.msl _ _ _ _
    simp
  · rw [restr_stOf]; rfl
def c_R2_more : Cmd :=
 (qS [qq 4 (.mov (.c (.sl .nil [])))]
 (.seq (.ops [qm 5 0, qq 6 (.call (.s [7744193]) (.c (.fn 121 [])) [.t 5]), qm 7 1, qq 8 (.bsl 1 [.t 7]), qq 9 (.append 1 8 3 (.t 6) (.t 8)), qm 4 9]) .ret))
def r_R2_more : List RVar := [.tmp 4]
def n_R2_more : Nat := 10
theorem k_R2_more : chkFn Go.Proofs.Tryz.prog 80 n_R2_more r_R2_more c_R2_more = true := by kernel_rfl
theorem f_R2_more (l : List Int) (hl : l.length ≤ 10000000) (n : Int) : Fc Go.Proofs.Tryz.prog 80 [.sl .p (l.map i64V), .int .i64 n] (.sl .p ((l ++ [n]).map i64V)) := by
  refine Fn.step mixed k_R2_more ?_
  repeat' (first | refine i_s rfl ?_ | refine sw ?_ | fail)
  all_goals
    try refine i_c rfl rfl rfl (c_R1_Copy_ct l (by omega) _ _ rfl fun nm h => restr_mem nm h) ?_
    rintro _ _ _ ⟨⟨gen, rfl, rfl⟩, rfl⟩
    repeat refine i_s rfl ?_
    refine i_appmM [n] rfl rfl rfl rfl rfl (fun c hc => ⟨rfl, rfl⟩) (by simp only [List.length_singleton]; omega) (by simp only [List.length_singleton]; omega) ?_
    repeat (first | refine i_s rfl ?_ | refine sw ?_)
    exact e_ret ⟨rfl, _, rfl, ((er_msl (i := 0) (len := (l ++ [n]).length) (n := 5) rfl).trans (msl_all rfl)).symm⟩
def c_R1_SameAtoms : Cmd :=
 (qS [qb 4 false]
 (qT (qS [qm 6 0, qn 7 6, qm 8 1, qn 9 8, qu 10 .neq [.i] 7 9]
 (.cond (.t 10) (.seq (.ops [qb 4 false]) .ret) .skip))
 (qT (qS [qc 5 0]
 (.block 0 (.loop (qT (qS [qm 11 5, qm 12 0, qn 13 12, qu 14 .lss [] 11 13]
 (.cond (.t 14) .skip (.exit 0)))
 (qT (.block 1 (qS [qm 17 0, qm 18 5, qi 19 2 17 18, qL 20 2 19, qm 21 1, qm 22 5, qi 23 2 21 22, qL 24 2 23, qk 25 32 [20, 24], qq 26 (.not (.t 25))]
 (.cond (.t 26) (.seq (.ops [qb 4 false]) .ret) .skip)))
 (.ops [qm 15 5, qv 16 .add [] 15 1, qm 5 16]))))))
 (.seq (.ops [qb 4 true]) .ret))))
def r_R1_SameAtoms : List RVar := [.tmp 4]
def n_R1_SameAtoms : Nat := 27
theorem k_R1_SameAtoms : chkFn Go.Proofs.Tryz.prog 11 n_R1_SameAtoms r_R1_SameAtoms c_R1_SameAtoms = true := by kernel_rfl
theorem f_R1_SameAtoms (a b : List At) (hla : a.length ≤ 100000000) (hlb : b.length ≤ 100000000) (ha : ∀ x ∈ a, AtOk x) (hb : ∀ x ∈ b, AtOk x) : Fc Go.Proofs.Tryz.prog 11 [.sl .p (a.map atV), .sl .p (b.map atV)] (.bool (decide (a = b))) := by
  by_cases hlen : a.length = b.length
  · refine Fn.step mixed k_R1_SameAtoms ?_
    repeat' (first | refine i_len rfl ?_ | refine i_s rfl ?_ | refine sw ?_ | refine c_cond rfl (fun h => ?_) (fun h => ?_))
    all_goals first
      | (exfalso; simp at *; omega)
      | skip
    refine c_for a.length (fun i => [(0, .sl .p (a.map atV)), (1, .sl .p (b.map atV)), (5, .int .i64 i)]) (fun _ => []) (fun i => a.take i = b.take i) rfl ft fun i hi hall => ?_
    by_cases hlt : i < a.length
    · obtain ⟨x, hx⟩ := get_some hlt
      obtain ⟨y, hy⟩ := get_some (l := b) (k := i) (by omega)
      have hlt2 : i < b.length := by omega
      have hS := f_R1_SameAtom x y (ha x (mem_get hx)) (hb y (mem_get hy))
      by_cases hxy : x = y
      · subst hxy
        rw [decide_eq_true (show x = x from rfl)] at hS
        repeat' (first | refine i_len rfl ?_ | refine i_s rfl ?_ | refine sw ?_ | refine c_f rfl ?_ | refine ja rfl rfl ?_ | refine jd rfl rfl ?_ | refine c_cond rfl (fun h => ?_) (fun h => ?_) | refine sf rfl rfl hS ?_ | fail)
        all_goals first
          | (exact e_for hlt (by rw [take_succ_get hx, take_succ_get hy, hall]) ft)
          | (exfalso; clear hS hall; simp at *; done)
          | (exfalso; clear hS hall; simp at *; omega)
      · have hne : a ≠ b := fun e => by rw [e, hy] at hx; exact hxy (Option.some.inj hx).symm
        rw [decide_eq_false hne]
        rw [decide_eq_false hxy] at hS
        repeat' (first | refine i_len rfl ?_ | refine i_s rfl ?_ | refine sw ?_ | refine c_t rfl ?_ | refine jd rfl rfl ?_ | refine c_cond rfl (fun h => ?_) (fun h => ?_) | refine sf rfl rfl hS ?_ | fail)
        all_goals first
          | exact e_ret ⟨rfl, _, rfl, rfl⟩
          | (exfalso; clear hS hall; simp_all; done)
          | (exfalso; clear hS hall; simp at *; omega)
    · have hge : i = a.length := by omega
      subst hge
      have : a = b := by rwa [List.take_length, hlen, List.take_length] at hall
      rw [decide_eq_true this]
      repeat' (first | refine i_len rfl ?_ | refine i_s rfl ?_ | refine sw ?_ | refine c_cond rfl (fun h => ?_) (fun h => ?_))
      all_goals first
        | exact e_ret ⟨rfl, _, rfl, rfl⟩
        | (exfalso; simp at *; done)
        | (exfalso; simp at *; omega)
  · have : a ≠ b := fun e => hlen (by rw [e])
    rw [decide_eq_false this]
    refine Fn.step mixed k_R1_SameAtoms ?_
    repeat' (first | refine i_len rfl ?_ | refine i_s rfl ?_ | refine sw ?_ | refine c_cond rfl (fun h => ?_) (fun h => ?_))
    all_goals first
      | exact e_ret ⟨rfl, _, rfl, rfl⟩
      | (exfalso; simp at *; done)
      | (exfalso; simp at *; omega)
end Hm
end
section
namespace Hm
open Go
set_option maxRecDepth 100000
set_option maxHeartbeats 1000000
theorem u8le (c : UInt8) : c.toNat ≤ 255 := by have := c.toNat_lt; omega
def c_R1_Name : Cmd :=
 (qS [qb 2 false]
 (qT (qS [qc 3 0]
 (.block 0 (.loop (qT (qS [qm 5 3, qm 6 0, qq 7 (.len true (.t 6)), qu 8 .lss [] 5 7]
 (.cond (.t 8) .skip (.exit 0)))
 (qT (.block 1 (qS [qm 11 0, qm 12 3, qq 13 (.index (.t 11) (.t 12)), qq 14 (.conv .i64 (.t 13)), qm 4 14]
 (qS [qm 15 4, qq 16 (.call .f (.c (.fn 59 [])) [.t 15, .c (.int .i64 97), .c (.int .i64 122)]), qq 17 (.not (.t 16)), qm 18 17, qg 19 18 true (.mov (.t 3)), qg 20 18 true (.bin .eql false [.i] (.t 19) (.c (.int .i64 0))), qg 21 18 true (.mov (.t 20)), qg 22 21 false (.mov (.t 4)), qg 23 21 false (.call .f (.c (.fn 59 [])) [.t 22, .c (.int .i64 48), .c (.int .i64 57)]), qg 24 21 false (.not (.t 23)), qg 25 21 false (.mov (.t 24)), qg 26 25 true (.mov (.t 4)), qg 27 25 true (.bin .neq false [.i] (.t 26) (.c (.int .i64 45))), qg 28 21 false (.pick (.t 25) (.t 27) (.c (.bool false))), qg 29 18 true (.pick (.t 21) (.c (.bool true)) (.t 28)), qq 30 (.pick (.t 18) (.t 29) (.c (.bool false)))]
 (.cond (.t 30) (.seq (.ops [qb 2 false]) .ret) .skip))))
 (.ops [qm 9 3, qv 10 .add [] 9 1, qm 3 10]))))))
 (.seq (.ops [qm 31 0, qq 32 (.len true (.t 31)), qq 33 (.call .f (.c (.fn 59 [])) [.t 32, .c (.int .i64 1), .c (.int .i64 12)]), qm 2 33]) .ret)))
def r_R1_Name : List RVar := [.tmp 2]
def n_R1_Name : Nat := 34
theorem k_R1_Name : chkFn Go.Proofs.Tryz.prog 63 n_R1_Name r_R1_Name c_R1_Name = true := by kernel_rfl
theorem f_R1_Name (s : List UInt8) (hl : s.length ≤ 140737488355328) : Fc Go.Proofs.Tryz.prog 63 [.str s] (.bool (nameB s)) := by
  refine Fn.step mixed k_R1_Name ?_
  repeat (first | refine i_s rfl ?_ | refine sw ?_)
  refine c_for s.length (fun k => [(0, .str s), (3, .int .i64 k)]) (fun _ => []) (fun k => ∀ j, j < k → ∀ c, s[j]? = some c → nameAt j c = true) all_zero ft fun k hk hi => ?_
  repeat (first | refine i_s rfl ?_ | refine sw ?_)
  refine c_cond rfl (fun h => ?_) (fun h => ?_)
  · have hlt : k < s.length := by simpa using h
    obtain ⟨c, hc⟩ := get_some hlt
    have hb := u8le c
    have next : nameAt k c = true → ∀ j, j < k + 1 → ∀ c, s[j]? = some c → nameAt j c = true := fun hn => all_succ hi fun c' hc' => by
      rw [hc] at hc'; injection hc' with hc'; rw [← hc']; exact hn
    have bad : nameAt k c = false → V.bool (nameB s) = V.bool false := fun hn => by simp [nameB, namesFrom_false hc hn]
    clear hi h
    repeat' (first | refine i_s rfl ?_ | refine sw ?_ | refine i_gt rfl ?_ | refine i_gf rfl ?_ | refine i_gd rfl ?_ | refine c_t rfl ?_ | refine c_f rfl ?_ | refine jc rfl ?_ | refine ja rfl rfl ?_ | refine jf rfl rfl ?_ | (refine sp ?_ ?_ <;> try intro h) | refine sf rfl rfl (f_R1_In _ _ _) ?_ | fail)
    all_goals first
      | refine e_for hlt (next (by simp [nameAt] at *; omega)) ft
      | refine e_ret ⟨rfl, _, rfl, bad (by simp [nameAt] at *; omega)⟩
  · have hge : ¬ k < s.length := by simpa using h
    have hall := namesFrom_take s k hi (by omega)
    clear hi
    repeat (first | refine i_s rfl ?_ | refine sw ?_ | refine sf rfl rfl (f_R1_In _ _ _) ?_)
    refine e_ret ⟨rfl, _, rfl, congrArg V.bool ?_⟩
    simp only [nameB, hall, Bool.true_and]
    congr 1 <;> exact decide_eq_decide.2 (by omega)
def c_R1_TypesFault : Cmd :=
 (qS [qq 2 (.alloc 3904130 (.agg [.int .i64 0, .int .i64 0]))]
 (qT (qS [qm 5 0, qn 6 5, qv 7 .gtr [] 6 8]
 (.cond (.t 7) (.seq (.ops [qq 8 (.call .f (.c (.fn 27 [])) [.c (.int .i64 2), .c (.int .i64 (-1))]), qs 2 2 8]) .ret) .skip))
 (qT (qS [qc 3 0]
 (.block 0 (.loop (qT (qS [qm 9 3, qm 10 0, qn 11 10, qu 12 .lss [] 9 11]
 (.cond (.t 12) .skip (.exit 0)))
 (qT (.block 1 (qT (qS [qm 15 0, qm 16 3, qi 17 2 15 16, qf 18 0 17, ql 19 1 18, qk 20 63 [19], qq 21 (.not (.t 20)), qm 22 21, qg 23 22 false (.mov (.t 0)), qg 24 22 false (.mov (.t 3)), qg 25 22 false (.iaddr 2 (.t 23) (.t 24)), qg 26 22 false (.faddr 0 (.t 25)), qg 27 22 false (.load false 1 (.t 26)), qg 28 22 false (.bin .eql false [.s] (.t 27) (.c (.str [111, 98, 106, 101, 99, 116]))), qq 29 (.pick (.t 22) (.c (.bool true)) (.t 28))]
 (.cond (.t 29) (.seq (.ops [qm 30 3, qq 31 (.call .f (.c (.fn 27 [])) [.c (.int .i64 12), .t 30]), qs 2 2 31]) .ret) .skip))
 (qT (qS [qc 4 0]
 (.block 2 (.loop (qT (qS [qm 32 4, qm 33 3, qu 34 .lss [] 32 33]
 (.cond (.t 34) .skip (.exit 2)))
 (qT (.block 3 (qS [qm 37 0, qm 38 4, qi 39 2 37 38, qf 40 0 39, ql 41 1 40, qm 42 0, qm 43 3, qi 44 2 42 43, qf 45 0 44, ql 46 1 45, qu 47 .eql [.s] 41 46]
 (.cond (.t 47) (.seq (.ops [qm 48 3, qq 49 (.call .f (.c (.fn 27 [])) [.c (.int .i64 7), .t 48]), qs 2 2 49]) .ret) .skip)))
 (.ops [qm 35 4, qv 36 .add [] 35 1, qm 4 36]))))))
 (qS [qm 50 0, qm 51 3, qi 52 2 50 51, qf 53 1 52, ql 54 1 53, qm 55 3, qv 56 .sub [] 55 1, qq 57 (.call .f (.c (.fn 59 [])) [.t 54, .c (.int .i64 (-1)), .t 56]), qq 58 (.not (.t 57))]
 (.cond (.t 58) (.seq (.ops [qm 59 3, qq 60 (.call .f (.c (.fn 27 [])) [.c (.int .i64 3), .t 59]), qs 2 2 60]) .ret) .skip)))))
 (.ops [qm 13 3, qv 14 .add [] 13 1, qm 3 14]))))))
 (.seq (.ops [qq 61 (.build [.int .i64 0, .int .i64 0] []), qs 2 2 61]) .ret))))
def r_R1_TypesFault : List RVar := [.cell true 2 2]
def n_R1_TypesFault : Nat := 62
theorem k_R1_TypesFault : chkFn Go.Proofs.Tryz.prog 61 n_R1_TypesFault r_R1_TypesFault c_R1_TypesFault = true := by kernel_rfl
theorem f_R1_TypesFault (l : List Typ) (ho : TyOk l) : Fc Go.Proofs.Tryz.prog 61 [.sl .p (l.map tyV)] (ftV (typesFault l)) := by
  obtain ⟨hl, hn⟩ := ho
  refine Fn.step mixed k_R1_TypesFault ?_
  repeat' (first | refine i_len rfl ?_ | refine i_s rfl ?_ | refine sw ?_ | refine i_stb rfl ?_ | refine i_alloc rfl ?_ | refine c_cond rfl (fun h => ?_) (fun h => ?_) | refine sf rfl rfl (f_R1_At _ _) ?_ | fail)
  · exact e_ret ⟨rfl, _, rfl, congr_ft (typesFault_big (by have := of_decide_eq_true h; simp at this; omega))⟩
  have h8 : ¬ 8 < l.length := by have := of_decide_eq_false h; simp at this; omega
  clear h
  refine c_for l.length (fun k => [(0, .sl .p (l.map tyV)), (2, .bptr 3904130 0), (3, .int .i64 k)]) (fun _ => [(3904130, .box (ftV okF))]) (fun k => ∀ j, j < k → tyBad l j = none) all_zero ft fun k hk hi => ?_
  repeat (first | refine i_len rfl ?_ | refine i_s rfl ?_ | refine sw ?_)
  refine c_cond rfl (fun h => ?_) (fun h => ?_)
  · have hlt : k < l.length := by simpa using h
    obtain ⟨t, ht⟩ := get_some hlt
    have hnt := hn t (mem_get ht)
    have hbad : tyBad l k = if nameB t.name = false ∨ t.name = objectS then some ⟨12, k⟩ else if (l.take k).any (fun u => u.name == t.name) = true then some ⟨7, k⟩
      else if t.parent < -1 ∨ t.parent ≥ k then some ⟨3, k⟩ else none := by simp [tyBad, ht]
    clear h
    repeat' (first | refine i_s rfl ?_ | refine sw ?_ | refine i_gt rfl ?_ | refine i_gf rfl ?_ | refine c_t rfl ?_ | refine jd rfl rfl ?_ | refine i_stb rfl ?_ | (refine sp ?_ ?_ <;> try intro h) | refine sf rfl rfl (f_R1_Name _ hnt) ?_ | refine sf rfl rfl (f_R1_At _ _) ?_ | fail)
    · refine e_ret ⟨rfl, _, rfl, congr_ft (typesFault_hit h8 hi hlt ?_)⟩
      rw [hbad]; clear hbad; grind [objectS]
    · refine c_for k (fun j => [(0, .sl .p (l.map tyV)), (2, .bptr 3904130 0), (3, .int .i64 k), (4, .int .i64 j)]) (fun _ => [(3904130, .box (ftV okF))]) (fun j => ∀ i, i < j → ∀ u, l[i]? = some u → (u.name == t.name) = false) all_zero ft fun j hj hij => ?_
      repeat (first | refine i_s rfl ?_ | refine sw ?_)
      refine c_cond rfl (fun h2 => ?_) (fun h2 => ?_)
      · have hjk : j < k := by simpa using h2
        obtain ⟨u, hu⟩ := get_some (Nat.lt_trans hjk hlt)
        repeat' (first | refine i_s rfl ?_ | refine sw ?_ | refine ja rfl rfl ?_ | refine jd rfl rfl ?_ | refine i_stb rfl ?_ | refine c_cond rfl (fun h => ?_) (fun h => ?_) | refine sf rfl rfl (f_R1_At _ _) ?_ | fail)
        · refine e_ret ⟨rfl, _, rfl, congr_ft (typesFault_hit h8 hi hlt ?_)⟩
          have := any_take_hit (p := fun u => u.name == t.name) hjk hu h
          rw [hbad]; clear hbad; grind [objectS]
        · exact e_for hjk (all_succ hij fun v hv => by rw [hu] at hv; cases hv; exact h) ft
      · have hge : ¬ j < k := by simpa using h2
        have hany : (l.take k).any (fun u => u.name == t.name) = false := any_take_none fun i hik => hij i (by omega)
        clear h2 hij
        repeat' (first | refine i_s rfl ?_ | refine sw ?_ | refine ja rfl rfl ?_ | refine jb rfl rfl ?_ | refine jd rfl rfl ?_ | refine i_stb rfl ?_ | refine c_cond rfl (fun h => ?_) (fun h => ?_) | refine sf rfl rfl (f_R1_In _ _ _) ?_ | refine sf rfl rfl (f_R1_At _ _) ?_ | fail)
        · refine e_ret ⟨rfl, _, rfl, congr_ft (typesFault_hit h8 hi hlt ?_)⟩
          rw [hbad]; clear hbad; grind [objectS]
        · refine e_for hlt (all_succ hi ?_) ft
          rw [hbad]; clear hbad; grind [objectS]
    · refine e_ret ⟨rfl, _, rfl, congr_ft (typesFault_hit h8 hi hlt ?_)⟩
      rw [hbad]; clear hbad; grind [objectS]
  · have hge : ¬ k < l.length := by simpa using h
    repeat' (first | refine i_s rfl ?_ | refine sw ?_ | refine i_stb rfl ?_)
    exact e_ret ⟨rfl, _, rfl, congr_ft (typesFault_ok h8 fun j hj => hi j (by omega))⟩
def c_R1_ObjectsFault : Cmd :=
 (qS [qq 4 (.alloc 3968258 (.agg [.int .i64 0, .int .i64 0]))]
 (qT (qS [qm 7 1, qn 8 7, qv 9 .gtr [] 8 8]
 (.cond (.t 9) (.seq (.ops [qq 10 (.call .f (.c (.fn 27 [])) [.c (.int .i64 2), .c (.int .i64 (-3))]), qs 2 4 10]) .ret) .skip))
 (qT (qS [qc 5 0]
 (.block 0 (.loop (qT (qS [qm 11 5, qm 12 1, qn 13 12, qu 14 .lss [] 11 13]
 (.cond (.t 14) .skip (.exit 0)))
 (qT (.block 1 (qT (qS [qm 17 1, qm 18 5, qi 19 2 17 18, qf 20 0 19, ql 21 1 20, qk 22 63 [21], qq 23 (.not (.t 22))]
 (.cond (.t 23) (.seq (.ops [qm 24 5, qq 25 (.bin .sub false [] (.c (.int .i64 (-10))) (.t 24)), qq 26 (.call .f (.c (.fn 27 [])) [.c (.int .i64 12), .t 25]), qs 2 4 26]) .ret) .skip))
 (qT (qS [qc 6 0]
 (.block 2 (.loop (qT (qS [qm 27 6, qm 28 5, qu 29 .lss [] 27 28]
 (.cond (.t 29) .skip (.exit 2)))
 (qT (.block 3 (qS [qm 32 1, qm 33 6, qi 34 2 32 33, qf 35 0 34, ql 36 1 35, qm 37 1, qm 38 5, qi 39 2 37 38, qf 40 0 39, ql 41 1 40, qu 42 .eql [.s] 36 41]
 (.cond (.t 42) (.seq (.ops [qm 43 5, qq 44 (.bin .sub false [] (.c (.int .i64 (-10))) (.t 43)), qq 45 (.call .f (.c (.fn 27 [])) [.c (.int .i64 7), .t 44]), qs 2 4 45]) .ret) .skip)))
 (.ops [qm 30 6, qv 31 .add [] 30 1, qm 6 31]))))))
 (qS [qm 46 1, qm 47 5, qi 48 2 46 47, qf 49 1 48, ql 50 1 49, qm 51 0, qn 52 51, qv 53 .sub [] 52 1, qq 54 (.call .f (.c (.fn 59 [])) [.t 50, .c (.int .i64 (-1)), .t 53]), qq 55 (.not (.t 54))]
 (.cond (.t 55) (.seq (.ops [qm 56 5, qq 57 (.bin .sub false [] (.c (.int .i64 (-10))) (.t 56)), qq 58 (.call .f (.c (.fn 27 [])) [.c (.int .i64 3), .t 57]), qs 2 4 58]) .ret) .skip)))))
 (.ops [qm 15 5, qv 16 .add [] 15 1, qm 5 16]))))))
 (.seq (.ops [qq 59 (.build [.int .i64 0, .int .i64 0] []), qs 2 4 59]) .ret))))
def r_R1_ObjectsFault : List RVar := [.cell true 2 4]
def n_R1_ObjectsFault : Nat := 60
theorem k_R1_ObjectsFault : chkFn Go.Proofs.Tryz.prog 62 n_R1_ObjectsFault r_R1_ObjectsFault c_R1_ObjectsFault = true := by kernel_rfl
theorem f_R1_ObjectsFault (ts : List Typ) (hts : ts.length ≤ 140737488355328) (l : List Obj) (ho : ObOk l) : Fc Go.Proofs.Tryz.prog 62 [.sl .p (ts.map tyV), .sl .p (l.map obV)] (ftV (objectsFault ts.length l)) := by
  obtain ⟨hl, hn⟩ := ho
  refine Fn.step mixed k_R1_ObjectsFault ?_
  repeat' (first | refine i_len rfl ?_ | refine i_s rfl ?_ | refine sw ?_ | refine i_stb rfl ?_ | refine i_alloc rfl ?_ | refine c_cond rfl (fun h => ?_) (fun h => ?_) | refine sf rfl rfl (f_R1_At _ _) ?_ | fail)
  · exact e_ret ⟨rfl, _, rfl, congr_ft (objectsFault_big (by have := of_decide_eq_true h; simp at this; omega))⟩
  have h8 : ¬ 8 < l.length := by have := of_decide_eq_false h; simp at this; omega
  clear h
  refine c_for l.length (fun k => [(0, .sl .p (ts.map tyV)), (1, .sl .p (l.map obV)), (4, .bptr 3968258 0), (5, .int .i64 k)]) (fun _ => [(3968258, .box (ftV okF))]) (fun k => ∀ j, j < k → obBad ts.length l j = none) all_zero ft fun k hk hi => ?_
  repeat (first | refine i_len rfl ?_ | refine i_s rfl ?_ | refine sw ?_)
  refine c_cond rfl (fun h => ?_) (fun h => ?_)
  · have hlt : k < l.length := by simpa using h
    obtain ⟨t, ht⟩ := get_some hlt
    have hnt := hn t (mem_get ht)
    have hbad : obBad ts.length l k = if nameB t.name = false then some ⟨12, -10 - k⟩ else if (l.take k).any (fun u => u.name == t.name) = true then some ⟨7, -10 - k⟩
      else if t.type < -1 ∨ t.type ≥ ts.length then some ⟨3, -10 - k⟩ else none := by simp [obBad, ht]
    clear h
    repeat' (first | refine i_s rfl ?_ | refine sw ?_ | refine jb rfl rfl ?_ | refine jd rfl rfl ?_ | refine i_stb rfl ?_ | refine c_cond rfl (fun h => ?_) (fun h => ?_) | refine sf rfl rfl (f_R1_Name _ hnt) ?_ | refine sf rfl rfl (f_R1_At _ _) ?_ | fail)
    · refine e_ret ⟨rfl, _, rfl, congr_ft (objectsFault_hit h8 hi hlt ?_)⟩
      rw [hbad]; clear hbad; grind
    · refine c_for k (fun j => [(0, .sl .p (ts.map tyV)), (1, .sl .p (l.map obV)), (4, .bptr 3968258 0), (5, .int .i64 k), (6, .int .i64 j)]) (fun _ => [(3968258, .box (ftV okF))]) (fun j => ∀ i, i < j → ∀ u, l[i]? = some u → (u.name == t.name) = false) all_zero ft fun j hj hij => ?_
      repeat (first | refine i_s rfl ?_ | refine sw ?_)
      refine c_cond rfl (fun h2 => ?_) (fun h2 => ?_)
      · have hjk : j < k := by simpa using h2
        obtain ⟨u, hu⟩ := get_some (Nat.lt_trans hjk hlt)
        repeat' (first | refine i_s rfl ?_ | refine sw ?_ | refine ja rfl rfl ?_ | refine jb rfl rfl ?_ | refine jd rfl rfl ?_ | refine i_stb rfl ?_ | refine c_cond rfl (fun h => ?_) (fun h => ?_) | refine sf rfl rfl (f_R1_At _ _) ?_ | fail)
        · refine e_ret ⟨rfl, _, rfl, congr_ft (objectsFault_hit h8 hi hlt ?_)⟩
          have := any_take_hit (p := fun u => u.name == t.name) hjk hu h
          rw [hbad]; clear hbad; grind
        · exact e_for hjk (all_succ hij fun v hv => by rw [hu] at hv; cases hv; exact h) ft
      · have hge : ¬ j < k := by simpa using h2
        have hany : (l.take k).any (fun u => u.name == t.name) = false := any_take_none fun i hik => hij i (by omega)
        clear h2 hij
        repeat' (first | refine i_len rfl ?_ | refine i_s rfl ?_ | refine sw ?_ | refine ja rfl rfl ?_ | refine jb rfl rfl ?_ | refine jd rfl rfl ?_ | refine i_stb rfl ?_ | refine c_cond rfl (fun h => ?_) (fun h => ?_) | refine sf rfl rfl (f_R1_In _ _ _) ?_ | refine sf rfl rfl (f_R1_At _ _) ?_ | fail)
        · refine e_ret ⟨rfl, _, rfl, congr_ft (objectsFault_hit h8 hi hlt ?_)⟩
          rw [hbad]; clear hbad; (try simp only [List.length_map] at h); grind
        · refine e_for hlt (all_succ hi ?_) ft
          rw [hbad]; clear hbad; (try simp only [List.length_map] at h); grind
  · have hge : ¬ k < l.length := by simpa using h
    repeat' (first | refine i_s rfl ?_ | refine sw ?_ | refine i_stb rfl ?_)
    exact e_ret ⟨rfl, _, rfl, congr_ft (objectsFault_ok h8 fun j hj => hi j (by omega))⟩
theorem i64_rows (l : List Int) : ∀ row ∈ l.map i64V, row.cells.length = 1 ∧ row.cells.all leafB = true := by
  intro row h
  obtain ⟨n, _, rfl⟩ := List.mem_map.1 h
  exact ⟨rfl, rfl⟩
def c_R1_Supers : Cmd :=
 (qS [qq 4 (.mov (.c (.sl .nil [])))]
 (qT (qS [qm 5 1, qv 6 .lss [] 5 0]
 (.cond (.t 6) (.seq (.ops [qq 7 (.bsl 1 [.c (.int .i64 (-1))]), qm 4 7]) .ret) .skip))
 (.seq (.ops [qm 8 1, qq 9 (.bslO 9216577 1 [.t 8]), qm 10 0, qm 11 0, qm 12 1, qi 13 2 11 12, qf 14 1 13, ql 15 1 14, qk 16 144 [10, 15], qq 17 (.append 1 8 3 (.t 9) (.t 16)), qm 4 17]) .ret)))
def r_R1_Supers : List RVar := [.tmp 4]
def n_R1_Supers : Nat := 18
theorem k_R1_Supers : chkFn Go.Proofs.Tryz.prog 144 n_R1_Supers r_R1_Supers c_R1_Supers = true := by kernel_rfl
theorem f_R1_Supers_n (l : List Typ) (hv : TyValid l) : ∀ (m : Nat) (t : Int), t < m → -1 ≤ t → t < l.length → Fc Go.Proofs.Tryz.prog 144 [.sl .p (l.map tyV), .int .i64 t] (.sl .p ((supers l t).map i64V))
  | m, t, hm, h0, h1 => by
    have h8 := hv.1
    refine Fn.step mixed k_R1_Supers ?_
    repeat' (first | refine i_s rfl ?_ | refine sw ?_ | refine c_cond rfl (fun h => ?_) (fun h => ?_))
    · have := of_decide_eq_true h
      refine e_ret ⟨rfl, _, rfl, ?_⟩
      rw [supers_neg this]; rfl
    · have hn := of_decide_eq_false h
      obtain ⟨x, hx, hp, h2, h3⟩ := parent_ok hv (by omega) h1
      refine i_bslo rfl rfl rfl rfl ?_
      repeat (first | refine i_s rfl ?_ | refine jd rfl rfl ?_)
      try refine i_iai rfl rfl (by omega) hx rfl ?_
      cases m with
      | zero => omega
      | succ m =>
      have hl := supers_length (t := x.parent) (by omega) hv
      repeat refine sf rfl rfl (f_R1_Supers_n l hv m x.parent (by omega) h2 (by omega)) ?_
      refine i_app rfl rfl rfl rfl rfl (i64_rows _) (by simp; omega) (by simp; omega) ?_
      repeat' (first | refine i_s rfl ?_ | refine sw ?_ | fail)
      refine e_ret ⟨rfl, _, rfl, ?_⟩
      rw [supers_cons hv (by omega) h1 hx]; rfl
theorem f_R1_Supers (l : List Typ) (hv : TyValid l) (t : Int) (h0 : -1 ≤ t) (h1 : t < l.length) : Fc Go.Proofs.Tryz.prog 144 [.sl .p (l.map tyV), .int .i64 t] (.sl .p ((supers l t).map i64V)) :=
  f_R1_Supers_n l hv (t.toNat + 1) t (by omega) h0 h1
def c_R1_Sub : Cmd :=
 (qS [qb 6 false]
 (.seq (.ops [qm 7 0, qm 8 1, qk 9 144 [7, 8], qm 10 2, qk 11 22 [9, 10], qm 6 11]) .ret))
def r_R1_Sub : List RVar := [.tmp 6]
def n_R1_Sub : Nat := 12
theorem k_R1_Sub : chkFn Go.Proofs.Tryz.prog 120 n_R1_Sub r_R1_Sub c_R1_Sub = true := by kernel_rfl
theorem f_R1_Sub (l : List Typ) (hv : TyValid l) (a b : Int) (h0 : -1 ≤ a) (h1 : a < l.length) : Fc Go.Proofs.Tryz.prog 120 [.sl .p (l.map tyV), .int .i64 a, .int .i64 b] (.bool (subB l a b)) := by
  have hl := supers_length h1 hv
  refine Fn.step mixed k_R1_Sub ?_
  repeat' (first | refine i_s rfl ?_ | refine sw ?_ | refine sf rfl rfl (f_R1_Supers l hv a h0 h1) ?_ | refine sf rfl rfl (f_R1_Has _ _ (by omega)) ?_ | fail)
  exact e_ret ⟨rfl, _, rfl, rfl⟩
def c_R1_MembersOf : Cmd :=
 (qS [qq 6 (.mov (.c (.sl .nil [])))]
 (qS [qq 7 (.newVec 5056449)]
 (qT (qS [qc 8 0]
 (.block 0 (.loop (qT (qS [qm 9 8, qm 10 1, qn 11 10, qu 12 .lss [] 9 11]
 (.cond (.t 12) .skip (.exit 0)))
 (qT (.block 1 (qS [qm 15 0, qm 16 1, qm 17 8, qi 18 2 16 17, qf 19 1 18, ql 20 1 19, qm 21 2, qk 22 120 [15, 20, 21]]
 (.cond (.t 22) (.ops [qm 23 7, qm 24 8, qq 25 (.bsl 1 [.t 24]), qq 26 (.append 1 8 3 (.t 23) (.t 25)), qm 7 26]) .skip)))
 (.ops [qm 13 8, qv 14 .add [] 13 1, qm 8 14]))))))
 (.seq (.ops [qm 27 7, qm 6 27]) .ret))))
def r_R1_MembersOf : List RVar := [.tmp 6]
def n_R1_MembersOf : Nat := 28
theorem k_R1_MembersOf : chkFn Go.Proofs.Tryz.prog 79 n_R1_MembersOf r_R1_MembersOf c_R1_MembersOf = true := by kernel_rfl
theorem f_R1_MembersOf (l : List Typ) (hv : TyValid l) (os : List Obj) (ho : os.length ≤ 8) (hr : ∀ o ∈ os, -1 ≤ o.type ∧ o.type < l.length) (t : Int) : Fc Go.Proofs.Tryz.prog 79 [.sl .p (l.map tyV), .sl .p (os.map obV), .int .i64 t] (.sl .p ((membersOf l os t).map i64V)) := by
  refine Fn.step mixed k_R1_MembersOf ?_
  repeat (first | refine i_s rfl ?_ | refine sw ?_ | refine i_nv rfl ?_)
  refine c_for os.length (fun k => [(0, .sl .p (l.map tyV)), (1, .sl .p (os.map obV)), (2, .int .i64 t), (7, .sl (.own 5056449) ((memK l os t k).map i64V)), (8, .int .i64 k)]) (fun k => [(5056449, .vec (memK l os t k).length)]) (fun _ => True) trivial ft fun k hk _ => ?_
  have hml := memK_len (l := l) (os := os) (t := t) (k := k)
  repeat (first | refine i_len rfl ?_ | refine i_s rfl ?_ | refine sw ?_)
  refine c_cond rfl (fun h => ?_) (fun h => ?_)
  · have hlt : k < os.length := by simpa using h
    obtain ⟨o, hc⟩ := get_some hlt
    have := hr o (mem_get hc)
    clear h
    repeat' (first | refine i_s rfl ?_ | refine sw ?_ | refine ja rfl rfl ?_ | refine jd rfl rfl ?_ | refine c_cond rfl (fun h => ?_) (fun h => ?_) | refine sf rfl rfl (f_R1_Sub l hv o.type t this.1 this.2) ?_ | fail)
    · refine i_appM rfl rfl rfl rfl rfl (by omega) (by omega) ?_
      repeat' (first | refine i_s rfl ?_ | refine sw ?_ | refine ja rfl rfl ?_ | fail)
      refine e_for hlt trivial ⟨⟨rfl, rfl, rfl, ?_, rfl, trivial⟩, ⟨?_, trivial⟩, rfl⟩
      · rw [memK_succ hc, if_pos h]; rfl
      · rw [memK_succ hc, if_pos h]; simp; rfl
    · refine e_for hlt trivial ⟨⟨rfl, rfl, rfl, ?_, rfl, trivial⟩, ⟨?_, trivial⟩, rfl⟩
      · rw [memK_succ hc, if_neg (by simp [h])]; simp; rfl
      · rw [memK_succ hc, if_neg (by simp [h])]; simp; rfl
  · have hge : ¬ k < os.length := by simpa using h
    have e : k = os.length := by omega
    subst e
    repeat' (first | refine i_s rfl ?_ | refine sw ?_ | fail)
    exact e_ret ⟨rfl, _, rfl, rfl⟩
end Hm
end
section
namespace Hm
open Go
set_option maxRecDepth 100000
set_option maxHeartbeats 4000000
def c_R1_TypesCode : Cmd :=
 (qS [qx 2 4096134 6 0, qc 4 0]
 (qT (qS [qm 6 1, qn 7 6, qv 8 .gtr [] 7 3]
 (.cond (.t 8) (.seq (.ops [qc 4 2]) .ret) .skip))
 (qT (qS [qc 5 0]
 (.block 0 (.loop (qT (qS [qm 9 5, qm 10 1, qn 11 10, qu 12 .lss [] 9 11]
 (.cond (.t 12) .skip (.exit 0)))
 (qT (.block 1 (qS [qm 15 1, qm 16 5, qi 17 1 15 16, ql 18 1 17, qf 19 0 2, ql 20 1 19, qn 21 20, qv 22 .sub [] 21 1, qq 23 (.call .f (.c (.fn 59 [])) [.t 18, .c (.int .i64 (-1)), .t 22]), qq 24 (.not (.t 23))]
 (.cond (.t 24) (.seq (.ops [qc 4 3]) .ret) .skip)))
 (.ops [qm 13 5, qv 14 .add [] 13 1, qm 5 14]))))))
 (.seq (.ops [qc 4 0]) .ret))))
def r_R1_TypesCode : List RVar := [.tmp 4]
def n_R1_TypesCode : Nat := 25
theorem k_R1_TypesCode : chkFn Go.Proofs.Tryz.prog 64 n_R1_TypesCode r_R1_TypesCode c_R1_TypesCode = true := by kernel_rfl
theorem f_R1_TypesCode (d : Dom) (hd : d.types.length ≤ 140737488355328) (l : List Int) (hl : l.length ≤ 140737488355328) : Fc Go.Proofs.Tryz.prog 64 [domV d, .sl .p (l.map i64V)] (.int .i64 (paramsCode d.types.length l)) := by
  unfold paramsCode
  by_cases h3 : l.length > 3
  · rw [if_pos h3]
    refine Fn.step mixed k_R1_TypesCode ?_
    repeat' (first | refine i_len rfl ?_ | refine i_s rfl ?_ | refine sw ?_ | refine i_box rfl rfl ?_ | refine c_cond rfl (fun h => ?_) (fun h => ?_))
    all_goals first
      | exact e_ret ⟨rfl, _, rfl, rfl⟩
      | (exfalso; simp at *; omega)
  · rw [if_neg h3]
    refine Fn.step mixed k_R1_TypesCode ?_
    repeat' (first | refine i_len rfl ?_ | refine i_s rfl ?_ | refine sw ?_ | refine i_box rfl rfl ?_ | refine c_cond rfl (fun h => ?_) (fun h => ?_))
    all_goals first
      | (exfalso; simp at *; omega)
      | skip
    refine c_for l.length (fun k => [(1, .sl .p (l.map i64V)), (2, .bptr 4096134 0), (5, .int .i64 k)]) (fun _ => [(4096134, .box (domV d))]) (fun k => (l.take k).any (badT d.types.length) = false) (by simp) ft fun k hk hi => ?_
    by_cases hlt : k < l.length
    · obtain ⟨x, hx⟩ := get_some hlt
      have hI := f_R1_In x (-1) ((d.types.length : Int) - 1)
      have hb : badT d.types.length x = !(decide (-1 ≤ x) && decide (x ≤ (d.types.length : Int) - 1)) := by
        unfold badT
        rw [Bool.eq_iff_iff]
        simp
        omega
      cases hbx : badT d.types.length x with
      | true =>
        rw [if_pos (List.any_eq_true.2 ⟨x, mem_get hx, hbx⟩)]
        rw [hbx] at hb
        generalize (decide (-1 ≤ x) && decide (x ≤ (d.types.length : Int) - 1)) = bb at *
        have hbb : bb = false := by simpa using hb.symm
        subst hbb
        repeat' (first | refine i_len rfl ?_ | refine i_s rfl ?_ | refine sw ?_ | refine c_t rfl ?_ | refine jb rfl rfl ?_ | refine jd rfl rfl ?_ | refine c_cond rfl (fun h => ?_) (fun h => ?_) | refine sf rfl rfl hI ?_ | fail)
        all_goals first
          | exact e_ret ⟨rfl, _, rfl, rfl⟩
          | (exfalso; clear hI; simp at *; omega)
      | false =>
        rw [hbx] at hb
        generalize (decide (-1 ≤ x) && decide (x ≤ (d.types.length : Int) - 1)) = bb at *
        have hbb : bb = true := by simpa using hb.symm
        subst hbb
        repeat' (first | refine i_len rfl ?_ | refine i_s rfl ?_ | refine sw ?_ | refine c_f rfl ?_ | refine ja rfl rfl ?_ | refine jb rfl rfl ?_ | refine jd rfl rfl ?_ | refine c_cond rfl (fun h => ?_) (fun h => ?_) | refine sf rfl rfl hI ?_ | fail)
        all_goals first
          | (exact e_for hlt (by rw [take_succ_get hx, List.any_append, hi]; simp [hbx]) ft)
          | (exfalso; clear hI; simp at *; omega)
    · rw [List.take_of_length_le (by omega)] at hi
      rw [if_neg (by simp [hi])]
      repeat' (first | refine i_len rfl ?_ | refine i_s rfl ?_ | refine sw ?_ | refine c_cond rfl (fun h => ?_) (fun h => ?_))
      all_goals first
        | exact e_ret ⟨rfl, _, rfl, rfl⟩
        | (exfalso; simp at *; omega)
def c_R1_AtomCode : Cmd :=
 (qS [qx 3 6592198 6 0, qx 5 6592322 2 2, qc 6 0]
 (qT (qS [qf 11 0 5, ql 12 1 11, qf 13 2 3, ql 14 1 13, qn 15 14, qv 16 .sub [] 15 1, qq 17 (.call .f (.c (.fn 59 [])) [.t 12, .c (.int .i64 0), .t 16]), qq 18 (.not (.t 17))]
 (.cond (.t 18) (.seq (.ops [qc 6 6]) .ret) .skip))
 (qS [qf 19 2 3, ql 20 1 19, qf 21 0 5, ql 22 1 21, qi 23 2 20 22, qf 24 1 23, ql 25 1 24, qm 7 25]
 (qT (qS [qf 26 1 5, ql 27 1 26, qn 28 27, qm 29 7, qn 30 29, qu 31 .neq [.i] 28 30]
 (.cond (.t 31) (.seq (.ops [qc 6 9]) .ret) .skip))
 (qT (qS [qc 8 0]
 (.block 0 (.loop (qT (qS [qm 32 8, qm 33 7, qn 34 33, qu 35 .lss [] 32 34]
 (.cond (.t 35) .skip (.exit 0)))
 (qT (.block 1 (qS [qf 38 1 5, ql 39 1 38, qm 40 8, qi 41 1 39 40, ql 42 1 41, qm 9 42]
 (qT (qS [qm 43 9, qm 44 1, qn 45 44, qq 46 (.bin .sub false [] (.c (.int .i64 0)) (.t 45)), qf 47 1 3, ql 48 1 47, qn 49 48, qv 50 .sub [] 49 1, qk 51 59 [43, 46, 50], qq 52 (.not (.t 51))]
 (.cond (.t 52) (.seq (.ops [qc 6 3]) .ret) .skip))
 (qS [qc 10 0]
 (qT (qS [qm 53 9, qv 54 .lss [] 53 0]
 (.cond (.t 54) (.ops [qm 55 1, qm 56 9, qq 57 (.bin .sub false [] (.c (.int .i64 0)) (.t 56)), qv 58 .sub [] 57 1, qi 59 1 55 58, ql 60 1 59, qm 10 60]) (.ops [qf 61 1 3, ql 62 1 61, qm 63 9, qi 64 2 62 63, qf 65 1 64, ql 66 1 65, qm 10 66])))
 (qS [qf 67 0 3, ql 68 1 67, qm 69 10, qm 70 7, qm 71 8, qi 72 1 70 71, ql 73 1 72, qk 74 120 [68, 69, 73], qq 75 (.not (.t 74))]
 (.cond (.t 75) (.seq (.ops [qc 6 8]) .ret) .skip)))))))
 (.ops [qm 36 8, qv 37 .add [] 36 1, qm 8 37]))))))
 (.seq (.ops [qc 6 0]) .ret))))))
def r_R1_AtomCode : List RVar := [.tmp 6]
def n_R1_AtomCode : Nat := 76
theorem k_R1_AtomCode : chkFn Go.Proofs.Tryz.prog 103 n_R1_AtomCode r_R1_AtomCode c_R1_AtomCode = true := by kernel_rfl
theorem f_R1_AtomCode (d : Dom) (hd : DoTy d) (ps : List Int) (hps : PsOk d ps) (a : At) (ha : AtOk a) (hpr : d.preds.length ≤ 140737488355328) : Fc Go.Proofs.Tryz.prog 103 [domV d, .sl .p (ps.map i64V), atV a] (.int .i64 (atomCode d ps a)) := by
  have hal := ha.len
  have hpl := hps.1
  have hol := hd.ol
  have hI := f_R1_In a.pred 0 ((d.preds.length : Int) - 1)
  by_cases h1 : a.pred < 0 ∨ (d.preds.length : Int) ≤ a.pred
  · rw [atomCode_none h1]
    have e : (decide (0 ≤ a.pred) && decide (a.pred ≤ (d.preds.length : Int) - 1)) = false := by rw [Bool.eq_false_iff]; simp; omega
    rw [e] at hI
    refine Fn.step mixed k_R1_AtomCode ?_
    repeat' (first | refine i_len rfl ?_ | refine i_s rfl ?_ | refine sw ?_ | refine c_t rfl ?_ | refine jb rfl rfl ?_ | refine i_box rfl rfl ?_ | refine sf rfl rfl hI ?_ | fail)
    all_goals first
      | exact e_ret ⟨rfl, _, rfl, rfl⟩
      | (exfalso; clear hI; simp at *; omega)
  · obtain ⟨p, hp⟩ := get_some (l := d.preds) (k := a.pred.toNat) (by omega)
    have e : (decide (0 ≤ a.pred) && decide (a.pred ≤ (d.preds.length : Int) - 1)) = true := by simp; omega
    rw [e] at hI
    by_cases h2 : a.args.length = p.types.length
    · rw [atomCode_scan h1 hp h2]
      refine Fn.step mixed k_R1_AtomCode ?_
      repeat' (first | refine i_len rfl ?_ | refine i_s rfl ?_ | refine sw ?_ | refine c_f rfl ?_ | refine jb rfl rfl ?_ | refine jd rfl rfl ?_ | refine i_box rfl rfl ?_ | refine c_cond rfl (fun h => ?_) (fun h => ?_) | refine sf rfl rfl hI ?_ | fail)
      all_goals first
        | (exfalso; clear hI; simp at *; omega)
        | skip
      clear hI e
      refine c_for a.args.length (fun k => [(1, .sl .p (ps.map i64V)), (3, .bptr 6592198 0), (5, .bptr 6592322 0), (7, .sl .p (p.types.map i64V)), (8, .int .i64 k)]) (fun _ => [(6592198, .box (domV d)), (6592322, .box (atV a))]) (fun k => ∀ j, j < k → argBad d ps p.types a j = none) all_zero ft fun k hk hi => ?_
      by_cases hlt : k < a.args.length
      · obtain ⟨x, hx⟩ := get_some hlt
        obtain ⟨t, ht⟩ := get_some (l := p.types) (k := k) (by omega)
        have hx1 : (-9223372036854775808 : Int) ≤ x := (ha.r x (mem_get hx)).1
        have hx2 : x ≤ 9223372036854775807 := (ha.r x (mem_get hx)).2
        have hJ := f_R1_In x (0 - (ps.length : Int)) ((d.objects.length : Int) - 1)
        have hbad : argBad d ps p.types a k = tyoBad d t (typeOfA d ps x) := by simp only [argBad, hx, ht]
        by_cases hin : -(ps.length : Int) ≤ x ∧ x < d.objects.length
        · have e2 : (decide (0 - (ps.length : Int) ≤ x) && decide (x ≤ (d.objects.length : Int) - 1)) = true := by simp; omega
          rw [e2] at hJ
          by_cases hneg : x < 0
          · obtain ⟨u, hu⟩ := get_some (l := ps) (k := (-1 - x).toNat) (by omega)
            have hu2 : typeOfA d ps x = some u := by unfold typeOfA; rw [if_neg (by omega), if_pos (by omega)]; exact hu
            obtain ⟨hu3, hu4⟩ := typeOfA_ok hd hps hu2
            have hu5 : ps[(0 - x - 1).toNat]? = some u := by rw [← hu]; congr 2; omega
            have hS := f_R1_Sub d.types hd.ty u t hu3 hu4
            rw [hu2] at hbad
            simp only [tyoBad] at hbad
            clear hu hu2
            cases hs : subB d.types u t with
            | true =>
              rw [hs] at hbad hS
              rw [if_pos rfl] at hbad
              clear ha
              repeat' (first | refine i_len rfl ?_ | refine i_s rfl ?_ | refine sw ?_ | refine c_f rfl ?_ | refine ja rfl rfl ?_ | refine jb rfl rfl ?_ | refine jd rfl rfl ?_ | refine c_cond rfl (fun h => ?_) (fun h => ?_) | refine sf rfl rfl hJ ?_ | refine sf rfl rfl hS ?_ | fail)
              all_goals first
                | (exact e_for hlt (all_succ hi hbad) ft)
                | (exfalso; clear hJ hS; simp at *; omega)
            | false =>
              rw [hs] at hbad hS
              rw [if_neg (by simp)] at hbad
              rw [scan0_hit hi hlt hbad]
              clear hi hbad ha
              repeat' (first | refine i_len rfl ?_ | refine i_s rfl ?_ | refine sw ?_ | refine c_t rfl ?_ | refine c_f rfl ?_ | refine jb rfl rfl ?_ | refine jd rfl rfl ?_ | refine c_cond rfl (fun h => ?_) (fun h => ?_) | refine sf rfl rfl hJ ?_ | refine sf rfl rfl hS ?_ | fail)
              all_goals first
                | exact e_ret ⟨rfl, _, rfl, rfl⟩
                | (exfalso; clear hJ hS; simp at *; omega)
          · obtain ⟨o, hoo⟩ := get_some (l := d.objects) (k := x.toNat) (by omega)
            have hu2 : typeOfA d ps x = some o.type := by unfold typeOfA; rw [if_pos (by omega), hoo]; rfl
            obtain ⟨hu3, hu4⟩ := typeOfA_ok hd hps hu2
            have hS := f_R1_Sub d.types hd.ty o.type t hu3 hu4
            rw [hu2] at hbad
            simp only [tyoBad] at hbad
            clear hu2
            cases hs : subB d.types o.type t with
            | true =>
              rw [hs] at hbad hS
              rw [if_pos rfl] at hbad
              clear ha
              repeat' (first | refine i_len rfl ?_ | refine i_s rfl ?_ | refine sw ?_ | refine c_f rfl ?_ | refine ja rfl rfl ?_ | refine jb rfl rfl ?_ | refine jd rfl rfl ?_ | refine c_cond rfl (fun h => ?_) (fun h => ?_) | refine sf rfl rfl hJ ?_ | refine sf rfl rfl hS ?_ | fail)
              all_goals first
                | (exact e_for hlt (all_succ hi hbad) ft)
                | (exfalso; clear hJ hS; simp at *; omega)
            | false =>
              rw [hs] at hbad hS
              rw [if_neg (by simp)] at hbad
              rw [scan0_hit hi hlt hbad]
              clear hi hbad ha
              repeat' (first | refine i_len rfl ?_ | refine i_s rfl ?_ | refine sw ?_ | refine c_t rfl ?_ | refine c_f rfl ?_ | refine jb rfl rfl ?_ | refine jd rfl rfl ?_ | refine c_cond rfl (fun h => ?_) (fun h => ?_) | refine sf rfl rfl hJ ?_ | refine sf rfl rfl hS ?_ | fail)
              all_goals first
                | exact e_ret ⟨rfl, _, rfl, rfl⟩
                | (exfalso; clear hJ hS; simp at *; omega)
        · have e2 : (decide (0 - (ps.length : Int) ≤ x) && decide (x ≤ (d.objects.length : Int) - 1)) = false := by rw [Bool.eq_false_iff]; simp; omega
          rw [e2] at hJ
          have hu2 : typeOfA d ps x = none := by unfold typeOfA; rw [if_neg (by omega), if_neg (by omega)]
          rw [hu2] at hbad
          simp only [tyoBad] at hbad
          rw [scan0_hit hi hlt hbad]
          clear hi hbad ha
          repeat' (first | refine i_len rfl ?_ | refine i_s rfl ?_ | refine sw ?_ | refine c_t rfl ?_ | refine jb rfl rfl ?_ | refine jd rfl rfl ?_ | refine c_cond rfl (fun h => ?_) (fun h => ?_) | refine sf rfl rfl hJ ?_ | fail)
          all_goals first
            | exact e_ret ⟨rfl, _, rfl, rfl⟩
            | (exfalso; clear hJ; simp at *; omega)
      · rw [scan0_none fun j hj => hi j (by omega)]
        clear hi ha
        repeat' (first | refine i_len rfl ?_ | refine i_s rfl ?_ | refine sw ?_ | refine c_cond rfl (fun h => ?_) (fun h => ?_))
        all_goals first
          | exact e_ret ⟨rfl, _, rfl, rfl⟩
          | (exfalso; simp at *; omega)
    · rw [atomCode_len h1 hp h2]
      refine Fn.step mixed k_R1_AtomCode ?_
      repeat' (first | refine i_len rfl ?_ | refine i_s rfl ?_ | refine sw ?_ | refine c_f rfl ?_ | refine jb rfl rfl ?_ | refine jd rfl rfl ?_ | refine i_box rfl rfl ?_ | refine c_cond rfl (fun h => ?_) (fun h => ?_) | refine sf rfl rfl hI ?_ | fail)
      all_goals first
        | exact e_ret ⟨rfl, _, rfl, rfl⟩
        | (exfalso; clear hI; simp at *; omega)
def c_R1_AtomsCode : Cmd :=
 (qS [qx 4 4224262 6 0, qc 8 0]
 (qT (qS [qm 11 2, qn 12 11, qm 13 3, qu 14 .gtr [] 12 13]
 (.cond (.t 14) (.seq (.ops [qc 8 2]) .ret) .skip))
 (qT (qS [qc 9 0]
 (.block 0 (.loop (qT (qS [qm 15 9, qm 16 2, qn 17 16, qu 18 .lss [] 15 17]
 (.cond (.t 18) .skip (.exit 0)))
 (qT (.block 1 (qS [qL 21 6 4, qm 22 1, qm 23 2, qm 24 9, qi 25 2 23 24, qL 26 2 25, qk 27 103 [21, 22, 26], qm 10 27]
 (qS [qm 28 10, qv 29 .neq [.i] 28 0]
 (.cond (.t 29) (.seq (.ops [qm 30 10, qm 8 30]) .ret) .skip))))
 (.ops [qm 19 9, qv 20 .add [] 19 1, qm 9 20]))))))
 (.seq (.ops [qc 8 0]) .ret))))
def r_R1_AtomsCode : List RVar := [.tmp 8]
def n_R1_AtomsCode : Nat := 31
theorem k_R1_AtomsCode : chkFn Go.Proofs.Tryz.prog 66 n_R1_AtomsCode r_R1_AtomsCode c_R1_AtomsCode = true := by kernel_rfl
theorem f_R1_AtomsCode (d : Dom) (hd : DoTy d) (hpr : d.preds.length ≤ 140737488355328) (ps : List Int) (hps : PsOk d ps) (l : List At) (hl : l.length ≤ 140737488355328) (ho : ∀ a ∈ l, AtOk a) (most : Nat) (hm : most ≤ 1000) :
    Fc Go.Proofs.Tryz.prog 66 [domV d, .sl .p (ps.map i64V), .sl .p (l.map atV), .int .i64 most] (.int .i64 (atomsCode d ps l most)) := by
  unfold atomsCode
  by_cases h3 : l.length > most
  · rw [if_pos h3]
    refine Fn.step mixed k_R1_AtomsCode ?_
    repeat' (first | refine i_len rfl ?_ | refine i_s rfl ?_ | refine sw ?_ | refine i_box rfl rfl ?_ | refine c_cond rfl (fun h => ?_) (fun h => ?_))
    all_goals first
      | exact e_ret ⟨rfl, _, rfl, rfl⟩
      | (exfalso; simp at *; omega)
  · rw [if_neg h3]
    refine Fn.step mixed k_R1_AtomsCode ?_
    repeat' (first | refine i_len rfl ?_ | refine i_s rfl ?_ | refine sw ?_ | refine i_box rfl rfl ?_ | refine c_cond rfl (fun h => ?_) (fun h => ?_))
    all_goals first
      | (exfalso; simp at *; omega)
      | skip
    refine c_for l.length (fun k => [(1, .sl .p (ps.map i64V)), (2, .sl .p (l.map atV)), (4, .bptr 4224262 0), (9, .int .i64 k)]) (fun _ => [(4224262, .box (domV d))]) (fun k => ∀ j, j < k → ∀ x, l[j]? = some x → atomCode d ps x = 0) all_zero ft fun k hk hi => ?_
    by_cases hlt : k < l.length
    · obtain ⟨x, hx⟩ := get_some hlt
      have hA := f_R1_AtomCode d hd ps hps x (ho x (mem_get hx)) hpr
      by_cases hz : atomCode d ps x = 0
      · rw [hz] at hA
        repeat' (first | refine i_len rfl ?_ | refine i_s rfl ?_ | refine sw ?_ | refine c_f rfl ?_ | refine ja rfl rfl ?_ | refine jd rfl rfl ?_ | refine c_cond rfl (fun h => ?_) (fun h => ?_) | refine sf rfl rfl hA ?_ | fail)
        all_goals first
          | (exact e_for hlt (all_succ hi fun y hy => by rw [hx] at hy; cases hy; exact hz) ft)
          | (exfalso; clear hA; simp at *; omega)
      · rw [fnz_hit hi hx hz]
        clear hi
        generalize atomCode d ps x = e at *
        repeat' (first | refine i_len rfl ?_ | refine i_s rfl ?_ | refine sw ?_ | refine ja rfl rfl ?_ | refine jd rfl rfl ?_ | refine c_cond rfl (fun h => ?_) (fun h => ?_) | refine sf rfl rfl hA ?_ | fail)
        all_goals first
          | exact e_ret ⟨rfl, _, rfl, rfl⟩
          | (exfalso; clear hA; simp at *; omega)
    · rw [fnz_ok fun j hj => hi j (by omega)]
      clear hi
      repeat' (first | refine i_len rfl ?_ | refine i_s rfl ?_ | refine sw ?_ | refine c_cond rfl (fun h => ?_) (fun h => ?_))
      all_goals first
        | exact e_ret ⟨rfl, _, rfl, rfl⟩
        | (exfalso; simp at *; omega)
def c_R1_AtomsOf : Cmd :=
 (qS [qq 2 (.mov (.c (.sl .nil [])))]
 (qS [qq 3 (.newVec 4352194)]
 (qT (qS [qc 4 0]
 (.block 0 (.loop (qT (qS [qm 5 4, qm 6 0, qn 7 6, qu 8 .lss [] 5 7]
 (.cond (.t 8) .skip (.exit 0)))
 (qT (.block 1 (.ops [qm 11 3, qm 12 0, qm 13 4, qi 14 3 12 13, qf 15 1 14, qL 16 2 15, qq 17 (.bsl 2 [.t 16]), qq 18 (.append 2 32 52 (.t 11) (.t 17)), qm 3 18]))
 (.ops [qm 9 4, qv 10 .add [] 9 1, qm 4 10]))))))
 (.seq (.ops [qm 19 3, qm 2 19]) .ret))))
def r_R1_AtomsOf : List RVar := [.tmp 2]
def n_R1_AtomsOf : Nat := 20
theorem k_R1_AtomsOf : chkFn Go.Proofs.Tryz.prog 68 n_R1_AtomsOf r_R1_AtomsOf c_R1_AtomsOf = true := by kernel_rfl
theorem f_R1_AtomsOf (l : List Lit) (hl : l.length ≤ 3518437208883) : Fc Go.Proofs.Tryz.prog 68 [.sl .p (l.map litV)] (.sl .p ((l.map Lit.at_).map atV)) := by
  refine Fn.step mixed k_R1_AtomsOf ?_
  repeat (first | refine i_s rfl ?_ | refine sw ?_ | refine i_nv rfl ?_)
  refine c_for l.length (fun k => [(0, .sl .p (l.map litV)), (3, .sl (.own 4352194) (((l.take k).map Lit.at_).map atV)), (4, .int .i64 k)]) (fun k => [(4352194, .vec (l.take k).length)]) (fun _ => True) trivial ⟨⟨rfl, by simp; rfl, rfl, trivial⟩, ⟨by simp; rfl, trivial⟩, rfl⟩ fun k hk _ => ?_
  have htl : (l.take k).length = k := by rw [List.length_take]; omega
  repeat (first | refine i_len rfl ?_ | refine i_s rfl ?_ | refine sw ?_)
  refine c_cond rfl (fun h => ?_) (fun h => ?_)
  · have hlt : k < l.length := by simpa using h
    obtain ⟨x, hx⟩ := get_some hlt
    clear h
    repeat (first | refine i_s rfl ?_ | refine sw ?_ | refine jd rfl rfl ?_)
    refine i_appM (l := (l.take k).map Lit.at_) (f := atV) (c := x.at_) (k := (l.take k).length) rfl rfl rfl (by simp) rfl (by omega) (by omega) ?_
    repeat (first | refine i_s rfl ?_ | refine sw ?_ | refine ja rfl rfl ?_)
    refine e_for hlt trivial ⟨⟨rfl, ?_, rfl, trivial⟩, ⟨?_, trivial⟩, rfl⟩
    · rw [take_succ_get hx]; simp; rfl
    · rw [take_succ_get hx]; simp; rfl
  · have hge : k = l.length := by have : ¬ k < l.length := by simpa using h
                                  omega
    subst hge
    rw [List.take_length]
    clear h
    repeat' (first | refine i_s rfl ?_ | refine sw ?_ | fail)
    exact e_ret ⟨rfl, _, rfl, rfl⟩
def c_R1_SchemaCode : Cmd :=
 (qS [qx 2 4160134 6 0, qx 3 4160199 7 1, qc 4 0]
 (qS [qL 7 6 2, qf 8 1 3, ql 9 1 8, qk 10 64 [7, 9], qm 5 10]
 (qT (qS [qm 11 5, qv 12 .neq [.i] 11 0]
 (.cond (.t 12) (.seq (.ops [qm 13 5, qm 4 13]) .ret) .skip))
 (qT (qS [qf 14 2 3, ql 15 1 14, qn 16 15, qv 17 .gtr [] 16 8]
 (.cond (.t 17) (.seq (.ops [qc 4 2]) .ret) .skip))
 (qT (qS [qc 6 0]
 (.block 0 (.loop (qT (qS [qm 18 6, qf 19 2 3, ql 20 1 19, qn 21 20, qu 22 .lss [] 18 21]
 (.cond (.t 22) .skip (.exit 0)))
 (qT (.block 1 (qS [qf 25 2 3, ql 26 1 25, qm 27 6, qi 28 2 26 27, qf 29 0 28, ql 30 1 29, qv 31 .lss [] 30 0, qm 32 31, qg 33 32 false (.faddr 2 (.t 3)), qg 34 32 false (.load false 1 (.t 33)), qg 35 32 false (.mov (.t 6)), qg 36 32 false (.iaddr 2 (.t 34) (.t 35)), qg 37 32 false (.faddr 1 (.t 36)), qg 38 32 false (.load false 1 (.t 37)), qg 39 32 false (.faddr 2 (.t 3)), qg 40 32 false (.load false 1 (.t 39)), qg 41 32 false (.mov (.t 6)), qg 42 32 false (.iaddr 2 (.t 40) (.t 41)), qg 43 32 false (.faddr 0 (.t 42)), qg 44 32 false (.load false 1 (.t 43)), qg 45 32 false (.bin .leq false [] (.t 38) (.t 44)), qq 46 (.pick (.t 32) (.c (.bool true)) (.t 45)), qm 47 46, qg 48 47 false (.faddr 2 (.t 3)), qg 49 47 false (.load false 1 (.t 48)), qg 50 47 false (.mov (.t 6)), qg 51 47 false (.iaddr 2 (.t 49) (.t 50)), qg 52 47 false (.faddr 1 (.t 51)), qg 53 47 false (.load false 1 (.t 52)), qg 54 47 false (.faddr 1 (.t 3)), qg 55 47 false (.load false 1 (.t 54)), qg 56 47 false (.len false (.t 55)), qg 57 47 false (.bin .geq false [] (.t 53) (.t 56)), qq 58 (.pick (.t 47) (.c (.bool true)) (.t 57))]
 (.cond (.t 58) (.seq (.ops [qc 4 3]) .ret) .skip)))
 (.ops [qm 23 6, qv 24 .add [] 23 1, qm 6 24]))))))
 (qS [qL 59 6 2, qf 60 1 3, ql 61 1 60, qf 62 3 3, ql 63 1 62, qk 64 68 [63], qq 65 (.call .f (.c (.fn 66 [])) [.t 59, .t 61, .t 64, .c (.int .i64 8)]), qm 5 65]
 (qT (qS [qm 66 5, qv 67 .eql [.i] 66 0]
 (.cond (.t 67) (.ops [qL 68 6 2, qf 69 1 3, ql 70 1 69, qf 71 4 3, ql 72 1 71, qq 73 (.call .f (.c (.fn 66 [])) [.t 68, .t 70, .t 72, .c (.int .i64 8)]), qm 5 73]) .skip))
 (qT (qS [qm 74 5, qv 75 .eql [.i] 74 0]
 (.cond (.t 75) (.ops [qL 76 6 2, qf 77 1 3, ql 78 1 77, qf 79 5 3, ql 80 1 79, qq 81 (.call .f (.c (.fn 66 [])) [.t 76, .t 78, .t 80, .c (.int .i64 8)]), qm 5 81]) .skip))
 (qT (qS [qm 82 5, qv 83 .eql [.i] 82 0, qm 84 83, qg 85 84 true (.faddr 6 (.t 3)), qg 86 84 true (.load false 1 (.t 85)), qg 87 84 true (.call .f (.c (.fn 59 [])) [.t 86, .c (.int .i64 0), .c (.int .i64 100)]), qg 88 84 true (.not (.t 87)), qq 89 (.pick (.t 84) (.t 88) (.c (.bool false)))]
 (.cond (.t 89) (.ops [qc 5 3]) .skip))
 (.seq (.ops [qm 90 5, qm 4 90]) .ret))))))))))
def r_R1_SchemaCode : List RVar := [.tmp 4]
def n_R1_SchemaCode : Nat := 91
theorem k_R1_SchemaCode : chkFn Go.Proofs.Tryz.prog 65 n_R1_SchemaCode r_R1_SchemaCode c_R1_SchemaCode = true := by kernel_rfl
theorem f_R1_SchemaCode (d : Dom) (hd : DoTy d) (ho : DoOk d) (s : Sch) (hso : SchOk s) : Fc Go.Proofs.Tryz.prog 65 [domV d, schV s] (.int .i64 (schSelf d s)) := by
  have hst := hso.types
  have hsd := hso.diff
  have hP := f_R1_TypesCode d ho.types.1 s.types (by omega)
  by_cases h1 : paramsCode d.types.length s.types = 0
  · have hps := schSelf_ps h1
    rw [h1] at hP
    by_cases h2 : s.diff.length > 8
    · have e : schSelf d s = 2 := by unfold schSelf; rw [if_neg (by simp [h1]), if_pos h2]
      rw [e]
      refine Fn.step mixed k_R1_SchemaCode ?_
      repeat' (first | refine i_len rfl ?_ | refine i_s rfl ?_ | refine sw ?_ | refine c_f rfl ?_ | refine i_box rfl rfl ?_ | refine c_cond rfl (fun h => ?_) (fun h => ?_) | refine sf rfl rfl hP ?_ | fail)
      all_goals first
        | exact e_ret ⟨rfl, _, rfl, rfl⟩
        | (exfalso; clear hP; simp at *; omega)
    · have hO := f_R1_AtomsOf s.pre hso.pre
      have hL := f_R1_AtomsCode d hd ho.preds.1 s.types hps (s.pre.map Lit.at_) (by have := hso.pre; simp; omega) (by intro a ha; obtain ⟨x, hx, rfl⟩ := List.mem_map.1 ha; exact hso.preA x hx) 8 (by omega)
      have hA1 := f_R1_AtomsCode d hd ho.preds.1 s.types hps s.add (by have := hso.add; omega) hso.addA 8 (by omega)
      have hA2 := f_R1_AtomsCode d hd ho.preds.1 s.types hps s.del (by have := hso.del; omega) hso.delA 8 (by omega)
      have hI := f_R1_In s.cost 0 100
      have e : schSelf d s = if s.diff.any (pairBad s.types.length) = true then 3 else if atomsCode d s.types (s.pre.map Lit.at_) 8 ≠ 0 then atomsCode d s.types (s.pre.map Lit.at_) 8 else if atomsCode d s.types s.add 8 ≠ 0 then atomsCode d s.types s.add 8 else if atomsCode d s.types s.del 8 ≠ 0 then atomsCode d s.types s.del 8
        else if s.cost < 0 ∨ s.cost > 100 then 3 else 0 := by unfold schSelf; rw [if_neg (by simp [h1]), if_neg h2]
      rw [e]
      clear e ho hso hps h1
      generalize atomsCode d s.types (s.pre.map Lit.at_) 8 = c1 at *
      generalize atomsCode d s.types s.add 8 = c2 at *
      generalize atomsCode d s.types s.del 8 = c3 at *
      refine Fn.step mixed k_R1_SchemaCode ?_
      repeat' (first | refine i_len rfl ?_ | refine i_s rfl ?_ | refine sw ?_ | refine c_f rfl ?_ | refine i_box rfl rfl ?_ | refine c_cond rfl (fun h => ?_) (fun h => ?_) | refine sf rfl rfl hP ?_ | fail)
      all_goals first
        | (exfalso; clear hP hL hA1 hA2 hI hO; simp at *; omega)
        | skip
      clear hP
      refine c_for s.diff.length (fun k => [(2, .bptr 4160134 0), (3, .bptr 4160199 0), (6, .int .i64 k)]) (fun _ => [(4160134, .box (domV d)), (4160199, .box (schV s))]) (fun k => (s.diff.take k).any (pairBad s.types.length) = false) (by simp) ft fun k hk hi => ?_
      by_cases hlt : k < s.diff.length
      · obtain ⟨p, hp⟩ := get_some hlt
        clear hL hA1 hA2 hI hO
        have hpb : pairBad s.types.length p = (decide (p.1 < 0) || (decide (p.2 ≤ p.1) || decide ((s.types.length : Int) ≤ p.2))) := rfl
        cases hb : pairBad s.types.length p with
        | true =>
          rw [hb] at hpb
          rw [if_pos (List.any_eq_true.2 ⟨p, mem_get hp, hb⟩)]
          clear hi hb
          repeat' (first | refine i_len rfl ?_ | refine i_s rfl ?_ | refine sw ?_ | refine i_gt rfl ?_ | refine i_gf rfl ?_ | refine c_t rfl ?_ | refine ja rfl rfl ?_ | refine jd rfl rfl ?_ | (refine sp ?_ ?_ <;> try intro h) | fail)
          all_goals first
            | exact e_ret ⟨rfl, _, rfl, rfl⟩
            | (exfalso; simp at *; omega)
        | false =>
          rw [hb] at hpb
          have hnx : (s.diff.take (k + 1)).any (pairBad s.types.length) = false := by rw [take_succ_get hp, List.any_append, hi]; simp [hb]
          clear hi hb
          repeat' (first | refine i_len rfl ?_ | refine i_s rfl ?_ | refine sw ?_ | refine i_gt rfl ?_ | refine i_gf rfl ?_ | refine c_t rfl ?_ | refine ja rfl rfl ?_ | refine jd rfl rfl ?_ | (refine sp ?_ ?_ <;> try intro h) | fail)
          all_goals first
            | (exact e_for hlt hnx ft)
            | (exfalso; simp at *; omega)
      · rw [List.take_of_length_le (by omega)] at hi
        rw [if_neg (by simp [hi])]
        clear hi
        by_cases z1 : c1 = 0
        · subst z1
          rw [if_neg (by simp)]
          by_cases z2 : c2 = 0
          · subst z2
            rw [if_neg (by simp)]
            by_cases z3 : c3 = 0
            · subst z3
              rw [if_neg (by simp)]
              have hIe : (decide ((0 : Int) ≤ s.cost) && decide (s.cost ≤ 100)) = decide (¬ (s.cost < 0 ∨ s.cost > 100)) := by rw [Bool.eq_iff_iff]; simp
              rw [hIe] at hI
              by_cases z4 : s.cost < 0 ∨ s.cost > 100
              · rw [if_pos z4]
                rw [decide_eq_false (fun h => h z4)] at hI
                repeat' (first | refine i_len rfl ?_ | refine i_s rfl ?_ | refine sw ?_ | refine i_gt rfl ?_ | refine c_t rfl ?_ | refine c_cond rfl (fun h => ?_) (fun h => ?_) | refine sf rfl rfl hO ?_ | refine sf rfl rfl hL ?_ | refine sf rfl rfl hA1 ?_ | refine sf rfl rfl hA2 ?_ | refine sf rfl rfl hI ?_ | fail)
                all_goals first
                  | exact e_ret ⟨rfl, _, rfl, rfl⟩
                  | (exfalso; clear hO hL hA1 hA2 hI; simp at *; done)
                  | (exfalso; clear hO hL hA1 hA2 hI; simp at *; omega)
              · rw [if_neg z4]
                rw [decide_eq_true z4] at hI
                repeat' (first | refine i_len rfl ?_ | refine i_s rfl ?_ | refine sw ?_ | refine i_gt rfl ?_ | refine c_t rfl ?_ | refine c_f rfl ?_ | refine c_cond rfl (fun h => ?_) (fun h => ?_) | refine sf rfl rfl hO ?_ | refine sf rfl rfl hL ?_ | refine sf rfl rfl hA1 ?_ | refine sf rfl rfl hA2 ?_ | refine sf rfl rfl hI ?_ | fail)
                all_goals first
                  | exact e_ret ⟨rfl, _, rfl, rfl⟩
                  | (exfalso; clear hO hL hA1 hA2 hI; simp at *; done)
                  | (exfalso; clear hO hL hA1 hA2 hI; simp at *; omega)
            · rw [if_pos z3]
              repeat' (first | refine i_len rfl ?_ | refine i_s rfl ?_ | refine sw ?_ | refine i_gt rfl ?_ | refine i_gf rfl ?_ | refine c_t rfl ?_ | refine c_f rfl ?_ | (refine sp ?_ ?_ <;> try intro h) | refine sf rfl rfl hO ?_ | refine sf rfl rfl hL ?_ | refine sf rfl rfl hA1 ?_ | refine sf rfl rfl hA2 ?_ | refine sf rfl rfl hI ?_ | fail)
              all_goals first
                | exact e_ret ⟨rfl, _, rfl, rfl⟩
                | (exfalso; clear hO hL hA1 hA2 hI; simp at *; done)
                | (exfalso; clear hO hL hA1 hA2 hI; simp_all; done)
                | (exfalso; clear hO hL hA1 hA2 hI; simp at *; omega)
          · rw [if_pos z2]
            repeat' (first | refine i_len rfl ?_ | refine i_s rfl ?_ | refine sw ?_ | refine i_gt rfl ?_ | refine i_gf rfl ?_ | refine c_t rfl ?_ | refine c_f rfl ?_ | (refine sp ?_ ?_ <;> try intro h) | refine sf rfl rfl hO ?_ | refine sf rfl rfl hL ?_ | refine sf rfl rfl hA1 ?_ | refine sf rfl rfl hA2 ?_ | refine sf rfl rfl hI ?_ | fail)
            all_goals first
              | exact e_ret ⟨rfl, _, rfl, rfl⟩
              | (exfalso; clear hO hL hA1 hA2 hI; simp at *; done)
              | (exfalso; clear hO hL hA1 hA2 hI; simp_all; done)
              | (exfalso; clear hO hL hA1 hA2 hI; simp at *; omega)
        · rw [if_pos z1]
          repeat' (first | refine i_len rfl ?_ | refine i_s rfl ?_ | refine sw ?_ | refine i_gt rfl ?_ | refine i_gf rfl ?_ | refine c_f rfl ?_ | (refine sp ?_ ?_ <;> try intro h) | refine sf rfl rfl hO ?_ | refine sf rfl rfl hL ?_ | refine sf rfl rfl hA1 ?_ | refine sf rfl rfl hA2 ?_ | refine sf rfl rfl hI ?_ | fail)
          all_goals first
            | exact e_ret ⟨rfl, _, rfl, rfl⟩
            | (exfalso; clear hO hL hA1 hA2 hI; simp at *; done)
            | (exfalso; clear hO hL hA1 hA2 hI; simp_all; done)
            | (exfalso; clear hO hL hA1 hA2 hI; simp at *; omega)
  · have e : schSelf d s = paramsCode d.types.length s.types := by unfold schSelf; rw [if_pos h1]
    rw [e]
    clear e ho hso
    generalize paramsCode d.types.length s.types = c at *
    refine Fn.step mixed k_R1_SchemaCode ?_
    repeat' (first | refine i_len rfl ?_ | refine i_s rfl ?_ | refine sw ?_ | refine i_box rfl rfl ?_ | refine c_cond rfl (fun h => ?_) (fun h => ?_) | refine sf rfl rfl hP ?_ | fail)
    all_goals first
      | exact e_ret ⟨rfl, _, rfl, rfl⟩
      | (exfalso; clear hP; simp_all; done)
def c_R1_DomainFault : Cmd :=
 (qS [qx 1 1664070 6 0, qq 2 (.alloc 1664130 (.agg [.int .i64 0, .int .i64 0]))]
 (qS [qf 13 0 1, ql 14 1 13, qk 15 61 [14], qq 3 (.alloc 1664194 (.agg [.int .i64 0, .int .i64 0])), qs 2 3 15]
 (qT (qS [qf 16 0 3, ql 17 1 16, qv 18 .neq [.i] 17 0]
 (.cond (.t 18) (.seq (.ops [qf 19 0 3, ql 20 1 19, qq 21 (.call .f (.c (.fn 27 [])) [.t 20, .c (.int .i64 (-1))]), qs 2 2 21]) .ret) .skip))
 (qS [qf 22 0 1, ql 23 1 22, qf 24 1 1, ql 25 1 24, qk 26 62 [23, 25], qs 2 3 26]
 (qT (qS [qf 27 0 3, ql 28 1 27, qv 29 .neq [.i] 28 0]
 (.cond (.t 29) (.seq (.ops [qf 30 0 3, ql 31 1 30, qq 32 (.call .f (.c (.fn 27 [])) [.t 31, .c (.int .i64 (-2))]), qs 2 2 32]) .ret) .skip))
 (qT (qS [qf 33 2 1, ql 34 1 33, qn 35 34, qv 36 .gtr [] 35 8]
 (.cond (.t 36) (.seq (.ops [qq 37 (.call .f (.c (.fn 27 [])) [.c (.int .i64 2), .c (.int .i64 (-3))]), qs 2 2 37]) .ret) .skip))
 (qT (qS [qc 4 0]
 (.block 0 (.loop (qT (qS [qm 38 4, qf 39 2 1, ql 40 1 39, qn 41 40, qu 42 .lss [] 38 41]
 (.cond (.t 42) .skip (.exit 0)))
 (qT (.block 1 (qS [qf 45 2 1, ql 46 1 45, qm 47 4, qi 48 2 46 47, qL 49 2 48, qq 5 (.alloc 1664322 (.agg [.str [], .sl .nil []])), qs 2 5 49]
 (qT (qS [qf 50 0 5, ql 51 1 50, qk 52 63 [51], qq 53 (.not (.t 52)), qm 54 53, qg 55 54 false (.faddr 0 (.t 5)), qg 56 54 false (.load false 1 (.t 55)), qg 57 54 false (.bin .eql false [.s] (.t 56) (.c (.str [110, 111, 116]))), qq 58 (.pick (.t 54) (.c (.bool true)) (.t 57))]
 (.cond (.t 58) (.seq (.ops [qq 59 (.call .f (.c (.fn 27 [])) [.c (.int .i64 12), .c (.int .i64 (-3))]), qs 2 2 59]) .ret) .skip))
 (qT (qS [qc 6 0]
 (.block 2 (.loop (qT (qS [qm 60 6, qm 61 4, qu 62 .lss [] 60 61]
 (.cond (.t 62) .skip (.exit 2)))
 (qT (.block 3 (qS [qf 65 2 1, ql 66 1 65, qm 67 6, qi 68 2 66 67, qf 69 0 68, ql 70 1 69, qf 71 0 5, ql 72 1 71, qu 73 .eql [.s] 70 72]
 (.cond (.t 73) (.seq (.ops [qq 74 (.call .f (.c (.fn 27 [])) [.c (.int .i64 7), .c (.int .i64 (-3))]), qs 2 2 74]) .ret) .skip)))
 (.ops [qm 63 6, qv 64 .add [] 63 1, qm 6 64]))))))
 (qS [qL 75 6 1, qf 76 1 5, ql 77 1 76, qk 78 64 [75, 77], qm 7 78]
 (qS [qm 79 7, qv 80 .neq [.i] 79 0]
 (.cond (.t 80) (.seq (.ops [qm 81 7, qq 82 (.call .f (.c (.fn 27 [])) [.t 81, .c (.int .i64 (-3))]), qs 2 2 82]) .ret) .skip)))))))
 (.ops [qm 43 4, qv 44 .add [] 43 1, qm 4 44]))))))
 (qT (qS [qf 83 3 1, ql 84 1 83, qn 85 84, qv 86 .gtr [] 85 8]
 (.cond (.t 86) (.seq (.ops [qq 87 (.call .f (.c (.fn 27 [])) [.c (.int .i64 2), .c (.int .i64 (-4))]), qs 2 2 87]) .ret) .skip))
 (qT (qS [qc 8 0]
 (.block 4 (.loop (qT (qS [qm 88 8, qf 89 3 1, ql 90 1 89, qn 91 90, qu 92 .lss [] 88 91]
 (.cond (.t 92) .skip (.exit 4)))
 (qT (.block 5 (qT (qS [qf 95 3 1, ql 96 1 95, qm 97 8, qi 98 7 96 97, qf 99 0 98, ql 100 1 99, qk 101 63 [100], qq 102 (.not (.t 101))]
 (.cond (.t 102) (.seq (.ops [qm 103 8, qq 104 (.call .f (.c (.fn 27 [])) [.c (.int .i64 12), .t 103]), qs 2 2 104]) .ret) .skip))
 (qT (qS [qc 9 0]
 (.block 6 (.loop (qT (qS [qm 105 9, qm 106 8, qu 107 .lss [] 105 106]
 (.cond (.t 107) .skip (.exit 6)))
 (qT (.block 7 (qS [qf 110 3 1, ql 111 1 110, qm 112 9, qi 113 7 111 112, qf 114 0 113, ql 115 1 114, qf 116 3 1, ql 117 1 116, qm 118 8, qi 119 7 117 118, qf 120 0 119, ql 121 1 120, qu 122 .eql [.s] 115 121]
 (.cond (.t 122) (.seq (.ops [qm 123 8, qq 124 (.call .f (.c (.fn 27 [])) [.c (.int .i64 7), .t 123]), qs 2 2 124]) .ret) .skip)))
 (.ops [qm 108 9, qv 109 .add [] 108 1, qm 9 109]))))))
 (qS [qL 125 6 1, qf 126 3 1, ql 127 1 126, qm 128 8, qi 129 7 127 128, qL 130 7 129, qk 131 65 [125, 130], qm 10 131]
 (qS [qm 132 10, qv 133 .neq [.i] 132 0]
 (.cond (.t 133) (.seq (.ops [qm 134 10, qm 135 8, qk 136 27 [134, 135], qs 2 2 136]) .ret) .skip))))))
 (.ops [qm 93 8, qv 94 .add [] 93 1, qm 8 94]))))))
 (qS [qL 137 6 1, qf 138 4 1, ql 139 1 138, qq 140 (.call .f (.c (.fn 66 [])) [.t 137, .c (.sl .nil []), .t 139, .c (.int .i64 40)]), qm 11 140]
 (qT (qS [qc 12 0]
 (.block 8 (.loop (qT (qS [qm 141 12, qf 142 4 1, ql 143 1 142, qn 144 143, qu 145 .lss [] 141 144, qm 146 145, qg 147 146 true (.mov (.t 11)), qg 148 146 true (.bin .eql false [.i] (.t 147) (.c (.int .i64 0))), qq 149 (.pick (.t 146) (.t 148) (.c (.bool false)))]
 (.cond (.t 149) .skip (.exit 8)))
 (qT (.block 9 (qS [qf 152 4 1, ql 153 1 152, qm 154 12, qq 155 (.slice false 2 (.t 153) none (some (.t 154))), qf 156 4 1, ql 157 1 156, qm 158 12, qi 159 2 157 158, qL 160 2 159, qk 161 67 [155, 160]]
 (.cond (.t 161) (.ops [qc 11 7]) .skip)))
 (.ops [qm 150 12, qv 151 .add [] 150 1, qm 12 151]))))))
 (qT (qS [qm 162 11, qv 163 .neq [.i] 162 0]
 (.cond (.t 163) (.seq (.ops [qm 164 11, qq 165 (.call .f (.c (.fn 27 [])) [.t 164, .c (.int .i64 (-5))]), qs 2 2 165]) .ret) .skip))
 (qS [qL 166 6 1, qf 167 5 1, ql 168 1 167, qk 169 68 [168], qq 170 (.call .f (.c (.fn 66 [])) [.t 166, .c (.sl .nil []), .t 169, .c (.int .i64 8)]), qm 11 170]
 (qT (qS [qm 171 11, qv 172 .neq [.i] 171 0]
 (.cond (.t 172) (.seq (.ops [qm 173 11, qq 174 (.call .f (.c (.fn 27 [])) [.t 173, .c (.int .i64 (-6))]), qs 2 2 174]) .ret) .skip))
 (.seq (.ops [qq 175 (.build [.int .i64 0, .int .i64 0] []), qs 2 2 175]) .ret)))))))))))))))
def r_R1_DomainFault : List RVar := [.cell true 2 2]
def n_R1_DomainFault : Nat := 176
theorem k_R1_DomainFault : chkFn Go.Proofs.Tryz.prog 26 n_R1_DomainFault r_R1_DomainFault c_R1_DomainFault = true := by kernel_rfl
theorem f_R1_DomainFault (d : Dom) (ho : DoOk d) : Fc Go.Proofs.Tryz.prog 26 [domV d] (ftV (domFault d)) := by
  have hT := f_R1_TypesFault d.types ho.types
  have hO := f_R1_ObjectsFault d.types ho.types.1 d.objects ho.objects
  unfold domFault
  by_cases t1 : typesFault d.types = okF
  · rw [if_neg (by simp [t1])]
    rw [t1] at hT
    by_cases t2 : objectsFault d.types.length d.objects = okF
    · rw [if_neg (by simp [t2])]
      rw [t2] at hO
      have hd := doTy_of t1 t2
      have hpl := ho.preds.1
      have hsl := ho.schemas.1
      by_cases t3 : d.preds.length > 8
      · rw [if_pos t3]
        refine Fn.step mixed k_R1_DomainFault ?_
        repeat' (first | refine i_len rfl ?_ | refine i_s rfl ?_ | refine sw ?_ | refine c_f rfl ?_ | refine i_stb rfl ?_ | refine i_alloc rfl ?_ | refine i_box rfl rfl ?_ | refine c_cond rfl (fun h => ?_) (fun h => ?_) | refine sf rfl rfl hT ?_ | refine sf rfl rfl hO ?_ | refine sf rfl rfl (f_R1_At _ _) ?_ | fail)
        all_goals first
          | exact e_ret ⟨rfl, _, rfl, rfl⟩
          | (exfalso; clear hT hO; simp at *; omega)
          | (exfalso; clear hT hO; simp_all; done)
      · rw [if_neg t3]
        refine Fn.step mixed k_R1_DomainFault ?_
        repeat' (first | refine i_len rfl ?_ | refine i_s rfl ?_ | refine sw ?_ | refine c_f rfl ?_ | refine i_stb rfl ?_ | refine i_alloc rfl ?_ | refine i_box rfl rfl ?_ | refine c_cond rfl (fun h => ?_) (fun h => ?_) | refine sf rfl rfl hT ?_ | refine sf rfl rfl hO ?_ | refine sf rfl rfl (f_R1_At _ _) ?_ | fail)
        all_goals first
          | (exfalso; clear hT hO; simp at *; omega)
          | (exfalso; clear hT hO; simp [okF] at *; done)
          | skip
        clear hT hO
        refine c_for d.preds.length (fun k => [(1, .bptr 1664070 0), (2, .bptr 1664130 0), (4, .int .i64 k)]) (fun _ => [(1664070, .box (domV d)), (1664130, .box (ftV okF))]) (fun k => ∀ j, j < k → nzF (prdCode d) (fun _ => -3) j = none) all_zero ft fun k hk hi => ?_
        by_cases hlt : k < d.preds.length
        · obtain ⟨p, hp⟩ := get_some hlt
          have hpo := ho.preds.2 p (mem_get hp)
          have hN := f_R1_Name p.name hpo.1
          have hC := f_R1_TypesCode d ho.types.1 p.types (by omega)
          have hcode : prdCode d k = if nameB p.name = false ∨ p.name = notS then 12 else if (d.preds.take k).any (fun q => q.name == p.name) = true then 7 else paramsCode d.types.length p.types := by simp only [prdCode, hp]
          by_cases c1 : nameB p.name = false ∨ p.name = notS
          · rw [if_pos c1] at hcode
            rw [scan0_hit hi hlt (show nzF (prdCode d) (fun _ => -3) k = some ⟨12, -3⟩ by unfold nzF; rw [hcode, if_neg (by decide)])]
            clear hi ho hcode hC
            have c3 : nameB p.name = true → (p.name == [110, 111, 116]) = true := fun h => by
              rcases c1 with c1 | c1
              · rw [h] at c1; cases c1
              · rw [c1]; rfl
            generalize nameB p.name = b1 at *
            clear c1
            repeat' (first | refine i_len rfl ?_ | refine i_s rfl ?_ | refine sw ?_ | refine i_gt rfl ?_ | refine i_gf rfl ?_ | refine c_t rfl ?_ | refine jd rfl rfl ?_ | refine i_stb rfl ?_ | refine i_alloc rfl ?_ | (refine sp ?_ ?_ <;> try intro h) | refine sf rfl rfl hN ?_ | refine sf rfl rfl (f_R1_At _ _) ?_ | fail)
            all_goals first
              | exact e_ret ⟨rfl, _, rfl, rfl⟩
              | (exfalso; clear hN; simp at *; omega)
              | (exfalso; clear hN; cases b1 <;> simp_all; done)
          · rw [if_neg c1] at hcode
            have c2 : nameB p.name = true := by
              cases h : nameB p.name with
              | true => rfl
              | false => exact absurd (.inl h) c1
            have c3 : (p.name == [110, 111, 116]) = false := by rw [beq_eq_false_iff_ne]; exact fun h => c1 (.inr h)
            rw [c2] at hN
            clear c1 c2
            repeat' (first | refine i_len rfl ?_ | refine i_s rfl ?_ | refine sw ?_ | refine i_gt rfl ?_ | refine jd rfl rfl ?_ | refine i_stb rfl ?_ | refine i_alloc rfl ?_ | refine c_cond rfl (fun h => ?_) (fun h => ?_) | refine sf rfl rfl hN ?_ | refine sf rfl rfl (f_R1_At _ _) ?_ | fail)
            all_goals first
              | (exfalso; clear hN hC; simp at *; omega)
              | (exfalso; clear hN hC; simp_all; done)
              | skip
            clear hN
            refine c_for k (fun j => [(1, .bptr 1664070 0), (2, .bptr 1664130 0), (4, .int .i64 k), (5, .bptr 1664322 0), (6, .int .i64 j)]) (fun _ => [(1664070, .box (domV d)), (1664130, .box (ftV okF)), (1664322, .box (prdV p))]) (fun j => ∀ i, i < j → ∀ q, d.preds[i]? = some q → (q.name == p.name) = false) all_zero ft fun j hj hij => ?_
            by_cases hjk : j < k
            · obtain ⟨q, hq⟩ := get_some (l := d.preds) (k := j) (by omega)
              clear hC
              cases hqp : q.name == p.name with
              | true =>
                have hany : (d.preds.take k).any (fun q => q.name == p.name) = true := any_take_hit (p := fun u => u.name == p.name) hjk hq hqp
                rw [if_pos hany] at hcode
                rw [scan0_hit hi hlt (show nzF (prdCode d) (fun _ => -3) k = some ⟨7, -3⟩ by unfold nzF; rw [hcode, if_neg (by decide)])]
                clear hi ho hcode hany hij c3
                repeat' (first | refine i_s rfl ?_ | refine sw ?_ | refine ja rfl rfl ?_ | refine jd rfl rfl ?_ | refine i_stb rfl ?_ | refine c_cond rfl (fun h => ?_) (fun h => ?_) | refine sf rfl rfl (f_R1_At _ _) ?_ | fail)
                all_goals first
                  | exact e_ret ⟨rfl, _, rfl, rfl⟩
                  | (exfalso; simp at *; omega)
                  | (exfalso; simp_all; done)
              | false =>
                clear hi ho hcode c3
                repeat' (first | refine i_s rfl ?_ | refine sw ?_ | refine ja rfl rfl ?_ | refine jd rfl rfl ?_ | refine i_stb rfl ?_ | refine c_cond rfl (fun h => ?_) (fun h => ?_) | refine sf rfl rfl (f_R1_At _ _) ?_ | fail)
                all_goals first
                  | (exact e_for hjk (all_succ hij fun y hy => by rw [hq] at hy; cases hy; exact hqp) ft)
                  | (exfalso; simp at *; omega)
                  | (exfalso; simp_all; done)
            · have hany : (d.preds.take k).any (fun q => q.name == p.name) = false := any_take_none fun i hik => hij i (by omega)
              rw [if_neg (by simp [hany])] at hcode
              rw [← hcode] at hC
              clear hcode hany hij c3
              by_cases z : prdCode d k = 0
              · have hn : nzF (prdCode d) (fun _ => -3) k = none := by unfold nzF; rw [if_pos z]
                rw [z] at hC
                clear ho
                repeat' (first | refine i_s rfl ?_ | refine sw ?_ | refine c_f rfl ?_ | refine ja rfl rfl ?_ | refine c_cond rfl (fun h => ?_) (fun h => ?_) | refine sf rfl rfl hC ?_ | fail)
                all_goals first
                  | (exact e_for hlt (all_succ hi hn) ft)
                  | (exfalso; clear hC; simp at *; omega)
              · rw [scan0_hit hi hlt (show nzF (prdCode d) (fun _ => -3) k = some ⟨prdCode d k, -3⟩ by unfold nzF; rw [if_neg z])]
                clear hi ho
                generalize prdCode d k = c at *
                repeat' (first | refine i_s rfl ?_ | refine sw ?_ | refine ja rfl rfl ?_ | refine i_stb rfl ?_ | refine c_cond rfl (fun h => ?_) (fun h => ?_) | refine sf rfl rfl hC ?_ | refine sf rfl rfl (f_R1_At _ _) ?_ | fail)
                all_goals first
                  | exact e_ret ⟨rfl, _, rfl, rfl⟩
                  | (exfalso; clear hC; simp at *; omega)
        · rw [scan0_none fun j hj => hi j (by omega)]
          clear hi
          by_cases t4 : d.schemas.length > 8
          · simp only
            rw [if_pos t4]
            clear ho
            repeat' (first | refine i_len rfl ?_ | refine i_s rfl ?_ | refine sw ?_ | refine i_stb rfl ?_ | refine c_cond rfl (fun h => ?_) (fun h => ?_) | refine sf rfl rfl (f_R1_At _ _) ?_ | fail)
            all_goals first
              | exact e_ret ⟨rfl, _, rfl, rfl⟩
              | (exfalso; simp at *; omega)
          · simp only
            rw [if_neg t4]
            repeat' (first | refine i_len rfl ?_ | refine i_s rfl ?_ | refine sw ?_ | refine i_stb rfl ?_ | refine c_cond rfl (fun h => ?_) (fun h => ?_) | refine sf rfl rfl (f_R1_At _ _) ?_ | fail)
            all_goals first
              | (exfalso; simp at *; omega)
              | skip
            refine c_for d.schemas.length (fun k => [(1, .bptr 1664070 0), (2, .bptr 1664130 0), (8, .int .i64 k)]) (fun _ => [(1664070, .box (domV d)), (1664130, .box (ftV okF))]) (fun k => ∀ j, j < k → nzF (schCode d) (fun i => i) j = none) all_zero ft fun k hk hi => ?_
            by_cases hlt : k < d.schemas.length
            · obtain ⟨s, hs⟩ := get_some hlt
              have hso := ho.schemas.2 s (mem_get hs)
              have hN := f_R1_Name s.name hso.name
              have hC := f_R1_SchemaCode d hd ho s hso
              have hcode : schCode d k = if nameB s.name = false then 12 else if (d.schemas.take k).any (fun q => q.name == s.name) = true then 7 else schSelf d s := by simp only [schCode, hs]
              cases c1 : nameB s.name with
              | false =>
                rw [if_pos c1] at hcode
                rw [c1] at hN
                rw [scan0_hit hi hlt (show nzF (schCode d) (fun i => i) k = some ⟨12, k⟩ by unfold nzF; rw [hcode, if_neg (by decide)])]
                clear hi ho hcode hC
                repeat' (first | refine i_len rfl ?_ | refine i_s rfl ?_ | refine sw ?_ | refine c_t rfl ?_ | refine jd rfl rfl ?_ | refine i_stb rfl ?_ | refine c_cond rfl (fun h => ?_) (fun h => ?_) | refine sf rfl rfl hN ?_ | refine sf rfl rfl (f_R1_At _ _) ?_ | fail)
                all_goals first
                  | exact e_ret ⟨rfl, _, rfl, rfl⟩
                  | (exfalso; clear hN; simp at *; omega)
              | true =>
                rw [if_neg (by simp [c1])] at hcode
                rw [c1] at hN
                repeat' (first | refine i_len rfl ?_ | refine i_s rfl ?_ | refine sw ?_ | refine c_f rfl ?_ | refine jd rfl rfl ?_ | refine c_cond rfl (fun h => ?_) (fun h => ?_) | refine sf rfl rfl hN ?_ | fail)
                all_goals first
                  | (exfalso; clear hN hC; simp at *; omega)
                  | skip
                clear hN
                refine c_for k (fun j => [(1, .bptr 1664070 0), (2, .bptr 1664130 0), (8, .int .i64 k), (9, .int .i64 j)]) (fun _ => [(1664070, .box (domV d)), (1664130, .box (ftV okF))]) (fun j => ∀ i, i < j → ∀ q, d.schemas[i]? = some q → (q.name == s.name) = false) all_zero ft fun j hj hij => ?_
                by_cases hjk : j < k
                · obtain ⟨q, hq⟩ := get_some (l := d.schemas) (k := j) (by omega)
                  clear hC
                  cases hqp : q.name == s.name with
                  | true =>
                    have hany : (d.schemas.take k).any (fun q => q.name == s.name) = true := any_take_hit (p := fun u => u.name == s.name) hjk hq hqp
                    rw [if_pos hany] at hcode
                    rw [scan0_hit hi hlt (show nzF (schCode d) (fun i => i) k = some ⟨7, k⟩ by unfold nzF; rw [hcode, if_neg (by decide)])]
                    clear hi ho hcode hany hij
                    repeat' (first | refine i_s rfl ?_ | refine sw ?_ | refine ja rfl rfl ?_ | refine jd rfl rfl ?_ | refine i_stb rfl ?_ | refine c_cond rfl (fun h => ?_) (fun h => ?_) | refine sf rfl rfl (f_R1_At _ _) ?_ | fail)
                    all_goals first
                      | exact e_ret ⟨rfl, _, rfl, rfl⟩
                      | (exfalso; simp at *; omega)
                      | (exfalso; simp_all; done)
                  | false =>
                    clear hi ho hcode
                    repeat' (first | refine i_s rfl ?_ | refine sw ?_ | refine ja rfl rfl ?_ | refine jd rfl rfl ?_ | refine i_stb rfl ?_ | refine c_cond rfl (fun h => ?_) (fun h => ?_) | refine sf rfl rfl (f_R1_At _ _) ?_ | fail)
                    all_goals first
                      | (exact e_for hjk (all_succ hij fun y hy => by rw [hq] at hy; cases hy; exact hqp) ft)
                      | (exfalso; simp at *; omega)
                      | (exfalso; simp_all; done)
                · have hany : (d.schemas.take k).any (fun q => q.name == s.name) = false := any_take_none fun i hik => hij i (by omega)
                  rw [if_neg (by simp [hany])] at hcode
                  rw [← hcode] at hC
                  clear hcode hany hij
                  by_cases z : schCode d k = 0
                  · have hn : nzF (schCode d) (fun i => i) k = none := by unfold nzF; rw [if_pos z]
                    rw [z] at hC
                    clear ho
                    repeat' (first | refine i_s rfl ?_ | refine sw ?_ | refine c_f rfl ?_ | refine ja rfl rfl ?_ | refine jd rfl rfl ?_ | refine c_cond rfl (fun h => ?_) (fun h => ?_) | refine sf rfl rfl hC ?_ | fail)
                    all_goals first
                      | (exact e_for hlt (all_succ hi hn) ft)
                      | (exfalso; clear hC; simp at *; omega)
                  · rw [scan0_hit hi hlt (show nzF (schCode d) (fun i => i) k = some ⟨schCode d k, k⟩ by unfold nzF; rw [if_neg z])]
                    clear hi ho
                    generalize schCode d k = c at *
                    repeat' (first | refine i_s rfl ?_ | refine sw ?_ | refine ja rfl rfl ?_ | refine jd rfl rfl ?_ | refine i_stb rfl ?_ | refine c_cond rfl (fun h => ?_) (fun h => ?_) | refine sf rfl rfl hC ?_ | refine sf rfl rfl (f_R1_At _ _) ?_ | fail)
                    all_goals first
                      | exact e_ret ⟨rfl, _, rfl, rfl⟩
                      | (exfalso; clear hC; simp at *; omega)
            · rw [scan0_none fun j hj => hi j (by omega)]
              clear hi
              simp only
              have hil := ho.init.1
              have hS := f_R1_AtomsCode d hd hpl [] ⟨by simp, by simp⟩ d.init (by omega) ho.init.2 40 (by omega)
              have hO := f_R1_AtomsOf d.goal ho.goal.1
              have hG := f_R1_AtomsCode d hd hpl [] ⟨by simp, by simp⟩ (d.goal.map Lit.at_) (by have := ho.goal.1; simp; omega) (by intro a ha; obtain ⟨x, hx, rfl⟩ := List.mem_map.1 ha; exact ho.goal.2 x hx) 8 (by omega)
              have hinit := ho.init.2
              have hsc : startCode d = if atomsCode d [] d.init 40 ≠ 0 then atomsCode d [] d.init 40 else (scan (dupBad d.init) 0 d.init.length).getD 0 := rfl
              generalize startCode d = sc at *
              clear ho
              generalize atomsCode d [] d.init 40 = c1 at *
              generalize atomsCode d [] (d.goal.map Lit.at_) 8 = c2 at *
              repeat' (first | refine i_len rfl ?_ | refine i_s rfl ?_ | refine sw ?_ | refine c_cond rfl (fun h => ?_) (fun h => ?_) | refine sf rfl rfl hS ?_ | fail)
              all_goals first
                | (exfalso; clear hS hG hO hinit; simp at *; omega)
                | skip
              clear hS
              refine c_lp (ι := Nat × Int) (fun p => [(1, .bptr 1664070 0), (2, .bptr 1664130 0), (11, .int .i64 p.2), (12, .int .i64 p.1)]) (fun _ => [(1664070, .box (domV d)), (1664130, .box (ftV okF))])
                (fun p => p.1 ≤ d.init.length ∧ ((p.2 = 0 ∧ c1 = 0 ∧ ∀ j, j < p.1 → dupBad d.init j = none) ∨ (p.2 ≠ 0 ∧ p.2 = sc))) (fun p => d.init.length - p.1) (0, c1)
                ⟨Nat.zero_le _, by
                  by_cases z : c1 = 0
                  · exact .inl ⟨z, z, fun j hj => by omega⟩
                  · rw [if_pos z] at hsc
                    exact .inr ⟨z, hsc.symm⟩⟩ ft fun p hp => ?_
              obtain ⟨k, e⟩ := p
              obtain ⟨hk, hp⟩ := hp
              simp only at hk hp
              rcases hp with ⟨he, hc1, hi⟩ | ⟨he, hsc2⟩
              · subst he
                subst hc1
                rw [if_neg (by simp)] at hsc
                by_cases hlt : k < d.init.length
                · obtain ⟨x, hx⟩ := get_some hlt
                  have hH := f_R1_HasAtom (d.init.take k) x (by simp; omega) (fun y hy => hinit y (List.mem_of_mem_take hy)) (hinit x (mem_get hx))
                  have hbad : dupBad d.init k = if x ∈ d.init.take k then some 7 else none := by simp only [dupBad, hx]
                  clear hO hG
                  by_cases hm : x ∈ d.init.take k
                  · rw [if_pos hm] at hbad
                    rw [decide_eq_true hm] at hH
                    rw [scan0_hit hi hlt hbad] at hsc
                    clear hi hbad hm
                    repeat' (first | refine i_len rfl ?_ | refine i_s rfl ?_ | refine sw ?_ | refine i_gt rfl ?_ | refine i_gf rfl ?_ | refine c_t rfl ?_ | refine c_f rfl ?_ | refine ja rfl rfl ?_ | refine jd rfl rfl ?_ | refine jh rfl rfl ?_ | refine i_g rfl (fun h => ?_) (fun h => ?_) | refine sf rfl rfl hH ?_ | fail)
                    all_goals first
                      | (exact e_lp (k + 1, 7) ⟨by simp only; omega, .inr ⟨by simp, hsc.symm⟩⟩ (by simp only; omega) ft)
                      | (exfalso; clear hH; simp at *; omega)
                  · rw [if_neg hm] at hbad
                    rw [decide_eq_false hm] at hH
                    clear hm
                    repeat' (first | refine i_len rfl ?_ | refine i_s rfl ?_ | refine sw ?_ | refine i_gt rfl ?_ | refine i_gf rfl ?_ | refine c_t rfl ?_ | refine c_f rfl ?_ | refine ja rfl rfl ?_ | refine jd rfl rfl ?_ | refine jh rfl rfl ?_ | refine i_g rfl (fun h => ?_) (fun h => ?_) | refine sf rfl rfl hH ?_ | fail)
                    all_goals first
                      | (exact e_lp (k + 1, 0) ⟨by simp only; omega, .inl ⟨rfl, rfl, all_succ hi hbad⟩⟩ (by simp only; omega) ft)
                      | (exfalso; clear hH; simp at *; omega)
                · rw [scan0_none fun j hj => hi j (by omega)] at hsc
                  have hsc : sc = 0 := hsc
                  subst hsc
                  rw [if_neg (by simp)]
                  clear hi
                  by_cases z2 : c2 = 0
                  · subst z2
                    rw [if_neg (by simp)]
                    repeat' (first | refine i_len rfl ?_ | refine i_s rfl ?_ | refine sw ?_ | refine i_gt rfl ?_ | refine i_gf rfl ?_ | refine c_t rfl ?_ | refine c_f rfl ?_ | refine jh rfl rfl ?_ | refine i_stb rfl ?_ | refine i_g rfl (fun h => ?_) (fun h => ?_) | refine sf rfl rfl hO ?_ | refine sf rfl rfl hG ?_ | fail)
                    all_goals first
                      | exact e_ret ⟨rfl, _, rfl, rfl⟩
                      | (exfalso; clear hO hG; simp at *; omega)
                  · rw [if_pos z2]
                    repeat' (first | refine i_len rfl ?_ | refine i_s rfl ?_ | refine sw ?_ | refine i_gt rfl ?_ | refine i_gf rfl ?_ | refine c_t rfl ?_ | refine c_f rfl ?_ | refine jh rfl rfl ?_ | refine i_stb rfl ?_ | (refine sp ?_ ?_ <;> try intro h) | refine sf rfl rfl hO ?_ | refine sf rfl rfl hG ?_ | refine sf rfl rfl (f_R1_At _ _) ?_ | fail)
                    all_goals first
                      | exact e_ret ⟨rfl, _, rfl, rfl⟩
                      | (exfalso; clear hO hG; simp at *; omega)
              · clear hO hG
                rw [if_pos (by rw [← hsc2]; exact he)]
                subst hsc2
                clear hsc
                repeat' (first | refine i_len rfl ?_ | refine i_s rfl ?_ | refine sw ?_ | refine i_gt rfl ?_ | refine i_gf rfl ?_ | refine c_f rfl ?_ | refine jh rfl rfl ?_ | refine i_stb rfl ?_ | (refine sp ?_ ?_ <;> try intro h) | refine sf rfl rfl (f_R1_At _ _) ?_ | fail)
                all_goals first
                  | exact e_ret ⟨rfl, _, rfl, rfl⟩
                  | (exfalso; simp at *; omega)
                  | (exfalso; simp_all; done)
    · rw [if_pos t2]
      have ht2 : (objectsFault d.types.length d.objects).code ≠ 0 := fun h => t2 ((objectsFault_code _ _).1 h)
      clear ho
      generalize objectsFault d.types.length d.objects = F at *
      refine Fn.step mixed k_R1_DomainFault ?_
      repeat' (first | refine i_len rfl ?_ | refine i_s rfl ?_ | refine sw ?_ | refine c_f rfl ?_ | refine i_stb rfl ?_ | refine i_alloc rfl ?_ | refine i_box rfl rfl ?_ | refine c_cond rfl (fun h => ?_) (fun h => ?_) | refine sf rfl rfl hT ?_ | refine sf rfl rfl hO ?_ | refine sf rfl rfl (f_R1_At _ _) ?_ | fail)
      all_goals first
        | exact e_ret ⟨rfl, _, rfl, rfl⟩
        | (exfalso; clear hT hO; simp at *; omega)
        | (exfalso; clear hT hO; simp_all; done)
        | (exfalso; clear hT hO; simp [okF] at *; done)
  · rw [if_pos t1]
    have ht1 : (typesFault d.types).code ≠ 0 := fun h => t1 ((typesFault_code _).1 h)
    clear ho hO
    generalize typesFault d.types = F at *
    refine Fn.step mixed k_R1_DomainFault ?_
    repeat' (first | refine i_s rfl ?_ | refine sw ?_ | refine i_stb rfl ?_ | refine i_alloc rfl ?_ | refine i_box rfl rfl ?_ | refine c_cond rfl (fun h => ?_) (fun h => ?_) | refine sf rfl rfl hT ?_ | refine sf rfl rfl (f_R1_At _ _) ?_ | fail)
    all_goals first
      | exact e_ret ⟨rfl, _, rfl, rfl⟩
      | (exfalso; clear hT; simp at *; omega)
      | (exfalso; clear hT; simp_all; done)
      | (exfalso; clear hT; simp [okF] at *; done)
abbrev ilV (a : List Int) : V := .sl .p (a.map i64V)
def nxL (A : List (List Int)) (M : List Int) : List (List Int) := A.flatMap fun a => M.map fun o => a ++ [o]
theorem nxL_snoc (A : List (List Int)) (a : List Int) (M : List Int) : nxL (A ++ [a]) M = nxL A M ++ M.map fun o => a ++ [o] := by
  unfold nxL; rw [List.flatMap_append]; simp
theorem nxL_len (A : List (List Int)) (M : List Int) : (nxL A M).length = A.length * M.length := by
  unfold nxL
  induction A with
  | nil => simp
  | cons a r ih => simp only [List.flatMap_cons, List.length_append, List.length_map, ih, List.length_cons, Nat.add_mul]; omega
def c_R2_ArgLists : Cmd :=
 (qS [qx 2 2112134 6 0, qq 4 (.mov (.c (.sl .nil [])))]
 (qS [qq 11 (.bsl 1 [.c (.sl .p [])]), qm 5 11]
 (qT (qS [qc 6 0]
 (.block 0 (.loop (qT (qS [qm 12 6, qm 13 1, qn 14 13, qu 15 .lss [] 12 14]
 (.cond (.t 15) .skip (.exit 0)))
 (qT (.block 1 (qS [qf 18 0 2, ql 19 1 18, qf 20 1 2, ql 21 1 20, qm 22 1, qm 23 6, qi 24 1 22 23, ql 25 1 24, qk 26 79 [19, 21, 25], qm 7 26]
 (qS [qq 8 (.newVec 2112513)]
 (.seq (qS [qc 9 0]
 (.block 2 (.loop (qT (qS [qm 27 9, qm 28 5, qn 29 28, qu 30 .lss [] 27 29]
 (.cond (.t 30) .skip (.exit 2)))
 (qT (.block 3 (qS [qc 10 0]
 (.block 4 (.loop (qT (qS [qm 33 10, qm 34 7, qn 35 34, qu 36 .lss [] 33 35]
 (.cond (.t 36) .skip (.exit 4)))
 (qT (.block 5 (.ops [qm 39 8, qm 40 5, qm 41 9, qi 42 1 40 41, ql 43 1 42, qm 44 7, qm 45 10, qi 46 1 44 45, ql 47 1 46, qk 48 80 [43, 47], qq 49 (.bsl 1 [.t 48]), qq 50 (.append 1 24 39 (.t 39) (.t 49)), qm 8 50]))
 (.ops [qm 37 10, qv 38 .add [] 37 1, qm 10 38])))))))
 (.ops [qm 31 9, qv 32 .add [] 31 1, qm 9 32])))))) (qT (.frz 8)
 (.ops [qm 51 8, qm 5 51]))))))
 (.ops [qm 16 6, qv 17 .add [] 16 1, qm 6 17]))))))
 (.seq (.ops [qm 52 5, qm 4 52]) .ret))))
def r_R2_ArgLists : List RVar := [.tmp 4]
def n_R2_ArgLists : Nat := 53
theorem k_R2_ArgLists : chkFn Go.Proofs.Tryz.prog 33 n_R2_ArgLists r_R2_ArgLists c_R2_ArgLists = true := by kernel_rfl
theorem f_R2_ArgLists (d : Dom) (hd : DoTy d) (want : List Int) (hw : want.length ≤ 3) : Fc Go.Proofs.Tryz.prog 33 [domV d, .sl .p (want.map i64V)] (.sl .p ((argL d want).map ilV)) := by
  refine Fn.step mixed k_R2_ArgLists ?_
  repeat (first | refine i_s rfl ?_ | refine sw ?_ | refine i_box rfl rfl ?_)
  refine c_for want.length (fun i => [(1, .sl .p (want.map i64V)), (2, .bptr 2112134 0), (5, .sl .p ((argL d (want.take i)).map ilV)), (6, .int .i64 i)]) (fun i => [(2112134, .box (domV d))]) (fun _ => True) trivial ft fun i hi _ => ?_
  by_cases hlt : i < want.length
  · obtain ⟨t, ht⟩ := get_some hlt
    have hM := f_R1_MembersOf d.types hd.ty d.objects hd.ol hd.o t
    have hMl := mem_pos (l := d.types) (os := d.objects) (t := t) rfl
    have hol := hd.ol
    have hA := argL_512 (ts := want.take i) hd.ol (by simp; omega)
    have hAr : ∀ a ∈ argL d (want.take i), a.length ≤ 3 := fun a ha => by
      have := (argL_rng ha).1
      rw [this]; simp; omega
    have e1 : argL d (want.take (i + 1)) = nxL (argL d (want.take i)) (memO d t) := by rw [take_succ_get ht, argL_snoc]; rfl
    change argL d (want.take (i + 1)) = nxL (argL d (want.take i)) (membersOf d.types d.objects t) at e1
    generalize membersOf d.types d.objects t = M at *
    generalize argL d (want.take i) = A at *
    generalize hB : argL d (want.take (i + 1)) = B at *
    repeat' (first | refine i_len rfl ?_ | refine i_s rfl ?_ | refine sw ?_ | refine jd rfl rfl ?_ | refine i_nv rfl ?_ | refine c_cond rfl (fun h => ?_) (fun h => ?_) | refine sf rfl rfl hM ?_ | fail)
    all_goals first
      | (exfalso; clear hM; simp at *; done)
      | (exfalso; clear hM; simp at *; omega)
      | skip
    clear hM
    refine c_for A.length (fun k => [(1, .sl .p (want.map i64V)), (2, .bptr 2112134 0), (5, .sl .p (A.map ilV)), (6, .int .i64 i), (7, .sl .p (M.map i64V)), (8, .sl (.own 2112513) ((nxL (A.take k) M).map ilV)), (9, .int .i64 k)])
      (fun k => [(2112134, .box (domV d)), (2112513, .vec (nxL (A.take k) M).length)]) (fun _ => True) trivial ft fun k hk _ => ?_
    have hkl : (nxL (A.take k) M).length ≤ 4096 := by
      rw [nxL_len]
      have : (A.take k).length ≤ 512 := by simp; omega
      exact Nat.le_trans (Nat.mul_le_mul this (show M.length ≤ 8 by omega)) (by omega)
    by_cases hlk : k < A.length
    · obtain ⟨a, ha⟩ := get_some hlk
      have hal := hAr a (mem_get ha)
      have e2 : nxL (A.take (k + 1)) M = nxL (A.take k) M ++ M.map fun o => a ++ [o] := by rw [take_succ_get ha, nxL_snoc]
      generalize hC : nxL (A.take (k + 1)) M = C at *
      generalize nxL (A.take k) M = D at *
      repeat' (first | refine i_len rfl ?_ | refine i_s rfl ?_ | refine sw ?_ | refine c_cond rfl (fun h => ?_) (fun h => ?_))
      all_goals first
        | (exfalso; simp at *; done)
        | (exfalso; simp at *; omega)
        | skip
      refine c_for M.length (fun j => [(1, .sl .p (want.map i64V)), (2, .bptr 2112134 0), (5, .sl .p (A.map ilV)), (6, .int .i64 i), (7, .sl .p (M.map i64V)), (8, .sl (.own 2112513) ((D ++ (M.take j).map fun o => a ++ [o]).map ilV)), (9, .int .i64 k), (10, .int .i64 j)])
        (fun j => [(2112134, .box (domV d)), (2112513, .vec (D ++ (M.take j).map fun o => a ++ [o]).length)]) (fun _ => True) trivial ⟨⟨rfl, rfl, rfl, rfl, rfl, ?_, rfl, rfl, trivial⟩, ⟨rfl, ?_, trivial⟩, rfl⟩ fun j hj _ => ?_
      · show V.sl _ _ = V.sl _ _; simp
      · show Blk.vec _ = Blk.vec _; simp
      have hjl : (D ++ (M.take j).map fun o => a ++ [o]).length ≤ 4096 + 8 := by simp; omega
      by_cases hlj : j < M.length
      · obtain ⟨o, hx⟩ := get_some hlj
        have hR := f_R2_more a (by omega) o
        have e3 : D ++ (M.take (j + 1)).map (fun o => a ++ [o]) = (D ++ (M.take j).map fun o => a ++ [o]) ++ [a ++ [o]] := by rw [take_succ_get hx, List.map_append, List.append_assoc]; rfl
        generalize hU : D ++ (M.take (j + 1)).map (fun o => a ++ [o]) = U at *
        generalize (D ++ (M.take j).map fun o => a ++ [o]) = W at *
        repeat' (first | refine i_len rfl ?_ | refine i_s rfl ?_ | refine sw ?_ | refine ja rfl rfl ?_ | refine jd rfl rfl ?_ | refine c_cond rfl (fun h => ?_) (fun h => ?_) | refine sf rfl rfl hR ?_ | fail)
        all_goals first
          | (exfalso; clear hR; simp at *; done)
          | (exfalso; clear hR; simp at *; omega)
          | skip
        refine i_appM (c := a ++ [o]) rfl rfl rfl rfl rfl (by omega) (by omega) ?_
        repeat' (first | refine i_s rfl ?_ | refine sw ?_ | refine ja rfl rfl ?_ | fail)
        refine e_for hlj trivial ⟨⟨rfl, rfl, rfl, rfl, rfl, ?_, rfl, rfl, trivial⟩, ⟨rfl, ?_, trivial⟩, rfl⟩
        · rw [hU, e3]; rfl
        · rw [hU, e3]; simp; rfl
      have hge : j = M.length := by omega
      subst hge
      rw [List.take_length, ← e2]
      rw [List.take_length, ← e2] at hjl
      repeat' (first | refine i_len rfl ?_ | refine i_s rfl ?_ | refine sw ?_ | refine ja rfl rfl ?_ | refine jd rfl rfl ?_ | refine c_cond rfl (fun h => ?_) (fun h => ?_))
      all_goals first
        | (exfalso; simp at *; done)
        | (exfalso; simp at *; omega)
        | skip
      refine e_for hlk trivial ⟨⟨rfl, rfl, rfl, rfl, rfl, ?_, rfl, trivial⟩, ⟨rfl, ?_, trivial⟩, rfl⟩
      · rw [hC]; rfl
      · rw [hC]; rfl
    have hge : k = A.length := by omega
    subst hge
    rw [List.take_length, ← e1]
    repeat' (first | refine i_len rfl ?_ | refine i_s rfl ?_ | refine sw ?_ | refine c_cond rfl (fun h => ?_) (fun h => ?_))
    all_goals first
      | (exfalso; simp at *; done)
      | (exfalso; simp at *; omega)
      | skip
    refine c_frzv rfl rfl ?_
    repeat' (first | refine i_s rfl ?_ | refine sw ?_ | refine ja rfl rfl ?_ | fail)
    refine e_for hlt trivial ⟨⟨rfl, rfl, ?_, rfl, trivial⟩, ⟨rfl, trivial⟩, rfl⟩
    rw [hB]; rfl
  have hge : i = want.length := by omega
  subst hge
  rw [List.take_length]
  repeat' (first | refine i_len rfl ?_ | refine i_s rfl ?_ | refine sw ?_ | refine c_cond rfl (fun h => ?_) (fun h => ?_))
  all_goals first
    | exact e_ret ⟨rfl, _, rfl, rfl⟩
    | (exfalso; simp at *; done)
    | (exfalso; simp at *; omega)
def c_R2_AllAtoms : Cmd :=
 (qS [qx 1 768070 6 0, qq 2 (.mov (.c (.sl .nil [])))]
 (qS [qq 3 (.newVec 768194)]
 (qT (qS [qc 4 0]
 (.block 0 (.loop (qT (qS [qm 7 4, qf 8 2 1, ql 9 1 8, qn 10 9, qu 11 .lss [] 7 10]
 (.cond (.t 11) .skip (.exit 0)))
 (qT (.block 1 (qS [qL 14 6 1, qf 15 2 1, ql 16 1 15, qm 17 4, qi 18 2 16 17, qf 19 1 18, ql 20 1 19, qk 21 33 [14, 20], qm 5 21]
 (qS [qc 6 0]
 (.block 2 (.loop (qT (qS [qm 22 6, qm 23 5, qn 24 23, qu 25 .lss [] 22 24]
 (.cond (.t 25) .skip (.exit 2)))
 (qT (.block 3 (.ops [qm 28 3, qm 29 4, qm 30 5, qm 31 6, qi 32 1 30 31, ql 33 1 32, qq 34 (.build [.int .i64 0, .sl .nil []] [(0 , 1 , .t 29), (1 , 1 , .t 33)]), qq 35 (.bsl 2 [.t 34]), qq 36 (.append 2 32 52 (.t 28) (.t 35)), qm 3 36]))
 (.ops [qm 26 6, qv 27 .add [] 26 1, qm 6 27]))))))))
 (.ops [qm 12 4, qv 13 .add [] 12 1, qm 4 13]))))))
 (.seq (.ops [qm 37 3, qm 2 37]) .ret))))
def r_R2_AllAtoms : List RVar := [.tmp 2]
def n_R2_AllAtoms : Nat := 38
theorem k_R2_AllAtoms : chkFn Go.Proofs.Tryz.prog 12 n_R2_AllAtoms r_R2_AllAtoms c_R2_AllAtoms = true := by kernel_rfl
theorem f_R2_AllAtoms (d : Dom) (hd : DomV d) : Fc Go.Proofs.Tryz.prog 12 [domV d] (.sl .p ((allAt d).map atV)) := by
  have hpl := hd.pl
  refine Fn.step mixed k_R2_AllAtoms ?_
  repeat (first | refine i_s rfl ?_ | refine sw ?_ | refine i_box rfl rfl ?_ | refine i_nv rfl ?_)
  refine c_for d.preds.length (fun k => [(1, .bptr 768070 0), (3, .sl (.own 768194) ((atomsK d k).map atV)), (4, .int .i64 k)]) (fun k => [(768070, .box (domV d)), (768194, .vec (atomsK d k).length)]) (fun _ => True) trivial ft fun k hk _ => ?_
  have hkl := atomsK_4096 hd hk
  by_cases hlt : k < d.preds.length
  · obtain ⟨x, hx⟩ := get_some hlt
    have hxt := (prdVal_of hd hx).types.1
    have hA := f_R2_ArgLists d hd.ty x.types hxt
    have hal := argL_512 hd.ty.ol hxt
    have e1 : atomsK d (k + 1) = atomsK d k ++ (argL d x.types).map fun a => ⟨k, a⟩ := by rw [atomsK_succ, predAt_some hx]
    generalize hB : atomsK d (k + 1) = B at *
    generalize atomsK d k = A at *
    generalize argL d x.types = L at *
    repeat' (first | refine i_len rfl ?_ | refine i_s rfl ?_ | refine sw ?_ | refine jd rfl rfl ?_ | refine c_cond rfl (fun h => ?_) (fun h => ?_) | refine sf rfl rfl hA ?_ | fail)
    all_goals first
      | (exfalso; clear hA; simp at *; done)
      | (exfalso; clear hA; simp at *; omega)
      | skip
    clear hA
    refine c_for L.length (fun j => [(1, .bptr 768070 0), (3, .sl (.own 768194) ((A ++ (L.take j).map fun a => (⟨k, a⟩ : At)).map atV)), (4, .int .i64 k), (5, .sl .p (L.map ilV)), (6, .int .i64 j)])
      (fun j => [(768070, .box (domV d)), (768194, .vec (A ++ (L.take j).map fun a => (⟨k, a⟩ : At)).length)]) (fun _ => True) trivial ⟨⟨rfl, ?_, rfl, rfl, rfl, trivial⟩, ⟨rfl, ?_, trivial⟩, rfl⟩ fun j hj _ => ?_
    · show V.sl _ _ = V.sl _ _; simp
    · show Blk.vec _ = Blk.vec _; simp
    have hjl : (A ++ (L.take j).map fun a => (⟨k, a⟩ : At)).length ≤ 4096 + 512 := by simp; omega
    by_cases hlj : j < L.length
    · obtain ⟨a, ha⟩ := get_some hlj
      have e3 : A ++ (L.take (j + 1)).map (fun a => (⟨k, a⟩ : At)) = (A ++ (L.take j).map fun a => (⟨k, a⟩ : At)) ++ [⟨k, a⟩] := by rw [take_succ_get ha, List.map_append, List.append_assoc]; rfl
      generalize hU : A ++ (L.take (j + 1)).map (fun a => (⟨k, a⟩ : At)) = U at *
      generalize (A ++ (L.take j).map fun a => (⟨k, a⟩ : At)) = W at *
      repeat' (first | refine i_len rfl ?_ | refine i_s rfl ?_ | refine sw ?_ | refine ja rfl rfl ?_ | refine jd rfl rfl ?_ | refine c_cond rfl (fun h => ?_) (fun h => ?_))
      all_goals first
        | (exfalso; simp at *; done)
        | (exfalso; simp at *; omega)
        | skip
      refine i_appM (c := (⟨k, a⟩ : At)) rfl rfl rfl rfl rfl (by omega) (by omega) ?_
      repeat' (first | refine i_s rfl ?_ | refine sw ?_ | refine ja rfl rfl ?_ | fail)
      refine e_for hlj trivial ⟨⟨rfl, ?_, rfl, rfl, rfl, trivial⟩, ⟨rfl, ?_, trivial⟩, rfl⟩
      · rw [hU, e3]; rfl
      · rw [hU, e3]; simp; rfl
    have hge : j = L.length := by omega
    subst hge
    rw [List.take_length, ← e1]
    rw [List.take_length, ← e1] at hjl
    repeat' (first | refine i_len rfl ?_ | refine i_s rfl ?_ | refine sw ?_ | refine ja rfl rfl ?_ | refine c_cond rfl (fun h => ?_) (fun h => ?_))
    all_goals first
      | (exfalso; simp at *; done)
      | (exfalso; simp at *; omega)
      | skip
    refine e_for hlt trivial ⟨⟨rfl, ?_, rfl, trivial⟩, ⟨rfl, ?_, trivial⟩, rfl⟩
    · rw [hB]; rfl
    · rw [hB]; rfl
  have hge : k = d.preds.length := by omega
  subst hge
  repeat' (first | refine i_len rfl ?_ | refine i_s rfl ?_ | refine sw ?_ | refine c_cond rfl (fun h => ?_) (fun h => ?_))
  all_goals first
    | exact e_ret ⟨rfl, _, rfl, rfl⟩
    | (exfalso; simp at *; done)
    | (exfalso; simp at *; omega)
def c_R2_AtomsFault : Cmd :=
 (qS [qx 1 512070 6 0, qq 2 (.alloc 512130 (.agg [.int .i64 0, .int .i64 0]))]
 (qS [qL 4 6 1, qk 5 26 [4], qq 3 (.alloc 512194 (.agg [.int .i64 0, .int .i64 0])), qs 2 3 5]
 (qT (qS [qf 6 0 3, ql 7 1 6, qv 8 .eql [.i] 7 0, qm 9 8, qg 10 9 true (.load true 6 (.t 1)), qg 11 9 true (.call .f (.c (.fn 12 [])) [.t 10]), qg 12 9 true (.len false (.t 11)), qg 13 9 true (.bin .gtr false [] (.t 12) (.c (.int .i64 400))), qq 14 (.pick (.t 9) (.t 13) (.c (.bool false)))]
 (.cond (.t 14) (.ops [qq 15 (.call .f (.c (.fn 27 [])) [.c (.int .i64 10), .c (.int .i64 (-8))]), qs 2 3 15]) .skip))
 (.seq (.ops [qL 16 2 3, qs 2 2 16]) .ret))))
def r_R2_AtomsFault : List RVar := [.cell true 2 2]
def n_R2_AtomsFault : Nat := 17
theorem k_R2_AtomsFault : chkFn Go.Proofs.Tryz.prog 8 n_R2_AtomsFault r_R2_AtomsFault c_R2_AtomsFault = true := by kernel_rfl
theorem f_R2_AtomsFault (d : Dom) (ho : DoOk d) : Fc Go.Proofs.Tryz.prog 8 [domV d] (ftV (atF d)) := by
  have hF := f_R1_DomainFault d ho
  have hAt := f_R1_At 10 (-8)
  by_cases h : domFault d = okF
  · rw [h] at hF
    have hA := f_R2_AllAtoms d (domV_of h)
    have hal := allAt_len (doVal_of (domV_of h))
    by_cases hb : (allAt d).length > 400
    · rw [(atF_big h hb).1]
      refine Fn.step mixed k_R2_AtomsFault ?_
      repeat' (first | refine i_len rfl ?_ | refine i_s rfl ?_ | refine sw ?_ | refine i_gt rfl ?_ | refine i_stb rfl ?_ | refine i_alloc rfl ?_ | refine i_box rfl rfl ?_ | refine c_cond rfl (fun h => ?_) (fun h => ?_) | refine sf rfl rfl hF ?_ | refine sf rfl rfl hA ?_ | refine sf rfl rfl hAt ?_ | fail)
      all_goals first
        | exact e_ret ⟨rfl, _, rfl, rfl⟩
        | (exfalso; clear hF hA hAt; simp at *; done)
        | (exfalso; clear hF hA hAt; simp at *; omega)
    · rw [(atF_ok h (by omega)).1]
      refine Fn.step mixed k_R2_AtomsFault ?_
      repeat' (first | refine i_len rfl ?_ | refine i_s rfl ?_ | refine sw ?_ | refine i_gt rfl ?_ | refine i_stb rfl ?_ | refine i_alloc rfl ?_ | refine i_box rfl rfl ?_ | refine c_cond rfl (fun h => ?_) (fun h => ?_) | refine sf rfl rfl hF ?_ | refine sf rfl rfl hA ?_ | refine sf rfl rfl hAt ?_ | fail)
      all_goals first
        | exact e_ret ⟨rfl, _, rfl, rfl⟩
        | (exfalso; clear hF hA hAt; simp at *; done)
        | (exfalso; clear hF hA hAt; simp at *; omega)
  · rw [(atF_bad h).1]
    have hc : (domFault d).code ≠ 0 := fun e => h ((domFault_code' d).1 e)
    refine Fn.step mixed k_R2_AtomsFault ?_
    repeat' (first | refine i_s rfl ?_ | refine sw ?_ | refine i_gt rfl ?_ | refine i_gf rfl ?_ | refine c_f rfl ?_ | refine i_stb rfl ?_ | refine i_alloc rfl ?_ | refine i_box rfl rfl ?_ | refine i_g rfl (fun h => ?_) (fun h => ?_) | refine sf rfl rfl hF ?_ | fail)
    all_goals first
      | exact e_ret ⟨rfl, _, rfl, rfl⟩
      | (exfalso; clear hF hAt; simp at *; done)
      | (exfalso; clear hF hAt; simp at *; omega)
end Hm
end
