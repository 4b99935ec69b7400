/- Part K6PA of the proof. -/
import Derived.Test.YtmninopppdnhoaaGreatKPB
import Derived.Test.YtmninopppdnhoaaGreatK6A
set_option linter.unusedVariables false
set_option linter.unusedSimpArgs false
section
namespace Hm
open Go
set_option maxRecDepth 100000
set_option maxHeartbeats 1000000
def c_R1_In : Cmd :=
 (qS [qb 6 false]
 (.seq (.ops [qm 7 0, qm 8 1, qu 9 .geq [] 7 8, qm 10 9, qg 11 10 true (.mov (.t 0)), qg 12 10 true (.mov (.t 2)), qg 13 10 true (.bin .leq false [] (.t 11) (.t 12)), qq 14 (.pick (.t 10) (.t 13) (.c (.bool false))), qm 6 14]) .ret))
def r_R1_In : List RVar := [.tmp 6]
def n_R1_In : Nat := 15
theorem k_R1_In : chkFn Go.Proofs.Tryz.prog 28 n_R1_In r_R1_In c_R1_In = true := by kernel_rfl
theorem f_R1_In (x lo hi : Int) : Fc Go.Proofs.Tryz.prog 28 [.int .i64 x, .int .i64 lo, .int .i64 hi] (.bool (decide (lo ≤ x) && decide (x ≤ hi))) := by
  refine Fn.step mixed k_R1_In ?_
  repeat' (first | refine i_s rfl ?_ | refine sw ?_ | refine i_gt rfl ?_ | refine i_gf rfl ?_ | refine i_g rfl (fun h => ?_) (fun h => ?_))
  all_goals refine e_ret ⟨rfl, _, rfl, congrArg V.bool ?_⟩
  · have := of_decide_eq_true h; simp; omega
  · have := of_decide_eq_false h; simp; omega
def c_R1_Has : Cmd :=
 (qS [qb 4 false]
 (qT (qS [qc 5 0]
 (.block 0 (.loop (qT (qS [qm 6 5, qm 7 0, qn 8 7, qu 9 .lss [] 6 8]
 (.cond (.t 9) .skip (.exit 0)))
 (qT (.block 1 (qS [qm 12 0, qm 13 5, qi 14 1 12 13, ql 15 1 14, qm 16 1, qu 17 .eql [.i] 15 16]
 (.cond (.t 17) (.seq (.ops [qb 4 true]) .ret) .skip)))
 (.ops [qm 10 5, qv 11 .add [] 10 1, qm 5 11]))))))
 (.seq (.ops [qb 4 false]) .ret)))
def r_R1_Has : List RVar := [.tmp 4]
def n_R1_Has : Nat := 18
theorem k_R1_Has : chkFn Go.Proofs.Tryz.prog 81 n_R1_Has r_R1_Has c_R1_Has = true := by kernel_rfl
theorem f_R1_Has (xs : List Int) (n : Int) (hl : xs.length ≤ 140737488355328) : Fc Go.Proofs.Tryz.prog 81 [.sl .p (xs.map i64V), .int .i64 n] (.bool (decide (n ∈ xs))) := by
  refine Fn.step mixed k_R1_Has ?_
  repeat (first | refine i_s rfl ?_ | refine sw ?_)
  refine c_for xs.length (fun k => [(0, .sl .p (xs.map i64V)), (1, .int .i64 n), (5, .int .i64 k)]) (fun _ => []) (fun k => n ∉ xs.take k) (by simp) ft fun k hk hi => ?_
  repeat (first | refine i_len rfl ?_ | refine i_s rfl ?_ | refine sw ?_)
  refine c_cond rfl (fun h => ?_) (fun h => ?_)
  · have hlt : k < xs.length := by simpa using h
    obtain ⟨c, hc⟩ := get_some hlt
    repeat' (first | refine i_s rfl ?_ | refine sw ?_ | refine ja rfl rfl ?_ | refine jd rfl rfl ?_ | refine c_cond rfl (fun h => ?_) (fun h => ?_))
    · refine e_ret ⟨rfl, _, rfl, congrArg V.bool ?_⟩
      have e : c = n := by simpa using h
      exact decide_eq_true (e ▸ mem_get hc)
    · refine e_for hlt ?_ ft
      have e : c ≠ n := by simpa using h
      rw [take_succ_get hc, List.mem_append]
      simp [hi, Ne.symm e]
  · have hge : ¬ k < xs.length := by simpa using h
    rw [List.take_of_length_le (by omega)] at hi
    repeat' (first | refine i_s rfl ?_ | refine sw ?_ | fail)
    exact e_ret ⟨rfl, _, rfl, congrArg V.bool (decide_eq_false hi)⟩
end Hm
end
section
namespace Hm
open Go
set_option maxRecDepth 100000
set_option maxHeartbeats 4000000
def c_R1_HasAtom : Cmd :=
 (qS [qx 3 1472194 2 1, qb 4 false]
 (qT (qS [qc 5 0]
 (.block 0 (.loop (qT (qS [qm 6 5, qm 7 0, qn 8 7, qu 9 .lss [] 6 8]
 (.cond (.t 9) .skip (.exit 0)))
 (qT (.block 1 (qS [qm 12 0, qm 13 5, qi 14 2 12 13, qL 15 2 14, qL 16 2 3, qk 17 57 [15, 16]]
 (.cond (.t 17) (.seq (.ops [qb 4 true]) .ret) .skip)))
 (.ops [qm 10 5, qv 11 .add [] 10 1, qm 5 11]))))))
 (.seq (.ops [qb 4 false]) .ret)))
def r_R1_HasAtom : List RVar := [.tmp 4]
def n_R1_HasAtom : Nat := 18
theorem k_R1_HasAtom : chkFn Go.Proofs.Tryz.prog 23 n_R1_HasAtom r_R1_HasAtom c_R1_HasAtom = true := by kernel_rfl
theorem f_R1_HasAtom (l : List At) (a : At) (hl : l.length ≤ 140737488355328) (ho : ∀ x ∈ l, AtOk x) (ha : AtOk a) : Fc Go.Proofs.Tryz.prog 23 [.sl .p (l.map atV), atV a] (.bool (decide (a ∈ l))) := by
  refine Fn.step mixed k_R1_HasAtom ?_
  repeat' (first | refine i_s rfl ?_ | refine sw ?_ | refine i_box rfl rfl ?_)
  refine c_for l.length (fun k => [(0, .sl .p (l.map atV)), (3, .bptr 1472194 0), (5, .int .i64 k)]) (fun _ => [(1472194, .box (atV a))]) (fun k => a ∉ l.take k) (by simp) ft fun k hk hi => ?_
  by_cases hlt : k < l.length
  · obtain ⟨x, hx⟩ := get_some hlt
    have hS := f_R1_SameAtom x a (ho x (mem_get hx)) ha
    by_cases e : x = a
    · rw [decide_eq_true (e ▸ mem_get hx : a ∈ l)]
      rw [decide_eq_true e] at hS
      repeat' (first | refine i_len rfl ?_ | refine i_s rfl ?_ | refine sw ?_ | refine c_t rfl ?_ | refine jd rfl rfl ?_ | refine c_cond rfl (fun h => ?_) (fun h => ?_) | refine sf rfl rfl hS ?_ | fail)
      all_goals first
        | exact e_ret ⟨rfl, _, rfl, rfl⟩
        | (exfalso; clear hS; simp at *; omega)
    · rw [decide_eq_false e] at hS
      repeat' (first | refine i_len rfl ?_ | refine i_s rfl ?_ | refine sw ?_ | refine c_f rfl ?_ | refine ja rfl rfl ?_ | refine jd rfl rfl ?_ | refine c_cond rfl (fun h => ?_) (fun h => ?_) | refine sf rfl rfl hS ?_ | fail)
      all_goals first
        | (exact e_for hlt (by rw [take_succ_get hx]; simp only [List.mem_append, List.mem_singleton, not_or]; exact ⟨hi, fun h => e h.symm⟩) ft)
        | (exfalso; clear hS; simp at *; omega)
  · rw [List.take_of_length_le (by omega)] at hi
    rw [decide_eq_false hi]
    repeat' (first | refine i_len rfl ?_ | refine i_s rfl ?_ | refine sw ?_ | refine c_cond rfl (fun h => ?_) (fun h => ?_))
    all_goals first
      | exact e_ret ⟨rfl, _, rfl, rfl⟩
      | (exfalso; simp at *; omega)
end Hm
end
section
namespace Hm
open Go
set_option maxRecDepth 100000
set_option maxHeartbeats 1000000
theorem u8le (c : UInt8) : c.toNat ≤ 255 := by have := c.toNat_lt; omega
def c_R1_Name : Cmd :=
 (qS [qb 2 false]
 (qT (qS [qc 3 0]
 (.block 0 (.loop (qT (qS [qm 5 3, qm 6 0, qq 7 (.len true (.t 6)), qu 8 .lss [] 5 7]
 (.cond (.t 8) .skip (.exit 0)))
 (qT (.block 1 (qS [qm 11 0, qm 12 3, qq 13 (.index (.t 11) (.t 12)), qq 14 (.conv .i64 (.t 13)), qm 4 14]
 (qS [qm 15 4, qq 16 (.call .f (.c (.fn 28 [])) [.t 15, .c (.int .i64 97), .c (.int .i64 122)]), qq 17 (.not (.t 16)), qm 18 17, qg 19 18 true (.mov (.t 3)), qg 20 18 true (.bin .eql false [.i] (.t 19) (.c (.int .i64 0))), qg 21 18 true (.mov (.t 20)), qg 22 21 false (.mov (.t 4)), qg 23 21 false (.call .f (.c (.fn 28 [])) [.t 22, .c (.int .i64 48), .c (.int .i64 57)]), qg 24 21 false (.not (.t 23)), qg 25 21 false (.mov (.t 24)), qg 26 25 true (.mov (.t 4)), qg 27 25 true (.bin .neq false [.i] (.t 26) (.c (.int .i64 45))), qg 28 21 false (.pick (.t 25) (.t 27) (.c (.bool false))), qg 29 18 true (.pick (.t 21) (.c (.bool true)) (.t 28)), qq 30 (.pick (.t 18) (.t 29) (.c (.bool false)))]
 (.cond (.t 30) (.seq (.ops [qb 2 false]) .ret) .skip))))
 (.ops [qm 9 3, qv 10 .add [] 9 1, qm 3 10]))))))
 (.seq (.ops [qm 31 0, qq 32 (.len true (.t 31)), qq 33 (.call .f (.c (.fn 28 [])) [.t 32, .c (.int .i64 1), .c (.int .i64 12)]), qm 2 33]) .ret)))
def r_R1_Name : List RVar := [.tmp 2]
def n_R1_Name : Nat := 34
theorem k_R1_Name : chkFn Go.Proofs.Tryz.prog 64 n_R1_Name r_R1_Name c_R1_Name = true := by kernel_rfl
theorem f_R1_Name (s : List UInt8) (hl : s.length ≤ 140737488355328) : Fc Go.Proofs.Tryz.prog 64 [.str s] (.bool (nameB s)) := by
  refine Fn.step mixed k_R1_Name ?_
  repeat (first | refine i_s rfl ?_ | refine sw ?_)
  refine c_for s.length (fun k => [(0, .str s), (3, .int .i64 k)]) (fun _ => []) (fun k => ∀ j, j < k → ∀ c, s[j]? = some c → nameAt j c = true) all_zero ft fun k hk hi => ?_
  repeat (first | refine i_s rfl ?_ | refine sw ?_)
  refine c_cond rfl (fun h => ?_) (fun h => ?_)
  · have hlt : k < s.length := by simpa using h
    obtain ⟨c, hc⟩ := get_some hlt
    have hb := u8le c
    have next : nameAt k c = true → ∀ j, j < k + 1 → ∀ c, s[j]? = some c → nameAt j c = true := fun hn => all_succ hi fun c' hc' => by
      rw [hc] at hc'; injection hc' with hc'; rw [← hc']; exact hn
    have bad : nameAt k c = false → V.bool (nameB s) = V.bool false := fun hn => by simp [nameB, namesFrom_false hc hn]
    clear hi h
    repeat' (first | refine i_s rfl ?_ | refine sw ?_ | refine i_gt rfl ?_ | refine i_gf rfl ?_ | refine i_gd rfl ?_ | refine c_t rfl ?_ | refine c_f rfl ?_ | refine jc rfl ?_ | refine ja rfl rfl ?_ | refine jf rfl rfl ?_ | (refine sp ?_ ?_ <;> try intro h) | refine sf rfl rfl (f_R1_In _ _ _) ?_ | fail)
    all_goals first
      | refine e_for hlt (next (by simp [nameAt] at *; omega)) ft
      | refine e_ret ⟨rfl, _, rfl, bad (by simp [nameAt] at *; omega)⟩
  · have hge : ¬ k < s.length := by simpa using h
    have hall := namesFrom_take s k hi (by omega)
    clear hi
    repeat (first | refine i_s rfl ?_ | refine sw ?_ | refine sf rfl rfl (f_R1_In _ _ _) ?_)
    refine e_ret ⟨rfl, _, rfl, congrArg V.bool ?_⟩
    simp only [nameB, hall, Bool.true_and]
    congr 1 <;> exact decide_eq_decide.2 (by omega)
def c_R1_TypesFault : Cmd :=
 (qS [qq 2 (.alloc 3968130 (.agg [.int .i64 0, .int .i64 0]))]
 (qT (qS [qm 5 0, qn 6 5, qv 7 .gtr [] 6 8]
 (.cond (.t 7) (.seq (.ops [qq 8 (.call .f (.c (.fn 17 [])) [.c (.int .i64 2), .c (.int .i64 (-1))]), qs 2 2 8]) .ret) .skip))
 (qT (qS [qc 3 0]
 (.block 0 (.loop (qT (qS [qm 9 3, qm 10 0, qn 11 10, qu 12 .lss [] 9 11]
 (.cond (.t 12) .skip (.exit 0)))
 (qT (.block 1 (qT (qS [qm 15 0, qm 16 3, qi 17 2 15 16, qf 18 0 17, ql 19 1 18, qk 20 64 [19], qq 21 (.not (.t 20)), qm 22 21, qg 23 22 false (.mov (.t 0)), qg 24 22 false (.mov (.t 3)), qg 25 22 false (.iaddr 2 (.t 23) (.t 24)), qg 26 22 false (.faddr 0 (.t 25)), qg 27 22 false (.load false 1 (.t 26)), qg 28 22 false (.bin .eql false [.s] (.t 27) (.c (.str [111, 98, 106, 101, 99, 116]))), qq 29 (.pick (.t 22) (.c (.bool true)) (.t 28))]
 (.cond (.t 29) (.seq (.ops [qm 30 3, qq 31 (.call .f (.c (.fn 17 [])) [.c (.int .i64 12), .t 30]), qs 2 2 31]) .ret) .skip))
 (qT (qS [qc 4 0]
 (.block 2 (.loop (qT (qS [qm 32 4, qm 33 3, qu 34 .lss [] 32 33]
 (.cond (.t 34) .skip (.exit 2)))
 (qT (.block 3 (qS [qm 37 0, qm 38 4, qi 39 2 37 38, qf 40 0 39, ql 41 1 40, qm 42 0, qm 43 3, qi 44 2 42 43, qf 45 0 44, ql 46 1 45, qu 47 .eql [.s] 41 46]
 (.cond (.t 47) (.seq (.ops [qm 48 3, qq 49 (.call .f (.c (.fn 17 [])) [.c (.int .i64 7), .t 48]), qs 2 2 49]) .ret) .skip)))
 (.ops [qm 35 4, qv 36 .add [] 35 1, qm 4 36]))))))
 (qS [qm 50 0, qm 51 3, qi 52 2 50 51, qf 53 1 52, ql 54 1 53, qm 55 3, qv 56 .sub [] 55 1, qq 57 (.call .f (.c (.fn 28 [])) [.t 54, .c (.int .i64 (-1)), .t 56]), qq 58 (.not (.t 57))]
 (.cond (.t 58) (.seq (.ops [qm 59 3, qq 60 (.call .f (.c (.fn 17 [])) [.c (.int .i64 3), .t 59]), qs 2 2 60]) .ret) .skip)))))
 (.ops [qm 13 3, qv 14 .add [] 13 1, qm 3 14]))))))
 (.seq (.ops [qq 61 (.build [.int .i64 0, .int .i64 0] []), qs 2 2 61]) .ret))))
def r_R1_TypesFault : List RVar := [.cell true 2 2]
def n_R1_TypesFault : Nat := 62
theorem k_R1_TypesFault : chkFn Go.Proofs.Tryz.prog 62 n_R1_TypesFault r_R1_TypesFault c_R1_TypesFault = true := by kernel_rfl
theorem f_R1_TypesFault (l : List Typ) (ho : TyOk l) : Fc Go.Proofs.Tryz.prog 62 [.sl .p (l.map tyV)] (ftV (typesFault l)) := by
  obtain ⟨hl, hn⟩ := ho
  refine Fn.step mixed k_R1_TypesFault ?_
  repeat' (first | refine i_len rfl ?_ | refine i_s rfl ?_ | refine sw ?_ | refine i_stb rfl ?_ | refine i_alloc rfl ?_ | refine c_cond rfl (fun h => ?_) (fun h => ?_) | refine sf rfl rfl (f_R1_At _ _) ?_ | fail)
  · exact e_ret ⟨rfl, _, rfl, congr_ft (typesFault_big (by have := of_decide_eq_true h; simp at this; omega))⟩
  have h8 : ¬ 8 < l.length := by have := of_decide_eq_false h; simp at this; omega
  clear h
  refine c_for l.length (fun k => [(0, .sl .p (l.map tyV)), (2, .bptr 3968130 0), (3, .int .i64 k)]) (fun _ => [(3968130, .box (ftV okF))]) (fun k => ∀ j, j < k → tyBad l j = none) all_zero ft fun k hk hi => ?_
  repeat (first | refine i_len rfl ?_ | refine i_s rfl ?_ | refine sw ?_)
  refine c_cond rfl (fun h => ?_) (fun h => ?_)
  · have hlt : k < l.length := by simpa using h
    obtain ⟨t, ht⟩ := get_some hlt
    have hnt := hn t (mem_get ht)
    have hbad : tyBad l k = if nameB t.name = false ∨ t.name = objectS then some ⟨12, k⟩ else if (l.take k).any (fun u => u.name == t.name) = true then some ⟨7, k⟩
      else if t.parent < -1 ∨ t.parent ≥ k then some ⟨3, k⟩ else none := by simp [tyBad, ht]
    clear h
    repeat' (first | refine i_s rfl ?_ | refine sw ?_ | refine i_gt rfl ?_ | refine i_gf rfl ?_ | refine c_t rfl ?_ | refine jd rfl rfl ?_ | refine i_stb rfl ?_ | (refine sp ?_ ?_ <;> try intro h) | refine sf rfl rfl (f_R1_Name _ hnt) ?_ | refine sf rfl rfl (f_R1_At _ _) ?_ | fail)
    · refine e_ret ⟨rfl, _, rfl, congr_ft (typesFault_hit h8 hi hlt ?_)⟩
      rw [hbad]; clear hbad; grind [objectS]
    · refine c_for k (fun j => [(0, .sl .p (l.map tyV)), (2, .bptr 3968130 0), (3, .int .i64 k), (4, .int .i64 j)]) (fun _ => [(3968130, .box (ftV okF))]) (fun j => ∀ i, i < j → ∀ u, l[i]? = some u → (u.name == t.name) = false) all_zero ft fun j hj hij => ?_
      repeat (first | refine i_s rfl ?_ | refine sw ?_)
      refine c_cond rfl (fun h2 => ?_) (fun h2 => ?_)
      · have hjk : j < k := by simpa using h2
        obtain ⟨u, hu⟩ := get_some (Nat.lt_trans hjk hlt)
        repeat' (first | refine i_s rfl ?_ | refine sw ?_ | refine ja rfl rfl ?_ | refine jd rfl rfl ?_ | refine i_stb rfl ?_ | refine c_cond rfl (fun h => ?_) (fun h => ?_) | refine sf rfl rfl (f_R1_At _ _) ?_ | fail)
        · refine e_ret ⟨rfl, _, rfl, congr_ft (typesFault_hit h8 hi hlt ?_)⟩
          have := any_take_hit (p := fun u => u.name == t.name) hjk hu h
          rw [hbad]; clear hbad; grind [objectS]
        · exact e_for hjk (all_succ hij fun v hv => by rw [hu] at hv; cases hv; exact h) ft
      · have hge : ¬ j < k := by simpa using h2
        have hany : (l.take k).any (fun u => u.name == t.name) = false := any_take_none fun i hik => hij i (by omega)
        clear h2 hij
        repeat' (first | refine i_s rfl ?_ | refine sw ?_ | refine ja rfl rfl ?_ | refine jb rfl rfl ?_ | refine jd rfl rfl ?_ | refine i_stb rfl ?_ | refine c_cond rfl (fun h => ?_) (fun h => ?_) | refine sf rfl rfl (f_R1_In _ _ _) ?_ | refine sf rfl rfl (f_R1_At _ _) ?_ | fail)
        · refine e_ret ⟨rfl, _, rfl, congr_ft (typesFault_hit h8 hi hlt ?_)⟩
          rw [hbad]; clear hbad; grind [objectS]
        · refine e_for hlt (all_succ hi ?_) ft
          rw [hbad]; clear hbad; grind [objectS]
    · refine e_ret ⟨rfl, _, rfl, congr_ft (typesFault_hit h8 hi hlt ?_)⟩
      rw [hbad]; clear hbad; grind [objectS]
  · have hge : ¬ k < l.length := by simpa using h
    repeat' (first | refine i_s rfl ?_ | refine sw ?_ | refine i_stb rfl ?_)
    exact e_ret ⟨rfl, _, rfl, congr_ft (typesFault_ok h8 fun j hj => hi j (by omega))⟩
def c_R1_ObjectsFault : Cmd :=
 (qS [qq 4 (.alloc 4032258 (.agg [.int .i64 0, .int .i64 0]))]
 (qT (qS [qm 7 1, qn 8 7, qv 9 .gtr [] 8 8]
 (.cond (.t 9) (.seq (.ops [qq 10 (.call .f (.c (.fn 17 [])) [.c (.int .i64 2), .c (.int .i64 (-3))]), qs 2 4 10]) .ret) .skip))
 (qT (qS [qc 5 0]
 (.block 0 (.loop (qT (qS [qm 11 5, qm 12 1, qn 13 12, qu 14 .lss [] 11 13]
 (.cond (.t 14) .skip (.exit 0)))
 (qT (.block 1 (qT (qS [qm 17 1, qm 18 5, qi 19 2 17 18, qf 20 0 19, ql 21 1 20, qk 22 64 [21], qq 23 (.not (.t 22))]
 (.cond (.t 23) (.seq (.ops [qm 24 5, qq 25 (.bin .sub false [] (.c (.int .i64 (-10))) (.t 24)), qq 26 (.call .f (.c (.fn 17 [])) [.c (.int .i64 12), .t 25]), qs 2 4 26]) .ret) .skip))
 (qT (qS [qc 6 0]
 (.block 2 (.loop (qT (qS [qm 27 6, qm 28 5, qu 29 .lss [] 27 28]
 (.cond (.t 29) .skip (.exit 2)))
 (qT (.block 3 (qS [qm 32 1, qm 33 6, qi 34 2 32 33, qf 35 0 34, ql 36 1 35, qm 37 1, qm 38 5, qi 39 2 37 38, qf 40 0 39, ql 41 1 40, qu 42 .eql [.s] 36 41]
 (.cond (.t 42) (.seq (.ops [qm 43 5, qq 44 (.bin .sub false [] (.c (.int .i64 (-10))) (.t 43)), qq 45 (.call .f (.c (.fn 17 [])) [.c (.int .i64 7), .t 44]), qs 2 4 45]) .ret) .skip)))
 (.ops [qm 30 6, qv 31 .add [] 30 1, qm 6 31]))))))
 (qS [qm 46 1, qm 47 5, qi 48 2 46 47, qf 49 1 48, ql 50 1 49, qm 51 0, qn 52 51, qv 53 .sub [] 52 1, qq 54 (.call .f (.c (.fn 28 [])) [.t 50, .c (.int .i64 (-1)), .t 53]), qq 55 (.not (.t 54))]
 (.cond (.t 55) (.seq (.ops [qm 56 5, qq 57 (.bin .sub false [] (.c (.int .i64 (-10))) (.t 56)), qq 58 (.call .f (.c (.fn 17 [])) [.c (.int .i64 3), .t 57]), qs 2 4 58]) .ret) .skip)))))
 (.ops [qm 15 5, qv 16 .add [] 15 1, qm 5 16]))))))
 (.seq (.ops [qq 59 (.build [.int .i64 0, .int .i64 0] []), qs 2 4 59]) .ret))))
def r_R1_ObjectsFault : List RVar := [.cell true 2 4]
def n_R1_ObjectsFault : Nat := 60
theorem k_R1_ObjectsFault : chkFn Go.Proofs.Tryz.prog 63 n_R1_ObjectsFault r_R1_ObjectsFault c_R1_ObjectsFault = true := by kernel_rfl
theorem f_R1_ObjectsFault (ts : List Typ) (hts : ts.length ≤ 140737488355328) (l : List Obj) (ho : ObOk l) : Fc Go.Proofs.Tryz.prog 63 [.sl .p (ts.map tyV), .sl .p (l.map obV)] (ftV (objectsFault ts.length l)) := by
  obtain ⟨hl, hn⟩ := ho
  refine Fn.step mixed k_R1_ObjectsFault ?_
  repeat' (first | refine i_len rfl ?_ | refine i_s rfl ?_ | refine sw ?_ | refine i_stb rfl ?_ | refine i_alloc rfl ?_ | refine c_cond rfl (fun h => ?_) (fun h => ?_) | refine sf rfl rfl (f_R1_At _ _) ?_ | fail)
  · exact e_ret ⟨rfl, _, rfl, congr_ft (objectsFault_big (by have := of_decide_eq_true h; simp at this; omega))⟩
  have h8 : ¬ 8 < l.length := by have := of_decide_eq_false h; simp at this; omega
  clear h
  refine c_for l.length (fun k => [(0, .sl .p (ts.map tyV)), (1, .sl .p (l.map obV)), (4, .bptr 4032258 0), (5, .int .i64 k)]) (fun _ => [(4032258, .box (ftV okF))]) (fun k => ∀ j, j < k → obBad ts.length l j = none) all_zero ft fun k hk hi => ?_
  repeat (first | refine i_len rfl ?_ | refine i_s rfl ?_ | refine sw ?_)
  refine c_cond rfl (fun h => ?_) (fun h => ?_)
  · have hlt : k < l.length := by simpa using h
    obtain ⟨t, ht⟩ := get_some hlt
    have hnt := hn t (mem_get ht)
    have hbad : obBad ts.length l k = if nameB t.name = false then some ⟨12, -10 - k⟩ else if (l.take k).any (fun u => u.name == t.name) = true then some ⟨7, -10 - k⟩
      else if t.type < -1 ∨ t.type ≥ ts.length then some ⟨3, -10 - k⟩ else none := by simp [obBad, ht]
    clear h
    repeat' (first | refine i_s rfl ?_ | refine sw ?_ | refine jb rfl rfl ?_ | refine jd rfl rfl ?_ | refine i_stb rfl ?_ | refine c_cond rfl (fun h => ?_) (fun h => ?_) | refine sf rfl rfl (f_R1_Name _ hnt) ?_ | refine sf rfl rfl (f_R1_At _ _) ?_ | fail)
    · refine e_ret ⟨rfl, _, rfl, congr_ft (objectsFault_hit h8 hi hlt ?_)⟩
      rw [hbad]; clear hbad; grind
    · refine c_for k (fun j => [(0, .sl .p (ts.map tyV)), (1, .sl .p (l.map obV)), (4, .bptr 4032258 0), (5, .int .i64 k), (6, .int .i64 j)]) (fun _ => [(4032258, .box (ftV okF))]) (fun j => ∀ i, i < j → ∀ u, l[i]? = some u → (u.name == t.name) = false) all_zero ft fun j hj hij => ?_
      repeat (first | refine i_s rfl ?_ | refine sw ?_)
      refine c_cond rfl (fun h2 => ?_) (fun h2 => ?_)
      · have hjk : j < k := by simpa using h2
        obtain ⟨u, hu⟩ := get_some (Nat.lt_trans hjk hlt)
        repeat' (first | refine i_s rfl ?_ | refine sw ?_ | refine ja rfl rfl ?_ | refine jb rfl rfl ?_ | refine jd rfl rfl ?_ | refine i_stb rfl ?_ | refine c_cond rfl (fun h => ?_) (fun h => ?_) | refine sf rfl rfl (f_R1_At _ _) ?_ | fail)
        · refine e_ret ⟨rfl, _, rfl, congr_ft (objectsFault_hit h8 hi hlt ?_)⟩
          have := any_take_hit (p := fun u => u.name == t.name) hjk hu h
          rw [hbad]; clear hbad; grind
        · exact e_for hjk (all_succ hij fun v hv => by rw [hu] at hv; cases hv; exact h) ft
      · have hge : ¬ j < k := by simpa using h2
        have hany : (l.take k).any (fun u => u.name == t.name) = false := any_take_none fun i hik => hij i (by omega)
        clear h2 hij
        repeat' (first | refine i_len rfl ?_ | refine i_s rfl ?_ | refine sw ?_ | refine ja rfl rfl ?_ | refine jb rfl rfl ?_ | refine jd rfl rfl ?_ | refine i_stb rfl ?_ | refine c_cond rfl (fun h => ?_) (fun h => ?_) | refine sf rfl rfl (f_R1_In _ _ _) ?_ | refine sf rfl rfl (f_R1_At _ _) ?_ | fail)
        · refine e_ret ⟨rfl, _, rfl, congr_ft (objectsFault_hit h8 hi hlt ?_)⟩
          rw [hbad]; clear hbad; (try simp only [List.length_map] at h); grind
        · refine e_for hlt (all_succ hi ?_) ft
          rw [hbad]; clear hbad; (try simp only [List.length_map] at h); grind
  · have hge : ¬ k < l.length := by simpa using h
    repeat' (first | refine i_s rfl ?_ | refine sw ?_ | refine i_stb rfl ?_)
    exact e_ret ⟨rfl, _, rfl, congr_ft (objectsFault_ok h8 fun j hj => hi j (by omega))⟩
theorem i64_rows (l : List Int) : ∀ row ∈ l.map i64V, row.cells.length = 1 ∧ row.cells.all leafB = true := by
  intro row h
  obtain ⟨n, _, rfl⟩ := List.mem_map.1 h
  exact ⟨rfl, rfl⟩
def c_R1_Supers : Cmd :=
 (qS [qq 4 (.mov (.c (.sl .nil [])))]
 (qT (qS [qm 5 1, qv 6 .lss [] 5 0]
 (.cond (.t 6) (.seq (.ops [qq 7 (.bsl 1 [.c (.int .i64 (-1))]), qm 4 7]) .ret) .skip))
 (.seq (.ops [qm 8 1, qq 9 (.bslO 5248577 1 [.t 8]), qm 10 0, qm 11 0, qm 12 1, qi 13 2 11 12, qf 14 1 13, ql 15 1 14, qk 16 82 [10, 15], qq 17 (.append 1 8 3 (.t 9) (.t 16)), qm 4 17]) .ret)))
def r_R1_Supers : List RVar := [.tmp 4]
def n_R1_Supers : Nat := 18
theorem k_R1_Supers : chkFn Go.Proofs.Tryz.prog 82 n_R1_Supers r_R1_Supers c_R1_Supers = true := by kernel_rfl
theorem f_R1_Supers_n (l : List Typ) (hv : TyValid l) : ∀ (m : Nat) (t : Int), t < m → -1 ≤ t → t < l.length → Fc Go.Proofs.Tryz.prog 82 [.sl .p (l.map tyV), .int .i64 t] (.sl .p ((supers l t).map i64V))
  | m, t, hm, h0, h1 => by
    have h8 := hv.1
    refine Fn.step mixed k_R1_Supers ?_
    repeat' (first | refine i_s rfl ?_ | refine sw ?_ | refine c_cond rfl (fun h => ?_) (fun h => ?_))
    · have := of_decide_eq_true h
      refine e_ret ⟨rfl, _, rfl, ?_⟩
      rw [supers_neg this]; rfl
    · have hn := of_decide_eq_false h
      obtain ⟨x, hx, hp, h2, h3⟩ := parent_ok hv (by omega) h1
      refine i_bslo rfl rfl rfl rfl ?_
      repeat (first | refine i_s rfl ?_ | refine jd rfl rfl ?_)
      try refine i_iai rfl rfl (by omega) hx rfl ?_
      cases m with
      | zero => omega
      | succ m =>
      have hl := supers_length (t := x.parent) (by omega) hv
      repeat refine sf rfl rfl (f_R1_Supers_n l hv m x.parent (by omega) h2 (by omega)) ?_
      refine i_app rfl rfl rfl rfl rfl (i64_rows _) (by simp; omega) (by simp; omega) ?_
      repeat' (first | refine i_s rfl ?_ | refine sw ?_ | fail)
      refine e_ret ⟨rfl, _, rfl, ?_⟩
      rw [supers_cons hv (by omega) h1 hx]; rfl
theorem f_R1_Supers (l : List Typ) (hv : TyValid l) (t : Int) (h0 : -1 ≤ t) (h1 : t < l.length) : Fc Go.Proofs.Tryz.prog 82 [.sl .p (l.map tyV), .int .i64 t] (.sl .p ((supers l t).map i64V)) :=
  f_R1_Supers_n l hv (t.toNat + 1) t (by omega) h0 h1
def c_R1_Sub : Cmd :=
 (qS [qb 6 false]
 (.seq (.ops [qm 7 0, qm 8 1, qk 9 82 [7, 8], qm 10 2, qk 11 81 [9, 10], qm 6 11]) .ret))
def r_R1_Sub : List RVar := [.tmp 6]
def n_R1_Sub : Nat := 12
theorem k_R1_Sub : chkFn Go.Proofs.Tryz.prog 40 n_R1_Sub r_R1_Sub c_R1_Sub = true := by kernel_rfl
theorem f_R1_Sub (l : List Typ) (hv : TyValid l) (a b : Int) (h0 : -1 ≤ a) (h1 : a < l.length) : Fc Go.Proofs.Tryz.prog 40 [.sl .p (l.map tyV), .int .i64 a, .int .i64 b] (.bool (subB l a b)) := by
  have hl := supers_length h1 hv
  refine Fn.step mixed k_R1_Sub ?_
  repeat' (first | refine i_s rfl ?_ | refine sw ?_ | refine sf rfl rfl (f_R1_Supers l hv a h0 h1) ?_ | refine sf rfl rfl (f_R1_Has _ _ (by omega)) ?_ | fail)
  exact e_ret ⟨rfl, _, rfl, rfl⟩
def c_R1_MembersOf : Cmd :=
 (qS [qq 6 (.mov (.c (.sl .nil [])))]
 (qS [qq 7 (.newVec 3200449)]
 (qT (qS [qc 8 0]
 (.block 0 (.loop (qT (qS [qm 9 8, qm 10 1, qn 11 10, qu 12 .lss [] 9 11]
 (.cond (.t 12) .skip (.exit 0)))
 (qT (.block 1 (qS [qm 15 0, qm 16 1, qm 17 8, qi 18 2 16 17, qf 19 1 18, ql 20 1 19, qm 21 2, qk 22 40 [15, 20, 21]]
 (.cond (.t 22) (.ops [qm 23 7, qm 24 8, qq 25 (.bsl 1 [.t 24]), qq 26 (.append 1 8 3 (.t 23) (.t 25)), qm 7 26]) .skip)))
 (.ops [qm 13 8, qv 14 .add [] 13 1, qm 8 14]))))))
 (.seq (.ops [qm 27 7, qm 6 27]) .ret))))
def r_R1_MembersOf : List RVar := [.tmp 6]
def n_R1_MembersOf : Nat := 28
theorem k_R1_MembersOf : chkFn Go.Proofs.Tryz.prog 50 n_R1_MembersOf r_R1_MembersOf c_R1_MembersOf = true := by kernel_rfl
theorem f_R1_MembersOf (l : List Typ) (hv : TyValid l) (os : List Obj) (ho : os.length ≤ 8) (hr : ∀ o ∈ os, -1 ≤ o.type ∧ o.type < l.length) (t : Int) : Fc Go.Proofs.Tryz.prog 50 [.sl .p (l.map tyV), .sl .p (os.map obV), .int .i64 t] (.sl .p ((membersOf l os t).map i64V)) := by
  refine Fn.step mixed k_R1_MembersOf ?_
  repeat (first | refine i_s rfl ?_ | refine sw ?_ | refine i_nv rfl ?_)
  refine c_for os.length (fun k => [(0, .sl .p (l.map tyV)), (1, .sl .p (os.map obV)), (2, .int .i64 t), (7, .sl (.own 3200449) ((memK l os t k).map i64V)), (8, .int .i64 k)]) (fun k => [(3200449, .vec (memK l os t k).length)]) (fun _ => True) trivial ft fun k hk _ => ?_
  have hml := memK_len (l := l) (os := os) (t := t) (k := k)
  repeat (first | refine i_len rfl ?_ | refine i_s rfl ?_ | refine sw ?_)
  refine c_cond rfl (fun h => ?_) (fun h => ?_)
  · have hlt : k < os.length := by simpa using h
    obtain ⟨o, hc⟩ := get_some hlt
    have := hr o (mem_get hc)
    clear h
    repeat' (first | refine i_s rfl ?_ | refine sw ?_ | refine ja rfl rfl ?_ | refine jd rfl rfl ?_ | refine c_cond rfl (fun h => ?_) (fun h => ?_) | refine sf rfl rfl (f_R1_Sub l hv o.type t this.1 this.2) ?_ | fail)
    · refine i_appM rfl rfl rfl rfl rfl (by omega) (by omega) ?_
      repeat' (first | refine i_s rfl ?_ | refine sw ?_ | refine ja rfl rfl ?_ | fail)
      refine e_for hlt trivial ⟨⟨rfl, rfl, rfl, ?_, rfl, trivial⟩, ⟨?_, trivial⟩, rfl⟩
      · rw [memK_succ hc, if_pos h]; rfl
      · rw [memK_succ hc, if_pos h]; simp; rfl
    · refine e_for hlt trivial ⟨⟨rfl, rfl, rfl, ?_, rfl, trivial⟩, ⟨?_, trivial⟩, rfl⟩
      · rw [memK_succ hc, if_neg (by simp [h])]; simp; rfl
      · rw [memK_succ hc, if_neg (by simp [h])]; simp; rfl
  · have hge : ¬ k < os.length := by simpa using h
    have e : k = os.length := by omega
    subst e
    repeat' (first | refine i_s rfl ?_ | refine sw ?_ | fail)
    exact e_ret ⟨rfl, _, rfl, rfl⟩
end Hm
end
section
namespace Hm
open Go
set_option maxRecDepth 100000
set_option maxHeartbeats 4000000
def c_R1_TypesCode : Cmd :=
 (qS [qx 2 1728134 6 0, qc 4 0]
 (qT (qS [qm 6 1, qn 7 6, qv 8 .gtr [] 7 3]
 (.cond (.t 8) (.seq (.ops [qc 4 2]) .ret) .skip))
 (qT (qS [qc 5 0]
 (.block 0 (.loop (qT (qS [qm 9 5, qm 10 1, qn 11 10, qu 12 .lss [] 9 11]
 (.cond (.t 12) .skip (.exit 0)))
 (qT (.block 1 (qS [qm 15 1, qm 16 5, qi 17 1 15 16, ql 18 1 17, qf 19 0 2, ql 20 1 19, qn 21 20, qv 22 .sub [] 21 1, qq 23 (.call .f (.c (.fn 28 [])) [.t 18, .c (.int .i64 (-1)), .t 22]), qq 24 (.not (.t 23))]
 (.cond (.t 24) (.seq (.ops [qc 4 3]) .ret) .skip)))
 (.ops [qm 13 5, qv 14 .add [] 13 1, qm 5 14]))))))
 (.seq (.ops [qc 4 0]) .ret))))
def r_R1_TypesCode : List RVar := [.tmp 4]
def n_R1_TypesCode : Nat := 25
theorem k_R1_TypesCode : chkFn Go.Proofs.Tryz.prog 27 n_R1_TypesCode r_R1_TypesCode c_R1_TypesCode = true := by kernel_rfl
theorem f_R1_TypesCode (d : Dom) (hd : d.types.length ≤ 140737488355328) (l : List Int) (hl : l.length ≤ 140737488355328) : Fc Go.Proofs.Tryz.prog 27 [domV d, .sl .p (l.map i64V)] (.int .i64 (paramsCode d.types.length l)) := by
  unfold paramsCode
  by_cases h3 : l.length > 3
  · rw [if_pos h3]
    refine Fn.step mixed k_R1_TypesCode ?_
    repeat' (first | refine i_len rfl ?_ | refine i_s rfl ?_ | refine sw ?_ | refine i_box rfl rfl ?_ | refine c_cond rfl (fun h => ?_) (fun h => ?_))
    all_goals first
      | exact e_ret ⟨rfl, _, rfl, rfl⟩
      | (exfalso; simp at *; omega)
  · rw [if_neg h3]
    refine Fn.step mixed k_R1_TypesCode ?_
    repeat' (first | refine i_len rfl ?_ | refine i_s rfl ?_ | refine sw ?_ | refine i_box rfl rfl ?_ | refine c_cond rfl (fun h => ?_) (fun h => ?_))
    all_goals first
      | (exfalso; simp at *; omega)
      | skip
    refine c_for l.length (fun k => [(1, .sl .p (l.map i64V)), (2, .bptr 1728134 0), (5, .int .i64 k)]) (fun _ => [(1728134, .box (domV d))]) (fun k => (l.take k).any (badT d.types.length) = false) (by simp) ft fun k hk hi => ?_
    by_cases hlt : k < l.length
    · obtain ⟨x, hx⟩ := get_some hlt
      have hI := f_R1_In x (-1) ((d.types.length : Int) - 1)
      have hb : badT d.types.length x = !(decide (-1 ≤ x) && decide (x ≤ (d.types.length : Int) - 1)) := by
        unfold badT
        rw [Bool.eq_iff_iff]
        simp
        omega
      cases hbx : badT d.types.length x with
      | true =>
        rw [if_pos (List.any_eq_true.2 ⟨x, mem_get hx, hbx⟩)]
        rw [hbx] at hb
        generalize (decide (-1 ≤ x) && decide (x ≤ (d.types.length : Int) - 1)) = bb at *
        have hbb : bb = false := by simpa using hb.symm
        subst hbb
        repeat' (first | refine i_len rfl ?_ | refine i_s rfl ?_ | refine sw ?_ | refine c_t rfl ?_ | refine jb rfl rfl ?_ | refine jd rfl rfl ?_ | refine c_cond rfl (fun h => ?_) (fun h => ?_) | refine sf rfl rfl hI ?_ | fail)
        all_goals first
          | exact e_ret ⟨rfl, _, rfl, rfl⟩
          | (exfalso; clear hI; simp at *; omega)
      | false =>
        rw [hbx] at hb
        generalize (decide (-1 ≤ x) && decide (x ≤ (d.types.length : Int) - 1)) = bb at *
        have hbb : bb = true := by simpa using hb.symm
        subst hbb
        repeat' (first | refine i_len rfl ?_ | refine i_s rfl ?_ | refine sw ?_ | refine c_f rfl ?_ | refine ja rfl rfl ?_ | refine jb rfl rfl ?_ | refine jd rfl rfl ?_ | refine c_cond rfl (fun h => ?_) (fun h => ?_) | refine sf rfl rfl hI ?_ | fail)
        all_goals first
          | (exact e_for hlt (by rw [take_succ_get hx, List.any_append, hi]; simp [hbx]) ft)
          | (exfalso; clear hI; simp at *; omega)
    · rw [List.take_of_length_le (by omega)] at hi
      rw [if_neg (by simp [hi])]
      repeat' (first | refine i_len rfl ?_ | refine i_s rfl ?_ | refine sw ?_ | refine c_cond rfl (fun h => ?_) (fun h => ?_))
      all_goals first
        | exact e_ret ⟨rfl, _, rfl, rfl⟩
        | (exfalso; simp at *; omega)
def c_R1_AtomCode : Cmd :=
 (qS [qx 3 2496198 6 0, qx 5 2496322 2 2, qc 6 0]
 (qT (qS [qf 11 0 5, ql 12 1 11, qf 13 2 3, ql 14 1 13, qn 15 14, qv 16 .sub [] 15 1, qq 17 (.call .f (.c (.fn 28 [])) [.t 12, .c (.int .i64 0), .t 16]), qq 18 (.not (.t 17))]
 (.cond (.t 18) (.seq (.ops [qc 6 6]) .ret) .skip))
 (qS [qf 19 2 3, ql 20 1 19, qf 21 0 5, ql 22 1 21, qi 23 2 20 22, qf 24 1 23, ql 25 1 24, qm 7 25]
 (qT (qS [qf 26 1 5, ql 27 1 26, qn 28 27, qm 29 7, qn 30 29, qu 31 .neq [.i] 28 30]
 (.cond (.t 31) (.seq (.ops [qc 6 9]) .ret) .skip))
 (qT (qS [qc 8 0]
 (.block 0 (.loop (qT (qS [qm 32 8, qm 33 7, qn 34 33, qu 35 .lss [] 32 34]
 (.cond (.t 35) .skip (.exit 0)))
 (qT (.block 1 (qS [qf 38 1 5, ql 39 1 38, qm 40 8, qi 41 1 39 40, ql 42 1 41, qm 9 42]
 (qT (qS [qm 43 9, qm 44 1, qn 45 44, qq 46 (.bin .sub false [] (.c (.int .i64 0)) (.t 45)), qf 47 1 3, ql 48 1 47, qn 49 48, qv 50 .sub [] 49 1, qk 51 28 [43, 46, 50], qq 52 (.not (.t 51))]
 (.cond (.t 52) (.seq (.ops [qc 6 3]) .ret) .skip))
 (qS [qc 10 0]
 (qT (qS [qm 53 9, qv 54 .lss [] 53 0]
 (.cond (.t 54) (.ops [qm 55 1, qm 56 9, qq 57 (.bin .sub false [] (.c (.int .i64 0)) (.t 56)), qv 58 .sub [] 57 1, qi 59 1 55 58, ql 60 1 59, qm 10 60]) (.ops [qf 61 1 3, ql 62 1 61, qm 63 9, qi 64 2 62 63, qf 65 1 64, ql 66 1 65, qm 10 66])))
 (qS [qf 67 0 3, ql 68 1 67, qm 69 10, qm 70 7, qm 71 8, qi 72 1 70 71, ql 73 1 72, qk 74 40 [68, 69, 73], qq 75 (.not (.t 74))]
 (.cond (.t 75) (.seq (.ops [qc 6 8]) .ret) .skip)))))))
 (.ops [qm 36 8, qv 37 .add [] 36 1, qm 8 37]))))))
 (.seq (.ops [qc 6 0]) .ret))))))
def r_R1_AtomCode : List RVar := [.tmp 6]
def n_R1_AtomCode : Nat := 76
theorem k_R1_AtomCode : chkFn Go.Proofs.Tryz.prog 39 n_R1_AtomCode r_R1_AtomCode c_R1_AtomCode = true := by kernel_rfl
theorem f_R1_AtomCode (d : Dom) (hd : DoTy d) (ps : List Int) (hps : PsOk d ps) (a : At) (ha : AtOk a) (hpr : d.preds.length ≤ 140737488355328) : Fc Go.Proofs.Tryz.prog 39 [domV d, .sl .p (ps.map i64V), atV a] (.int .i64 (atomCode d ps a)) := by
  have hal := ha.len
  have hpl := hps.1
  have hol := hd.ol
  have hI := f_R1_In a.pred 0 ((d.preds.length : Int) - 1)
  by_cases h1 : a.pred < 0 ∨ (d.preds.length : Int) ≤ a.pred
  · rw [atomCode_none h1]
    have e : (decide (0 ≤ a.pred) && decide (a.pred ≤ (d.preds.length : Int) - 1)) = false := by rw [Bool.eq_false_iff]; simp; omega
    rw [e] at hI
    refine Fn.step mixed k_R1_AtomCode ?_
    repeat' (first | refine i_len rfl ?_ | refine i_s rfl ?_ | refine sw ?_ | refine c_t rfl ?_ | refine jb rfl rfl ?_ | refine i_box rfl rfl ?_ | refine sf rfl rfl hI ?_ | fail)
    all_goals first
      | exact e_ret ⟨rfl, _, rfl, rfl⟩
      | (exfalso; clear hI; simp at *; omega)
  · obtain ⟨p, hp⟩ := get_some (l := d.preds) (k := a.pred.toNat) (by omega)
    have e : (decide (0 ≤ a.pred) && decide (a.pred ≤ (d.preds.length : Int) - 1)) = true := by simp; omega
    rw [e] at hI
    by_cases h2 : a.args.length = p.types.length
    · rw [atomCode_scan h1 hp h2]
      refine Fn.step mixed k_R1_AtomCode ?_
      repeat' (first | refine i_len rfl ?_ | refine i_s rfl ?_ | refine sw ?_ | refine c_f rfl ?_ | refine jb rfl rfl ?_ | refine jd rfl rfl ?_ | refine i_box rfl rfl ?_ | refine c_cond rfl (fun h => ?_) (fun h => ?_) | refine sf rfl rfl hI ?_ | fail)
      all_goals first
        | (exfalso; clear hI; simp at *; omega)
        | skip
      clear hI e
      refine c_for a.args.length (fun k => [(1, .sl .p (ps.map i64V)), (3, .bptr 2496198 0), (5, .bptr 2496322 0), (7, .sl .p (p.types.map i64V)), (8, .int .i64 k)]) (fun _ => [(2496198, .box (domV d)), (2496322, .box (atV a))]) (fun k => ∀ j, j < k → argBad d ps p.types a j = none) all_zero ft fun k hk hi => ?_
      by_cases hlt : k < a.args.length
      · obtain ⟨x, hx⟩ := get_some hlt
        obtain ⟨t, ht⟩ := get_some (l := p.types) (k := k) (by omega)
        have hx1 : (-9223372036854775808 : Int) ≤ x := (ha.r x (mem_get hx)).1
        have hx2 : x ≤ 9223372036854775807 := (ha.r x (mem_get hx)).2
        have hJ := f_R1_In x (0 - (ps.length : Int)) ((d.objects.length : Int) - 1)
        have hbad : argBad d ps p.types a k = tyoBad d t (typeOfA d ps x) := by simp only [argBad, hx, ht]
        by_cases hin : -(ps.length : Int) ≤ x ∧ x < d.objects.length
        · have e2 : (decide (0 - (ps.length : Int) ≤ x) && decide (x ≤ (d.objects.length : Int) - 1)) = true := by simp; omega
          rw [e2] at hJ
          by_cases hneg : x < 0
          · obtain ⟨u, hu⟩ := get_some (l := ps) (k := (-1 - x).toNat) (by omega)
            have hu2 : typeOfA d ps x = some u := by unfold typeOfA; rw [if_neg (by omega), if_pos (by omega)]; exact hu
            obtain ⟨hu3, hu4⟩ := typeOfA_ok hd hps hu2
            have hu5 : ps[(0 - x - 1).toNat]? = some u := by rw [← hu]; congr 2; omega
            have hS := f_R1_Sub d.types hd.ty u t hu3 hu4
            rw [hu2] at hbad
            simp only [tyoBad] at hbad
            clear hu hu2
            cases hs : subB d.types u t with
            | true =>
              rw [hs] at hbad hS
              rw [if_pos rfl] at hbad
              clear ha
              repeat' (first | refine i_len rfl ?_ | refine i_s rfl ?_ | refine sw ?_ | refine c_f rfl ?_ | refine ja rfl rfl ?_ | refine jb rfl rfl ?_ | refine jd rfl rfl ?_ | refine c_cond rfl (fun h => ?_) (fun h => ?_) | refine sf rfl rfl hJ ?_ | refine sf rfl rfl hS ?_ | fail)
              all_goals first
                | (exact e_for hlt (all_succ hi hbad) ft)
                | (exfalso; clear hJ hS; simp at *; omega)
            | false =>
              rw [hs] at hbad hS
              rw [if_neg (by simp)] at hbad
              rw [scan0_hit hi hlt hbad]
              clear hi hbad ha
              repeat' (first | refine i_len rfl ?_ | refine i_s rfl ?_ | refine sw ?_ | refine c_t rfl ?_ | refine c_f rfl ?_ | refine jb rfl rfl ?_ | refine jd rfl rfl ?_ | refine c_cond rfl (fun h => ?_) (fun h => ?_) | refine sf rfl rfl hJ ?_ | refine sf rfl rfl hS ?_ | fail)
              all_goals first
                | exact e_ret ⟨rfl, _, rfl, rfl⟩
                | (exfalso; clear hJ hS; simp at *; omega)
          · obtain ⟨o, hoo⟩ := get_some (l := d.objects) (k := x.toNat) (by omega)
            have hu2 : typeOfA d ps x = some o.type := by unfold typeOfA; rw [if_pos (by omega), hoo]; rfl
            obtain ⟨hu3, hu4⟩ := typeOfA_ok hd hps hu2
            have hS := f_R1_Sub d.types hd.ty o.type t hu3 hu4
            rw [hu2] at hbad
            simp only [tyoBad] at hbad
            clear hu2
            cases hs : subB d.types o.type t with
            | true =>
              rw [hs] at hbad hS
              rw [if_pos rfl] at hbad
              clear ha
              repeat' (first | refine i_len rfl ?_ | refine i_s rfl ?_ | refine sw ?_ | refine c_f rfl ?_ | refine ja rfl rfl ?_ | refine jb rfl rfl ?_ | refine jd rfl rfl ?_ | refine c_cond rfl (fun h => ?_) (fun h => ?_) | refine sf rfl rfl hJ ?_ | refine sf rfl rfl hS ?_ | fail)
              all_goals first
                | (exact e_for hlt (all_succ hi hbad) ft)
                | (exfalso; clear hJ hS; simp at *; omega)
            | false =>
              rw [hs] at hbad hS
              rw [if_neg (by simp)] at hbad
              rw [scan0_hit hi hlt hbad]
              clear hi hbad ha
              repeat' (first | refine i_len rfl ?_ | refine i_s rfl ?_ | refine sw ?_ | refine c_t rfl ?_ | refine c_f rfl ?_ | refine jb rfl rfl ?_ | refine jd rfl rfl ?_ | refine c_cond rfl (fun h => ?_) (fun h => ?_) | refine sf rfl rfl hJ ?_ | refine sf rfl rfl hS ?_ | fail)
              all_goals first
                | exact e_ret ⟨rfl, _, rfl, rfl⟩
                | (exfalso; clear hJ hS; simp at *; omega)
        · have e2 : (decide (0 - (ps.length : Int) ≤ x) && decide (x ≤ (d.objects.length : Int) - 1)) = false := by rw [Bool.eq_false_iff]; simp; omega
          rw [e2] at hJ
          have hu2 : typeOfA d ps x = none := by unfold typeOfA; rw [if_neg (by omega), if_neg (by omega)]
          rw [hu2] at hbad
          simp only [tyoBad] at hbad
          rw [scan0_hit hi hlt hbad]
          clear hi hbad ha
          repeat' (first | refine i_len rfl ?_ | refine i_s rfl ?_ | refine sw ?_ | refine c_t rfl ?_ | refine jb rfl rfl ?_ | refine jd rfl rfl ?_ | refine c_cond rfl (fun h => ?_) (fun h => ?_) | refine sf rfl rfl hJ ?_ | fail)
          all_goals first
            | exact e_ret ⟨rfl, _, rfl, rfl⟩
            | (exfalso; clear hJ; simp at *; omega)
      · rw [scan0_none fun j hj => hi j (by omega)]
        clear hi ha
        repeat' (first | refine i_len rfl ?_ | refine i_s rfl ?_ | refine sw ?_ | refine c_cond rfl (fun h => ?_) (fun h => ?_))
        all_goals first
          | exact e_ret ⟨rfl, _, rfl, rfl⟩
          | (exfalso; simp at *; omega)
    · rw [atomCode_len h1 hp h2]
      refine Fn.step mixed k_R1_AtomCode ?_
      repeat' (first | refine i_len rfl ?_ | refine i_s rfl ?_ | refine sw ?_ | refine c_f rfl ?_ | refine jb rfl rfl ?_ | refine jd rfl rfl ?_ | refine i_box rfl rfl ?_ | refine c_cond rfl (fun h => ?_) (fun h => ?_) | refine sf rfl rfl hI ?_ | fail)
      all_goals first
        | exact e_ret ⟨rfl, _, rfl, rfl⟩
        | (exfalso; clear hI; simp at *; omega)
def c_R1_AtomsCode : Cmd :=
 (qS [qx 4 4224262 6 0, qc 8 0]
 (qT (qS [qm 11 2, qn 12 11, qm 13 3, qu 14 .gtr [] 12 13]
 (.cond (.t 14) (.seq (.ops [qc 8 2]) .ret) .skip))
 (qT (qS [qc 9 0]
 (.block 0 (.loop (qT (qS [qm 15 9, qm 16 2, qn 17 16, qu 18 .lss [] 15 17]
 (.cond (.t 18) .skip (.exit 0)))
 (qT (.block 1 (qS [qL 21 6 4, qm 22 1, qm 23 2, qm 24 9, qi 25 2 23 24, qL 26 2 25, qk 27 39 [21, 22, 26], qm 10 27]
 (qS [qm 28 10, qv 29 .neq [.i] 28 0]
 (.cond (.t 29) (.seq (.ops [qm 30 10, qm 8 30]) .ret) .skip))))
 (.ops [qm 19 9, qv 20 .add [] 19 1, qm 9 20]))))))
 (.seq (.ops [qc 8 0]) .ret))))
def r_R1_AtomsCode : List RVar := [.tmp 8]
def n_R1_AtomsCode : Nat := 31
theorem k_R1_AtomsCode : chkFn Go.Proofs.Tryz.prog 66 n_R1_AtomsCode r_R1_AtomsCode c_R1_AtomsCode = true := by kernel_rfl
theorem f_R1_AtomsCode (d : Dom) (hd : DoTy d) (hpr : d.preds.length ≤ 140737488355328) (ps : List Int) (hps : PsOk d ps) (l : List At) (hl : l.length ≤ 140737488355328) (ho : ∀ a ∈ l, AtOk a) (most : Nat) (hm : most ≤ 1000) :
    Fc Go.Proofs.Tryz.prog 66 [domV d, .sl .p (ps.map i64V), .sl .p (l.map atV), .int .i64 most] (.int .i64 (atomsCode d ps l most)) := by
  unfold atomsCode
  by_cases h3 : l.length > most
  · rw [if_pos h3]
    refine Fn.step mixed k_R1_AtomsCode ?_
    repeat' (first | refine i_len rfl ?_ | refine i_s rfl ?_ | refine sw ?_ | refine i_box rfl rfl ?_ | refine c_cond rfl (fun h => ?_) (fun h => ?_))
    all_goals first
      | exact e_ret ⟨rfl, _, rfl, rfl⟩
      | (exfalso; simp at *; omega)
  · rw [if_neg h3]
    refine Fn.step mixed k_R1_AtomsCode ?_
    repeat' (first | refine i_len rfl ?_ | refine i_s rfl ?_ | refine sw ?_ | refine i_box rfl rfl ?_ | refine c_cond rfl (fun h => ?_) (fun h => ?_))
    all_goals first
      | (exfalso; simp at *; omega)
      | skip
    refine c_for l.length (fun k => [(1, .sl .p (ps.map i64V)), (2, .sl .p (l.map atV)), (4, .bptr 4224262 0), (9, .int .i64 k)]) (fun _ => [(4224262, .box (domV d))]) (fun k => ∀ j, j < k → ∀ x, l[j]? = some x → atomCode d ps x = 0) all_zero ft fun k hk hi => ?_
    by_cases hlt : k < l.length
    · obtain ⟨x, hx⟩ := get_some hlt
      have hA := f_R1_AtomCode d hd ps hps x (ho x (mem_get hx)) hpr
      by_cases hz : atomCode d ps x = 0
      · rw [hz] at hA
        repeat' (first | refine i_len rfl ?_ | refine i_s rfl ?_ | refine sw ?_ | refine c_f rfl ?_ | refine ja rfl rfl ?_ | refine jd rfl rfl ?_ | refine c_cond rfl (fun h => ?_) (fun h => ?_) | refine sf rfl rfl hA ?_ | fail)
        all_goals first
          | (exact e_for hlt (all_succ hi fun y hy => by rw [hx] at hy; cases hy; exact hz) ft)
          | (exfalso; clear hA; simp at *; omega)
      · rw [fnz_hit hi hx hz]
        clear hi
        generalize atomCode d ps x = e at *
        repeat' (first | refine i_len rfl ?_ | refine i_s rfl ?_ | refine sw ?_ | refine ja rfl rfl ?_ | refine jd rfl rfl ?_ | refine c_cond rfl (fun h => ?_) (fun h => ?_) | refine sf rfl rfl hA ?_ | fail)
        all_goals first
          | exact e_ret ⟨rfl, _, rfl, rfl⟩
          | (exfalso; clear hA; simp at *; omega)
    · rw [fnz_ok fun j hj => hi j (by omega)]
      clear hi
      repeat' (first | refine i_len rfl ?_ | refine i_s rfl ?_ | refine sw ?_ | refine c_cond rfl (fun h => ?_) (fun h => ?_))
      all_goals first
        | exact e_ret ⟨rfl, _, rfl, rfl⟩
        | (exfalso; simp at *; omega)
def c_R1_AtomsOf : Cmd :=
 (qS [qq 2 (.mov (.c (.sl .nil [])))]
 (qS [qq 3 (.newVec 4288194)]
 (qT (qS [qc 4 0]
 (.block 0 (.loop (qT (qS [qm 5 4, qm 6 0, qn 7 6, qu 8 .lss [] 5 7]
 (.cond (.t 8) .skip (.exit 0)))
 (qT (.block 1 (.ops [qm 11 3, qm 12 0, qm 13 4, qi 14 3 12 13, qf 15 1 14, qL 16 2 15, qq 17 (.bsl 2 [.t 16]), qq 18 (.append 2 32 60 (.t 11) (.t 17)), qm 3 18]))
 (.ops [qm 9 4, qv 10 .add [] 9 1, qm 4 10]))))))
 (.seq (.ops [qm 19 3, qm 2 19]) .ret))))
def r_R1_AtomsOf : List RVar := [.tmp 2]
def n_R1_AtomsOf : Nat := 20
theorem k_R1_AtomsOf : chkFn Go.Proofs.Tryz.prog 67 n_R1_AtomsOf r_R1_AtomsOf c_R1_AtomsOf = true := by kernel_rfl
theorem f_R1_AtomsOf (l : List Lit) (hl : l.length ≤ 3518437208883) : Fc Go.Proofs.Tryz.prog 67 [.sl .p (l.map litV)] (.sl .p ((l.map Lit.at_).map atV)) := by
  refine Fn.step mixed k_R1_AtomsOf ?_
  repeat (first | refine i_s rfl ?_ | refine sw ?_ | refine i_nv rfl ?_)
  refine c_for l.length (fun k => [(0, .sl .p (l.map litV)), (3, .sl (.own 4288194) (((l.take k).map Lit.at_).map atV)), (4, .int .i64 k)]) (fun k => [(4288194, .vec (l.take k).length)]) (fun _ => True) trivial ⟨⟨rfl, by simp; rfl, rfl, trivial⟩, ⟨by simp; rfl, trivial⟩, rfl⟩ fun k hk _ => ?_
  have htl : (l.take k).length = k := by rw [List.length_take]; omega
  repeat (first | refine i_len rfl ?_ | refine i_s rfl ?_ | refine sw ?_)
  refine c_cond rfl (fun h => ?_) (fun h => ?_)
  · have hlt : k < l.length := by simpa using h
    obtain ⟨x, hx⟩ := get_some hlt
    clear h
    repeat (first | refine i_s rfl ?_ | refine sw ?_ | refine jd rfl rfl ?_)
    refine i_appM (l := (l.take k).map Lit.at_) (f := atV) (c := x.at_) (k := (l.take k).length) rfl rfl rfl (by simp) rfl (by omega) (by omega) ?_
    repeat (first | refine i_s rfl ?_ | refine sw ?_ | refine ja rfl rfl ?_)
    refine e_for hlt trivial ⟨⟨rfl, ?_, rfl, trivial⟩, ⟨?_, trivial⟩, rfl⟩
    · rw [take_succ_get hx]; simp; rfl
    · rw [take_succ_get hx]; simp; rfl
  · have hge : k = l.length := by have : ¬ k < l.length := by simpa using h
                                  omega
    subst hge
    rw [List.take_length]
    clear h
    repeat' (first | refine i_s rfl ?_ | refine sw ?_ | fail)
    exact e_ret ⟨rfl, _, rfl, rfl⟩
def c_R1_SchemaCode : Cmd :=
 (qS [qx 2 4160134 6 0, qx 3 4160199 7 1, qc 4 0]
 (qS [qL 7 6 2, qf 8 1 3, ql 9 1 8, qk 10 27 [7, 9], qm 5 10]
 (qT (qS [qm 11 5, qv 12 .neq [.i] 11 0]
 (.cond (.t 12) (.seq (.ops [qm 13 5, qm 4 13]) .ret) .skip))
 (qT (qS [qf 14 2 3, ql 15 1 14, qn 16 15, qv 17 .gtr [] 16 8]
 (.cond (.t 17) (.seq (.ops [qc 4 2]) .ret) .skip))
 (qT (qS [qc 6 0]
 (.block 0 (.loop (qT (qS [qm 18 6, qf 19 2 3, ql 20 1 19, qn 21 20, qu 22 .lss [] 18 21]
 (.cond (.t 22) .skip (.exit 0)))
 (qT (.block 1 (qS [qf 25 2 3, ql 26 1 25, qm 27 6, qi 28 2 26 27, qf 29 0 28, ql 30 1 29, qv 31 .lss [] 30 0, qm 32 31, qg 33 32 false (.faddr 2 (.t 3)), qg 34 32 false (.load false 1 (.t 33)), qg 35 32 false (.mov (.t 6)), qg 36 32 false (.iaddr 2 (.t 34) (.t 35)), qg 37 32 false (.faddr 1 (.t 36)), qg 38 32 false (.load false 1 (.t 37)), qg 39 32 false (.faddr 2 (.t 3)), qg 40 32 false (.load false 1 (.t 39)), qg 41 32 false (.mov (.t 6)), qg 42 32 false (.iaddr 2 (.t 40) (.t 41)), qg 43 32 false (.faddr 0 (.t 42)), qg 44 32 false (.load false 1 (.t 43)), qg 45 32 false (.bin .leq false [] (.t 38) (.t 44)), qq 46 (.pick (.t 32) (.c (.bool true)) (.t 45)), qm 47 46, qg 48 47 false (.faddr 2 (.t 3)), qg 49 47 false (.load false 1 (.t 48)), qg 50 47 false (.mov (.t 6)), qg 51 47 false (.iaddr 2 (.t 49) (.t 50)), qg 52 47 false (.faddr 1 (.t 51)), qg 53 47 false (.load false 1 (.t 52)), qg 54 47 false (.faddr 1 (.t 3)), qg 55 47 false (.load false 1 (.t 54)), qg 56 47 false (.len false (.t 55)), qg 57 47 false (.bin .geq false [] (.t 53) (.t 56)), qq 58 (.pick (.t 47) (.c (.bool true)) (.t 57))]
 (.cond (.t 58) (.seq (.ops [qc 4 3]) .ret) .skip)))
 (.ops [qm 23 6, qv 24 .add [] 23 1, qm 6 24]))))))
 (qS [qL 59 6 2, qf 60 1 3, ql 61 1 60, qf 62 3 3, ql 63 1 62, qk 64 67 [63], qq 65 (.call .f (.c (.fn 66 [])) [.t 59, .t 61, .t 64, .c (.int .i64 8)]), qm 5 65]
 (qT (qS [qm 66 5, qv 67 .eql [.i] 66 0]
 (.cond (.t 67) (.ops [qL 68 6 2, qf 69 1 3, ql 70 1 69, qf 71 4 3, ql 72 1 71, qq 73 (.call .f (.c (.fn 66 [])) [.t 68, .t 70, .t 72, .c (.int .i64 8)]), qm 5 73]) .skip))
 (qT (qS [qm 74 5, qv 75 .eql [.i] 74 0]
 (.cond (.t 75) (.ops [qL 76 6 2, qf 77 1 3, ql 78 1 77, qf 79 5 3, ql 80 1 79, qq 81 (.call .f (.c (.fn 66 [])) [.t 76, .t 78, .t 80, .c (.int .i64 8)]), qm 5 81]) .skip))
 (qT (qS [qm 82 5, qv 83 .eql [.i] 82 0, qm 84 83, qg 85 84 true (.faddr 6 (.t 3)), qg 86 84 true (.load false 1 (.t 85)), qg 87 84 true (.call .f (.c (.fn 28 [])) [.t 86, .c (.int .i64 0), .c (.int .i64 100)]), qg 88 84 true (.not (.t 87)), qq 89 (.pick (.t 84) (.t 88) (.c (.bool false)))]
 (.cond (.t 89) (.ops [qc 5 3]) .skip))
 (.seq (.ops [qm 90 5, qm 4 90]) .ret))))))))))
def r_R1_SchemaCode : List RVar := [.tmp 4]
def n_R1_SchemaCode : Nat := 91
theorem k_R1_SchemaCode : chkFn Go.Proofs.Tryz.prog 65 n_R1_SchemaCode r_R1_SchemaCode c_R1_SchemaCode = true := by kernel_rfl
theorem f_R1_SchemaCode (d : Dom) (hd : DoTy d) (ho : DoOk d) (s : Sch) (hso : SchOk s) : Fc Go.Proofs.Tryz.prog 65 [domV d, schV s] (.int .i64 (schSelf d s)) := by
  have hst := hso.types
  have hsd := hso.diff
  have hP := f_R1_TypesCode d ho.types.1 s.types (by omega)
  by_cases h1 : paramsCode d.types.length s.types = 0
  · have hps := schSelf_ps h1
    rw [h1] at hP
    by_cases h2 : s.diff.length > 8
    · have e : schSelf d s = 2 := by unfold schSelf; rw [if_neg (by simp [h1]), if_pos h2]
      rw [e]
      refine Fn.step mixed k_R1_SchemaCode ?_
      repeat' (first | refine i_len rfl ?_ | refine i_s rfl ?_ | refine sw ?_ | refine c_f rfl ?_ | refine i_box rfl rfl ?_ | refine c_cond rfl (fun h => ?_) (fun h => ?_) | refine sf rfl rfl hP ?_ | fail)
      all_goals first
        | exact e_ret ⟨rfl, _, rfl, rfl⟩
        | (exfalso; clear hP; simp at *; omega)
    · have hO := f_R1_AtomsOf s.pre hso.pre
      have hL := f_R1_AtomsCode d hd ho.preds.1 s.types hps (s.pre.map Lit.at_) (by have := hso.pre; simp; omega) (by intro a ha; obtain ⟨x, hx, rfl⟩ := List.mem_map.1 ha; exact hso.preA x hx) 8 (by omega)
      have hA1 := f_R1_AtomsCode d hd ho.preds.1 s.types hps s.add (by have := hso.add; omega) hso.addA 8 (by omega)
      have hA2 := f_R1_AtomsCode d hd ho.preds.1 s.types hps s.del (by have := hso.del; omega) hso.delA 8 (by omega)
      have hI := f_R1_In s.cost 0 100
      have e : schSelf d s = if s.diff.any (pairBad s.types.length) = true then 3 else if atomsCode d s.types (s.pre.map Lit.at_) 8 ≠ 0 then atomsCode d s.types (s.pre.map Lit.at_) 8 else if atomsCode d s.types s.add 8 ≠ 0 then atomsCode d s.types s.add 8 else if atomsCode d s.types s.del 8 ≠ 0 then atomsCode d s.types s.del 8
        else if s.cost < 0 ∨ s.cost > 100 then 3 else 0 := by unfold schSelf; rw [if_neg (by simp [h1]), if_neg h2]
      rw [e]
      clear e ho hso hps h1
      generalize atomsCode d s.types (s.pre.map Lit.at_) 8 = c1 at *
      generalize atomsCode d s.types s.add 8 = c2 at *
      generalize atomsCode d s.types s.del 8 = c3 at *
      refine Fn.step mixed k_R1_SchemaCode ?_
      repeat' (first | refine i_len rfl ?_ | refine i_s rfl ?_ | refine sw ?_ | refine c_f rfl ?_ | refine i_box rfl rfl ?_ | refine c_cond rfl (fun h => ?_) (fun h => ?_) | refine sf rfl rfl hP ?_ | fail)
      all_goals first
        | (exfalso; clear hP hL hA1 hA2 hI hO; simp at *; omega)
        | skip
      clear hP
      refine c_for s.diff.length (fun k => [(2, .bptr 4160134 0), (3, .bptr 4160199 0), (6, .int .i64 k)]) (fun _ => [(4160134, .box (domV d)), (4160199, .box (schV s))]) (fun k => (s.diff.take k).any (pairBad s.types.length) = false) (by simp) ft fun k hk hi => ?_
      by_cases hlt : k < s.diff.length
      · obtain ⟨p, hp⟩ := get_some hlt
        clear hL hA1 hA2 hI hO
        have hpb : pairBad s.types.length p = (decide (p.1 < 0) || (decide (p.2 ≤ p.1) || decide ((s.types.length : Int) ≤ p.2))) := rfl
        cases hb : pairBad s.types.length p with
        | true =>
          rw [hb] at hpb
          rw [if_pos (List.any_eq_true.2 ⟨p, mem_get hp, hb⟩)]
          clear hi hb
          repeat' (first | refine i_len rfl ?_ | refine i_s rfl ?_ | refine sw ?_ | refine i_gt rfl ?_ | refine i_gf rfl ?_ | refine c_t rfl ?_ | refine ja rfl rfl ?_ | refine jd rfl rfl ?_ | (refine sp ?_ ?_ <;> try intro h) | fail)
          all_goals first
            | exact e_ret ⟨rfl, _, rfl, rfl⟩
            | (exfalso; simp at *; omega)
        | false =>
          rw [hb] at hpb
          have hnx : (s.diff.take (k + 1)).any (pairBad s.types.length) = false := by rw [take_succ_get hp, List.any_append, hi]; simp [hb]
          clear hi hb
          repeat' (first | refine i_len rfl ?_ | refine i_s rfl ?_ | refine sw ?_ | refine i_gt rfl ?_ | refine i_gf rfl ?_ | refine c_t rfl ?_ | refine ja rfl rfl ?_ | refine jd rfl rfl ?_ | (refine sp ?_ ?_ <;> try intro h) | fail)
          all_goals first
            | (exact e_for hlt hnx ft)
            | (exfalso; simp at *; omega)
      · rw [List.take_of_length_le (by omega)] at hi
        rw [if_neg (by simp [hi])]
        clear hi
        by_cases z1 : c1 = 0
        · subst z1
          rw [if_neg (by simp)]
          by_cases z2 : c2 = 0
          · subst z2
            rw [if_neg (by simp)]
            by_cases z3 : c3 = 0
            · subst z3
              rw [if_neg (by simp)]
              have hIe : (decide ((0 : Int) ≤ s.cost) && decide (s.cost ≤ 100)) = decide (¬ (s.cost < 0 ∨ s.cost > 100)) := by rw [Bool.eq_iff_iff]; simp
              rw [hIe] at hI
              by_cases z4 : s.cost < 0 ∨ s.cost > 100
              · rw [if_pos z4]
                rw [decide_eq_false (fun h => h z4)] at hI
                repeat' (first | refine i_len rfl ?_ | refine i_s rfl ?_ | refine sw ?_ | refine i_gt rfl ?_ | refine c_t rfl ?_ | refine c_cond rfl (fun h => ?_) (fun h => ?_) | refine sf rfl rfl hO ?_ | refine sf rfl rfl hL ?_ | refine sf rfl rfl hA1 ?_ | refine sf rfl rfl hA2 ?_ | refine sf rfl rfl hI ?_ | fail)
                all_goals first
                  | exact e_ret ⟨rfl, _, rfl, rfl⟩
                  | (exfalso; clear hO hL hA1 hA2 hI; simp at *; done)
                  | (exfalso; clear hO hL hA1 hA2 hI; simp at *; omega)
              · rw [if_neg z4]
                rw [decide_eq_true z4] at hI
                repeat' (first | refine i_len rfl ?_ | refine i_s rfl ?_ | refine sw ?_ | refine i_gt rfl ?_ | refine c_t rfl ?_ | refine c_f rfl ?_ | refine c_cond rfl (fun h => ?_) (fun h => ?_) | refine sf rfl rfl hO ?_ | refine sf rfl rfl hL ?_ | refine sf rfl rfl hA1 ?_ | refine sf rfl rfl hA2 ?_ | refine sf rfl rfl hI ?_ | fail)
                all_goals first
                  | exact e_ret ⟨rfl, _, rfl, rfl⟩
                  | (exfalso; clear hO hL hA1 hA2 hI; simp at *; done)
                  | (exfalso; clear hO hL hA1 hA2 hI; simp at *; omega)
            · rw [if_pos z3]
              repeat' (first | refine i_len rfl ?_ | refine i_s rfl ?_ | refine sw ?_ | refine i_gt rfl ?_ | refine i_gf rfl ?_ | refine c_t rfl ?_ | refine c_f rfl ?_ | (refine sp ?_ ?_ <;> try intro h) | refine sf rfl rfl hO ?_ | refine sf rfl rfl hL ?_ | refine sf rfl rfl hA1 ?_ | refine sf rfl rfl hA2 ?_ | refine sf rfl rfl hI ?_ | fail)
              all_goals first
                | exact e_ret ⟨rfl, _, rfl, rfl⟩
                | (exfalso; clear hO hL hA1 hA2 hI; simp at *; done)
                | (exfalso; clear hO hL hA1 hA2 hI; simp_all; done)
                | (exfalso; clear hO hL hA1 hA2 hI; simp at *; omega)
          · rw [if_pos z2]
            repeat' (first | refine i_len rfl ?_ | refine i_s rfl ?_ | refine sw ?_ | refine i_gt rfl ?_ | refine i_gf rfl ?_ | refine c_t rfl ?_ | refine c_f rfl ?_ | (refine sp ?_ ?_ <;> try intro h) | refine sf rfl rfl hO ?_ | refine sf rfl rfl hL ?_ | refine sf rfl rfl hA1 ?_ | refine sf rfl rfl hA2 ?_ | refine sf rfl rfl hI ?_ | fail)
            all_goals first
              | exact e_ret ⟨rfl, _, rfl, rfl⟩
              | (exfalso; clear hO hL hA1 hA2 hI; simp at *; done)
              | (exfalso; clear hO hL hA1 hA2 hI; simp_all; done)
              | (exfalso; clear hO hL hA1 hA2 hI; simp at *; omega)
        · rw [if_pos z1]
          repeat' (first | refine i_len rfl ?_ | refine i_s rfl ?_ | refine sw ?_ | refine i_gt rfl ?_ | refine i_gf rfl ?_ | refine c_f rfl ?_ | (refine sp ?_ ?_ <;> try intro h) | refine sf rfl rfl hO ?_ | refine sf rfl rfl hL ?_ | refine sf rfl rfl hA1 ?_ | refine sf rfl rfl hA2 ?_ | refine sf rfl rfl hI ?_ | fail)
          all_goals first
            | exact e_ret ⟨rfl, _, rfl, rfl⟩
            | (exfalso; clear hO hL hA1 hA2 hI; simp at *; done)
            | (exfalso; clear hO hL hA1 hA2 hI; simp_all; done)
            | (exfalso; clear hO hL hA1 hA2 hI; simp at *; omega)
  · have e : schSelf d s = paramsCode d.types.length s.types := by unfold schSelf; rw [if_pos h1]
    rw [e]
    clear e ho hso
    generalize paramsCode d.types.length s.types = c at *
    refine Fn.step mixed k_R1_SchemaCode ?_
    repeat' (first | refine i_len rfl ?_ | refine i_s rfl ?_ | refine sw ?_ | refine i_box rfl rfl ?_ | refine c_cond rfl (fun h => ?_) (fun h => ?_) | refine sf rfl rfl hP ?_ | fail)
    all_goals first
      | exact e_ret ⟨rfl, _, rfl, rfl⟩
      | (exfalso; clear hP; simp_all; done)
def c_R1_DomainFault : Cmd :=
 (qS [qx 1 1664070 6 0, qq 2 (.alloc 1664130 (.agg [.int .i64 0, .int .i64 0]))]
 (qS [qf 13 0 1, ql 14 1 13, qk 15 62 [14], qq 3 (.alloc 1664194 (.agg [.int .i64 0, .int .i64 0])), qs 2 3 15]
 (qT (qS [qf 16 0 3, ql 17 1 16, qv 18 .neq [.i] 17 0]
 (.cond (.t 18) (.seq (.ops [qf 19 0 3, ql 20 1 19, qq 21 (.call .f (.c (.fn 17 [])) [.t 20, .c (.int .i64 (-1))]), qs 2 2 21]) .ret) .skip))
 (qS [qf 22 0 1, ql 23 1 22, qf 24 1 1, ql 25 1 24, qk 26 63 [23, 25], qs 2 3 26]
 (qT (qS [qf 27 0 3, ql 28 1 27, qv 29 .neq [.i] 28 0]
 (.cond (.t 29) (.seq (.ops [qf 30 0 3, ql 31 1 30, qq 32 (.call .f (.c (.fn 17 [])) [.t 31, .c (.int .i64 (-2))]), qs 2 2 32]) .ret) .skip))
 (qT (qS [qf 33 2 1, ql 34 1 33, qn 35 34, qv 36 .gtr [] 35 8]
 (.cond (.t 36) (.seq (.ops [qq 37 (.call .f (.c (.fn 17 [])) [.c (.int .i64 2), .c (.int .i64 (-3))]), qs 2 2 37]) .ret) .skip))
 (qT (qS [qc 4 0]
 (.block 0 (.loop (qT (qS [qm 38 4, qf 39 2 1, ql 40 1 39, qn 41 40, qu 42 .lss [] 38 41]
 (.cond (.t 42) .skip (.exit 0)))
 (qT (.block 1 (qS [qf 45 2 1, ql 46 1 45, qm 47 4, qi 48 2 46 47, qL 49 2 48, qq 5 (.alloc 1664322 (.agg [.str [], .sl .nil []])), qs 2 5 49]
 (qT (qS [qf 50 0 5, ql 51 1 50, qk 52 64 [51], qq 53 (.not (.t 52)), qm 54 53, qg 55 54 false (.faddr 0 (.t 5)), qg 56 54 false (.load false 1 (.t 55)), qg 57 54 false (.bin .eql false [.s] (.t 56) (.c (.str [110, 111, 116]))), qq 58 (.pick (.t 54) (.c (.bool true)) (.t 57))]
 (.cond (.t 58) (.seq (.ops [qq 59 (.call .f (.c (.fn 17 [])) [.c (.int .i64 12), .c (.int .i64 (-3))]), qs 2 2 59]) .ret) .skip))
 (qT (qS [qc 6 0]
 (.block 2 (.loop (qT (qS [qm 60 6, qm 61 4, qu 62 .lss [] 60 61]
 (.cond (.t 62) .skip (.exit 2)))
 (qT (.block 3 (qS [qf 65 2 1, ql 66 1 65, qm 67 6, qi 68 2 66 67, qf 69 0 68, ql 70 1 69, qf 71 0 5, ql 72 1 71, qu 73 .eql [.s] 70 72]
 (.cond (.t 73) (.seq (.ops [qq 74 (.call .f (.c (.fn 17 [])) [.c (.int .i64 7), .c (.int .i64 (-3))]), qs 2 2 74]) .ret) .skip)))
 (.ops [qm 63 6, qv 64 .add [] 63 1, qm 6 64]))))))
 (qS [qL 75 6 1, qf 76 1 5, ql 77 1 76, qk 78 27 [75, 77], qm 7 78]
 (qS [qm 79 7, qv 80 .neq [.i] 79 0]
 (.cond (.t 80) (.seq (.ops [qm 81 7, qq 82 (.call .f (.c (.fn 17 [])) [.t 81, .c (.int .i64 (-3))]), qs 2 2 82]) .ret) .skip)))))))
 (.ops [qm 43 4, qv 44 .add [] 43 1, qm 4 44]))))))
 (qT (qS [qf 83 3 1, ql 84 1 83, qn 85 84, qv 86 .gtr [] 85 8]
 (.cond (.t 86) (.seq (.ops [qq 87 (.call .f (.c (.fn 17 [])) [.c (.int .i64 2), .c (.int .i64 (-4))]), qs 2 2 87]) .ret) .skip))
 (qT (qS [qc 8 0]
 (.block 4 (.loop (qT (qS [qm 88 8, qf 89 3 1, ql 90 1 89, qn 91 90, qu 92 .lss [] 88 91]
 (.cond (.t 92) .skip (.exit 4)))
 (qT (.block 5 (qT (qS [qf 95 3 1, ql 96 1 95, qm 97 8, qi 98 7 96 97, qf 99 0 98, ql 100 1 99, qk 101 64 [100], qq 102 (.not (.t 101))]
 (.cond (.t 102) (.seq (.ops [qm 103 8, qq 104 (.call .f (.c (.fn 17 [])) [.c (.int .i64 12), .t 103]), qs 2 2 104]) .ret) .skip))
 (qT (qS [qc 9 0]
 (.block 6 (.loop (qT (qS [qm 105 9, qm 106 8, qu 107 .lss [] 105 106]
 (.cond (.t 107) .skip (.exit 6)))
 (qT (.block 7 (qS [qf 110 3 1, ql 111 1 110, qm 112 9, qi 113 7 111 112, qf 114 0 113, ql 115 1 114, qf 116 3 1, ql 117 1 116, qm 118 8, qi 119 7 117 118, qf 120 0 119, ql 121 1 120, qu 122 .eql [.s] 115 121]
 (.cond (.t 122) (.seq (.ops [qm 123 8, qq 124 (.call .f (.c (.fn 17 [])) [.c (.int .i64 7), .t 123]), qs 2 2 124]) .ret) .skip)))
 (.ops [qm 108 9, qv 109 .add [] 108 1, qm 9 109]))))))
 (qS [qL 125 6 1, qf 126 3 1, ql 127 1 126, qm 128 8, qi 129 7 127 128, qL 130 7 129, qk 131 65 [125, 130], qm 10 131]
 (qS [qm 132 10, qv 133 .neq [.i] 132 0]
 (.cond (.t 133) (.seq (.ops [qm 134 10, qm 135 8, qk 136 17 [134, 135], qs 2 2 136]) .ret) .skip))))))
 (.ops [qm 93 8, qv 94 .add [] 93 1, qm 8 94]))))))
 (qS [qL 137 6 1, qf 138 4 1, ql 139 1 138, qq 140 (.call .f (.c (.fn 66 [])) [.t 137, .c (.sl .nil []), .t 139, .c (.int .i64 40)]), qm 11 140]
 (qT (qS [qc 12 0]
 (.block 8 (.loop (qT (qS [qm 141 12, qf 142 4 1, ql 143 1 142, qn 144 143, qu 145 .lss [] 141 144, qm 146 145, qg 147 146 true (.mov (.t 11)), qg 148 146 true (.bin .eql false [.i] (.t 147) (.c (.int .i64 0))), qq 149 (.pick (.t 146) (.t 148) (.c (.bool false)))]
 (.cond (.t 149) .skip (.exit 8)))
 (qT (.block 9 (qS [qf 152 4 1, ql 153 1 152, qm 154 12, qq 155 (.slice false 2 (.t 153) none (some (.t 154))), qf 156 4 1, ql 157 1 156, qm 158 12, qi 159 2 157 158, qL 160 2 159, qk 161 23 [155, 160]]
 (.cond (.t 161) (.ops [qc 11 7]) .skip)))
 (.ops [qm 150 12, qv 151 .add [] 150 1, qm 12 151]))))))
 (qT (qS [qm 162 11, qv 163 .neq [.i] 162 0]
 (.cond (.t 163) (.seq (.ops [qm 164 11, qq 165 (.call .f (.c (.fn 17 [])) [.t 164, .c (.int .i64 (-5))]), qs 2 2 165]) .ret) .skip))
 (qS [qL 166 6 1, qf 167 5 1, ql 168 1 167, qk 169 67 [168], qq 170 (.call .f (.c (.fn 66 [])) [.t 166, .c (.sl .nil []), .t 169, .c (.int .i64 8)]), qm 11 170]
 (qT (qS [qm 171 11, qv 172 .neq [.i] 171 0]
 (.cond (.t 172) (.seq (.ops [qm 173 11, qq 174 (.call .f (.c (.fn 17 [])) [.t 173, .c (.int .i64 (-6))]), qs 2 2 174]) .ret) .skip))
 (.seq (.ops [qq 175 (.build [.int .i64 0, .int .i64 0] []), qs 2 2 175]) .ret)))))))))))))))
def r_R1_DomainFault : List RVar := [.cell true 2 2]
def n_R1_DomainFault : Nat := 176
theorem k_R1_DomainFault : chkFn Go.Proofs.Tryz.prog 26 n_R1_DomainFault r_R1_DomainFault c_R1_DomainFault = true := by kernel_rfl
theorem f_R1_DomainFault (d : Dom) (ho : DoOk d) : Fc Go.Proofs.Tryz.prog 26 [domV d] (ftV (domFault d)) := by
  have hT := f_R1_TypesFault d.types ho.types
  have hO := f_R1_ObjectsFault d.types ho.types.1 d.objects ho.objects
  unfold domFault
  by_cases t1 : typesFault d.types = okF
  · rw [if_neg (by simp [t1])]
    rw [t1] at hT
    by_cases t2 : objectsFault d.types.length d.objects = okF
    · rw [if_neg (by simp [t2])]
      rw [t2] at hO
      have hd := doTy_of t1 t2
      have hpl := ho.preds.1
      have hsl := ho.schemas.1
      by_cases t3 : d.preds.length > 8
      · rw [if_pos t3]
        refine Fn.step mixed k_R1_DomainFault ?_
        repeat' (first | refine i_len rfl ?_ | refine i_s rfl ?_ | refine sw ?_ | refine c_f rfl ?_ | refine i_stb rfl ?_ | refine i_alloc rfl ?_ | refine i_box rfl rfl ?_ | refine c_cond rfl (fun h => ?_) (fun h => ?_) | refine sf rfl rfl hT ?_ | refine sf rfl rfl hO ?_ | refine sf rfl rfl (f_R1_At _ _) ?_ | fail)
        all_goals first
          | exact e_ret ⟨rfl, _, rfl, rfl⟩
          | (exfalso; clear hT hO; simp at *; omega)
          | (exfalso; clear hT hO; simp_all; done)
      · rw [if_neg t3]
        refine Fn.step mixed k_R1_DomainFault ?_
        repeat' (first | refine i_len rfl ?_ | refine i_s rfl ?_ | refine sw ?_ | refine c_f rfl ?_ | refine i_stb rfl ?_ | refine i_alloc rfl ?_ | refine i_box rfl rfl ?_ | refine c_cond rfl (fun h => ?_) (fun h => ?_) | refine sf rfl rfl hT ?_ | refine sf rfl rfl hO ?_ | refine sf rfl rfl (f_R1_At _ _) ?_ | fail)
        all_goals first
          | (exfalso; clear hT hO; simp at *; omega)
          | (exfalso; clear hT hO; simp [okF] at *; done)
          | skip
        clear hT hO
        refine c_for d.preds.length (fun k => [(1, .bptr 1664070 0), (2, .bptr 1664130 0), (4, .int .i64 k)]) (fun _ => [(1664070, .box (domV d)), (1664130, .box (ftV okF))]) (fun k => ∀ j, j < k → nzF (prdCode d) (fun _ => -3) j = none) all_zero ft fun k hk hi => ?_
        by_cases hlt : k < d.preds.length
        · obtain ⟨p, hp⟩ := get_some hlt
          have hpo := ho.preds.2 p (mem_get hp)
          have hN := f_R1_Name p.name hpo.1
          have hC := f_R1_TypesCode d ho.types.1 p.types (by omega)
          have hcode : prdCode d k = if nameB p.name = false ∨ p.name = notS then 12 else if (d.preds.take k).any (fun q => q.name == p.name) = true then 7 else paramsCode d.types.length p.types := by simp only [prdCode, hp]
          by_cases c1 : nameB p.name = false ∨ p.name = notS
          · rw [if_pos c1] at hcode
            rw [scan0_hit hi hlt (show nzF (prdCode d) (fun _ => -3) k = some ⟨12, -3⟩ by unfold nzF; rw [hcode, if_neg (by decide)])]
            clear hi ho hcode hC
            have c3 : nameB p.name = true → (p.name == [110, 111, 116]) = true := fun h => by
              rcases c1 with c1 | c1
              · rw [h] at c1; cases c1
              · rw [c1]; rfl
            generalize nameB p.name = b1 at *
            clear c1
            repeat' (first | refine i_len rfl ?_ | refine i_s rfl ?_ | refine sw ?_ | refine i_gt rfl ?_ | refine i_gf rfl ?_ | refine c_t rfl ?_ | refine jd rfl rfl ?_ | refine i_stb rfl ?_ | refine i_alloc rfl ?_ | (refine sp ?_ ?_ <;> try intro h) | refine sf rfl rfl hN ?_ | refine sf rfl rfl (f_R1_At _ _) ?_ | fail)
            all_goals first
              | exact e_ret ⟨rfl, _, rfl, rfl⟩
              | (exfalso; clear hN; simp at *; omega)
              | (exfalso; clear hN; cases b1 <;> simp_all; done)
          · rw [if_neg c1] at hcode
            have c2 : nameB p.name = true := by
              cases h : nameB p.name with
              | true => rfl
              | false => exact absurd (.inl h) c1
            have c3 : (p.name == [110, 111, 116]) = false := by rw [beq_eq_false_iff_ne]; exact fun h => c1 (.inr h)
            rw [c2] at hN
            clear c1 c2
            repeat' (first | refine i_len rfl ?_ | refine i_s rfl ?_ | refine sw ?_ | refine i_gt rfl ?_ | refine jd rfl rfl ?_ | refine i_stb rfl ?_ | refine i_alloc rfl ?_ | refine c_cond rfl (fun h => ?_) (fun h => ?_) | refine sf rfl rfl hN ?_ | refine sf rfl rfl (f_R1_At _ _) ?_ | fail)
            all_goals first
              | (exfalso; clear hN hC; simp at *; omega)
              | (exfalso; clear hN hC; simp_all; done)
              | skip
            clear hN
            refine c_for k (fun j => [(1, .bptr 1664070 0), (2, .bptr 1664130 0), (4, .int .i64 k), (5, .bptr 1664322 0), (6, .int .i64 j)]) (fun _ => [(1664070, .box (domV d)), (1664130, .box (ftV okF)), (1664322, .box (prdV p))]) (fun j => ∀ i, i < j → ∀ q, d.preds[i]? = some q → (q.name == p.name) = false) all_zero ft fun j hj hij => ?_
            by_cases hjk : j < k
            · obtain ⟨q, hq⟩ := get_some (l := d.preds) (k := j) (by omega)
              clear hC
              cases hqp : q.name == p.name with
              | true =>
                have hany : (d.preds.take k).any (fun q => q.name == p.name) = true := any_take_hit (p := fun u => u.name == p.name) hjk hq hqp
                rw [if_pos hany] at hcode
                rw [scan0_hit hi hlt (show nzF (prdCode d) (fun _ => -3) k = some ⟨7, -3⟩ by unfold nzF; rw [hcode, if_neg (by decide)])]
                clear hi ho hcode hany hij c3
                repeat' (first | refine i_s rfl ?_ | refine sw ?_ | refine ja rfl rfl ?_ | refine jd rfl rfl ?_ | refine i_stb rfl ?_ | refine c_cond rfl (fun h => ?_) (fun h => ?_) | refine sf rfl rfl (f_R1_At _ _) ?_ | fail)
                all_goals first
                  | exact e_ret ⟨rfl, _, rfl, rfl⟩
                  | (exfalso; simp at *; omega)
                  | (exfalso; simp_all; done)
              | false =>
                clear hi ho hcode c3
                repeat' (first | refine i_s rfl ?_ | refine sw ?_ | refine ja rfl rfl ?_ | refine jd rfl rfl ?_ | refine i_stb rfl ?_ | refine c_cond rfl (fun h => ?_) (fun h => ?_) | refine sf rfl rfl (f_R1_At _ _) ?_ | fail)
                all_goals first
                  | (exact e_for hjk (all_succ hij fun y hy => by rw [hq] at hy; cases hy; exact hqp) ft)
                  | (exfalso; simp at *; omega)
                  | (exfalso; simp_all; done)
            · have hany : (d.preds.take k).any (fun q => q.name == p.name) = false := any_take_none fun i hik => hij i (by omega)
              rw [if_neg (by simp [hany])] at hcode
              rw [← hcode] at hC
              clear hcode hany hij c3
              by_cases z : prdCode d k = 0
              · have hn : nzF (prdCode d) (fun _ => -3) k = none := by unfold nzF; rw [if_pos z]
                rw [z] at hC
                clear ho
                repeat' (first | refine i_s rfl ?_ | refine sw ?_ | refine c_f rfl ?_ | refine ja rfl rfl ?_ | refine c_cond rfl (fun h => ?_) (fun h => ?_) | refine sf rfl rfl hC ?_ | fail)
                all_goals first
                  | (exact e_for hlt (all_succ hi hn) ft)
                  | (exfalso; clear hC; simp at *; omega)
              · rw [scan0_hit hi hlt (show nzF (prdCode d) (fun _ => -3) k = some ⟨prdCode d k, -3⟩ by unfold nzF; rw [if_neg z])]
                clear hi ho
                generalize prdCode d k = c at *
                repeat' (first | refine i_s rfl ?_ | refine sw ?_ | refine ja rfl rfl ?_ | refine i_stb rfl ?_ | refine c_cond rfl (fun h => ?_) (fun h => ?_) | refine sf rfl rfl hC ?_ | refine sf rfl rfl (f_R1_At _ _) ?_ | fail)
                all_goals first
                  | exact e_ret ⟨rfl, _, rfl, rfl⟩
                  | (exfalso; clear hC; simp at *; omega)
        · rw [scan0_none fun j hj => hi j (by omega)]
          clear hi
          by_cases t4 : d.schemas.length > 8
          · simp only
            rw [if_pos t4]
            clear ho
            repeat' (first | refine i_len rfl ?_ | refine i_s rfl ?_ | refine sw ?_ | refine i_stb rfl ?_ | refine c_cond rfl (fun h => ?_) (fun h => ?_) | refine sf rfl rfl (f_R1_At _ _) ?_ | fail)
            all_goals first
              | exact e_ret ⟨rfl, _, rfl, rfl⟩
              | (exfalso; simp at *; omega)
          · simp only
            rw [if_neg t4]
            repeat' (first | refine i_len rfl ?_ | refine i_s rfl ?_ | refine sw ?_ | refine i_stb rfl ?_ | refine c_cond rfl (fun h => ?_) (fun h => ?_) | refine sf rfl rfl (f_R1_At _ _) ?_ | fail)
            all_goals first
              | (exfalso; simp at *; omega)
              | skip
            refine c_for d.schemas.length (fun k => [(1, .bptr 1664070 0), (2, .bptr 1664130 0), (8, .int .i64 k)]) (fun _ => [(1664070, .box (domV d)), (1664130, .box (ftV okF))]) (fun k => ∀ j, j < k → nzF (schCode d) (fun i => i) j = none) all_zero ft fun k hk hi => ?_
            by_cases hlt : k < d.schemas.length
            · obtain ⟨s, hs⟩ := get_some hlt
              have hso := ho.schemas.2 s (mem_get hs)
              have hN := f_R1_Name s.name hso.name
              have hC := f_R1_SchemaCode d hd ho s hso
              have hcode : schCode d k = if nameB s.name = false then 12 else if (d.schemas.take k).any (fun q => q.name == s.name) = true then 7 else schSelf d s := by simp only [schCode, hs]
              cases c1 : nameB s.name with
              | false =>
                rw [if_pos c1] at hcode
                rw [c1] at hN
                rw [scan0_hit hi hlt (show nzF (schCode d) (fun i => i) k = some ⟨12, k⟩ by unfold nzF; rw [hcode, if_neg (by decide)])]
                clear hi ho hcode hC
                repeat' (first | refine i_len rfl ?_ | refine i_s rfl ?_ | refine sw ?_ | refine c_t rfl ?_ | refine jd rfl rfl ?_ | refine i_stb rfl ?_ | refine c_cond rfl (fun h => ?_) (fun h => ?_) | refine sf rfl rfl hN ?_ | refine sf rfl rfl (f_R1_At _ _) ?_ | fail)
                all_goals first
                  | exact e_ret ⟨rfl, _, rfl, rfl⟩
                  | (exfalso; clear hN; simp at *; omega)
              | true =>
                rw [if_neg (by simp [c1])] at hcode
                rw [c1] at hN
                repeat' (first | refine i_len rfl ?_ | refine i_s rfl ?_ | refine sw ?_ | refine c_f rfl ?_ | refine jd rfl rfl ?_ | refine c_cond rfl (fun h => ?_) (fun h => ?_) | refine sf rfl rfl hN ?_ | fail)
                all_goals first
                  | (exfalso; clear hN hC; simp at *; omega)
                  | skip
                clear hN
                refine c_for k (fun j => [(1, .bptr 1664070 0), (2, .bptr 1664130 0), (8, .int .i64 k), (9, .int .i64 j)]) (fun _ => [(1664070, .box (domV d)), (1664130, .box (ftV okF))]) (fun j => ∀ i, i < j → ∀ q, d.schemas[i]? = some q → (q.name == s.name) = false) all_zero ft fun j hj hij => ?_
                by_cases hjk : j < k
                · obtain ⟨q, hq⟩ := get_some (l := d.schemas) (k := j) (by omega)
                  clear hC
                  cases hqp : q.name == s.name with
                  | true =>
                    have hany : (d.schemas.take k).any (fun q => q.name == s.name) = true := any_take_hit (p := fun u => u.name == s.name) hjk hq hqp
                    rw [if_pos hany] at hcode
                    rw [scan0_hit hi hlt (show nzF (schCode d) (fun i => i) k = some ⟨7, k⟩ by unfold nzF; rw [hcode, if_neg (by decide)])]
                    clear hi ho hcode hany hij
                    repeat' (first | refine i_s rfl ?_ | refine sw ?_ | refine ja rfl rfl ?_ | refine jd rfl rfl ?_ | refine i_stb rfl ?_ | refine c_cond rfl (fun h => ?_) (fun h => ?_) | refine sf rfl rfl (f_R1_At _ _) ?_ | fail)
                    all_goals first
                      | exact e_ret ⟨rfl, _, rfl, rfl⟩
                      | (exfalso; simp at *; omega)
                      | (exfalso; simp_all; done)
                  | false =>
                    clear hi ho hcode
                    repeat' (first | refine i_s rfl ?_ | refine sw ?_ | refine ja rfl rfl ?_ | refine jd rfl rfl ?_ | refine i_stb rfl ?_ | refine c_cond rfl (fun h => ?_) (fun h => ?_) | refine sf rfl rfl (f_R1_At _ _) ?_ | fail)
                    all_goals first
                      | (exact e_for hjk (all_succ hij fun y hy => by rw [hq] at hy; cases hy; exact hqp) ft)
                      | (exfalso; simp at *; omega)
                      | (exfalso; simp_all; done)
                · have hany : (d.schemas.take k).any (fun q => q.name == s.name) = false := any_take_none fun i hik => hij i (by omega)
                  rw [if_neg (by simp [hany])] at hcode
                  rw [← hcode] at hC
                  clear hcode hany hij
                  by_cases z : schCode d k = 0
                  · have hn : nzF (schCode d) (fun i => i) k = none := by unfold nzF; rw [if_pos z]
                    rw [z] at hC
                    clear ho
                    repeat' (first | refine i_s rfl ?_ | refine sw ?_ | refine c_f rfl ?_ | refine ja rfl rfl ?_ | refine jd rfl rfl ?_ | refine c_cond rfl (fun h => ?_) (fun h => ?_) | refine sf rfl rfl hC ?_ | fail)
                    all_goals first
                      | (exact e_for hlt (all_succ hi hn) ft)
                      | (exfalso; clear hC; simp at *; omega)
                  · rw [scan0_hit hi hlt (show nzF (schCode d) (fun i => i) k = some ⟨schCode d k, k⟩ by unfold nzF; rw [if_neg z])]
                    clear hi ho
                    generalize schCode d k = c at *
                    repeat' (first | refine i_s rfl ?_ | refine sw ?_ | refine ja rfl rfl ?_ | refine jd rfl rfl ?_ | refine i_stb rfl ?_ | refine c_cond rfl (fun h => ?_) (fun h => ?_) | refine sf rfl rfl hC ?_ | refine sf rfl rfl (f_R1_At _ _) ?_ | fail)
                    all_goals first
                      | exact e_ret ⟨rfl, _, rfl, rfl⟩
                      | (exfalso; clear hC; simp at *; omega)
            · rw [scan0_none fun j hj => hi j (by omega)]
              clear hi
              simp only
              have hil := ho.init.1
              have hS := f_R1_AtomsCode d hd hpl [] ⟨by simp, by simp⟩ d.init (by omega) ho.init.2 40 (by omega)
              have hO := f_R1_AtomsOf d.goal ho.goal.1
              have hG := f_R1_AtomsCode d hd hpl [] ⟨by simp, by simp⟩ (d.goal.map Lit.at_) (by have := ho.goal.1; simp; omega) (by intro a ha; obtain ⟨x, hx, rfl⟩ := List.mem_map.1 ha; exact ho.goal.2 x hx) 8 (by omega)
              have hinit := ho.init.2
              have hsc : startCode d = if atomsCode d [] d.init 40 ≠ 0 then atomsCode d [] d.init 40 else (scan (dupBad d.init) 0 d.init.length).getD 0 := rfl
              generalize startCode d = sc at *
              clear ho
              generalize atomsCode d [] d.init 40 = c1 at *
              generalize atomsCode d [] (d.goal.map Lit.at_) 8 = c2 at *
              repeat' (first | refine i_len rfl ?_ | refine i_s rfl ?_ | refine sw ?_ | refine c_cond rfl (fun h => ?_) (fun h => ?_) | refine sf rfl rfl hS ?_ | fail)
              all_goals first
                | (exfalso; clear hS hG hO hinit; simp at *; omega)
                | skip
              clear hS
              refine c_lp (ι := Nat × Int) (fun p => [(1, .bptr 1664070 0), (2, .bptr 1664130 0), (11, .int .i64 p.2), (12, .int .i64 p.1)]) (fun _ => [(1664070, .box (domV d)), (1664130, .box (ftV okF))])
                (fun p => p.1 ≤ d.init.length ∧ ((p.2 = 0 ∧ c1 = 0 ∧ ∀ j, j < p.1 → dupBad d.init j = none) ∨ (p.2 ≠ 0 ∧ p.2 = sc))) (fun p => d.init.length - p.1) (0, c1)
                ⟨Nat.zero_le _, by
                  by_cases z : c1 = 0
                  · exact .inl ⟨z, z, fun j hj => by omega⟩
                  · rw [if_pos z] at hsc
                    exact .inr ⟨z, hsc.symm⟩⟩ ft fun p hp => ?_
              obtain ⟨k, e⟩ := p
              obtain ⟨hk, hp⟩ := hp
              simp only at hk hp
              rcases hp with ⟨he, hc1, hi⟩ | ⟨he, hsc2⟩
              · subst he
                subst hc1
                rw [if_neg (by simp)] at hsc
                by_cases hlt : k < d.init.length
                · obtain ⟨x, hx⟩ := get_some hlt
                  have hH := f_R1_HasAtom (d.init.take k) x (by simp; omega) (fun y hy => hinit y (List.mem_of_mem_take hy)) (hinit x (mem_get hx))
                  have hbad : dupBad d.init k = if x ∈ d.init.take k then some 7 else none := by simp only [dupBad, hx]
                  clear hO hG
                  by_cases hm : x ∈ d.init.take k
                  · rw [if_pos hm] at hbad
                    rw [decide_eq_true hm] at hH
                    rw [scan0_hit hi hlt hbad] at hsc
                    clear hi hbad hm
                    repeat' (first | refine i_len rfl ?_ | refine i_s rfl ?_ | refine sw ?_ | refine i_gt rfl ?_ | refine i_gf rfl ?_ | refine c_t rfl ?_ | refine c_f rfl ?_ | refine ja rfl rfl ?_ | refine jd rfl rfl ?_ | refine jh rfl rfl ?_ | refine i_g rfl (fun h => ?_) (fun h => ?_) | refine sf rfl rfl hH ?_ | fail)
                    all_goals first
                      | (exact e_lp (k + 1, 7) ⟨by simp only; omega, .inr ⟨by simp, hsc.symm⟩⟩ (by simp only; omega) ft)
                      | (exfalso; clear hH; simp at *; omega)
                  · rw [if_neg hm] at hbad
                    rw [decide_eq_false hm] at hH
                    clear hm
                    repeat' (first | refine i_len rfl ?_ | refine i_s rfl ?_ | refine sw ?_ | refine i_gt rfl ?_ | refine i_gf rfl ?_ | refine c_t rfl ?_ | refine c_f rfl ?_ | refine ja rfl rfl ?_ | refine jd rfl rfl ?_ | refine jh rfl rfl ?_ | refine i_g rfl (fun h => ?_) (fun h => ?_) | refine sf rfl rfl hH ?_ | fail)
                    all_goals first
                      | (exact e_lp (k + 1, 0) ⟨by simp only; omega, .inl ⟨rfl, rfl, all_succ hi hbad⟩⟩ (by simp only; omega) ft)
                      | (exfalso; clear hH; simp at *; omega)
                · rw [scan0_none fun j hj => hi j (by omega)] at hsc
                  have hsc : sc = 0 := hsc
                  subst hsc
                  rw [if_neg (by simp)]
                  clear hi
                  by_cases z2 : c2 = 0
                  · subst z2
                    rw [if_neg (by simp)]
                    repeat' (first | refine i_len rfl ?_ | refine i_s rfl ?_ | refine sw ?_ | refine i_gt rfl ?_ | refine i_gf rfl ?_ | refine c_t rfl ?_ | refine c_f rfl ?_ | refine jh rfl rfl ?_ | refine i_stb rfl ?_ | refine i_g rfl (fun h => ?_) (fun h => ?_) | refine sf rfl rfl hO ?_ | refine sf rfl rfl hG ?_ | fail)
                    all_goals first
                      | exact e_ret ⟨rfl, _, rfl, rfl⟩
                      | (exfalso; clear hO hG; simp at *; omega)
                  · rw [if_pos z2]
                    repeat' (first | refine i_len rfl ?_ | refine i_s rfl ?_ | refine sw ?_ | refine i_gt rfl ?_ | refine i_gf rfl ?_ | refine c_t rfl ?_ | refine c_f rfl ?_ | refine jh rfl rfl ?_ | refine i_stb rfl ?_ | (refine sp ?_ ?_ <;> try intro h) | refine sf rfl rfl hO ?_ | refine sf rfl rfl hG ?_ | refine sf rfl rfl (f_R1_At _ _) ?_ | fail)
                    all_goals first
                      | exact e_ret ⟨rfl, _, rfl, rfl⟩
                      | (exfalso; clear hO hG; simp at *; omega)
              · clear hO hG
                rw [if_pos (by rw [← hsc2]; exact he)]
                subst hsc2
                clear hsc
                repeat' (first | refine i_len rfl ?_ | refine i_s rfl ?_ | refine sw ?_ | refine i_gt rfl ?_ | refine i_gf rfl ?_ | refine c_f rfl ?_ | refine jh rfl rfl ?_ | refine i_stb rfl ?_ | (refine sp ?_ ?_ <;> try intro h) | refine sf rfl rfl (f_R1_At _ _) ?_ | fail)
                all_goals first
                  | exact e_ret ⟨rfl, _, rfl, rfl⟩
                  | (exfalso; simp at *; omega)
                  | (exfalso; simp_all; done)
    · rw [if_pos t2]
      have ht2 : (objectsFault d.types.length d.objects).code ≠ 0 := fun h => t2 ((objectsFault_code _ _).1 h)
      clear ho
      generalize objectsFault d.types.length d.objects = F at *
      refine Fn.step mixed k_R1_DomainFault ?_
      repeat' (first | refine i_len rfl ?_ | refine i_s rfl ?_ | refine sw ?_ | refine c_f rfl ?_ | refine i_stb rfl ?_ | refine i_alloc rfl ?_ | refine i_box rfl rfl ?_ | refine c_cond rfl (fun h => ?_) (fun h => ?_) | refine sf rfl rfl hT ?_ | refine sf rfl rfl hO ?_ | refine sf rfl rfl (f_R1_At _ _) ?_ | fail)
      all_goals first
        | exact e_ret ⟨rfl, _, rfl, rfl⟩
        | (exfalso; clear hT hO; simp at *; omega)
        | (exfalso; clear hT hO; simp_all; done)
        | (exfalso; clear hT hO; simp [okF] at *; done)
  · rw [if_pos t1]
    have ht1 : (typesFault d.types).code ≠ 0 := fun h => t1 ((typesFault_code _).1 h)
    clear ho hO
    generalize typesFault d.types = F at *
    refine Fn.step mixed k_R1_DomainFault ?_
    repeat' (first | refine i_s rfl ?_ | refine sw ?_ | refine i_stb rfl ?_ | refine i_alloc rfl ?_ | refine i_box rfl rfl ?_ | refine c_cond rfl (fun h => ?_) (fun h => ?_) | refine sf rfl rfl hT ?_ | refine sf rfl rfl (f_R1_At _ _) ?_ | fail)
    all_goals first
      | exact e_ret ⟨rfl, _, rfl, rfl⟩
      | (exfalso; clear hT; simp at *; omega)
      | (exfalso; clear hT; simp_all; done)
      | (exfalso; clear hT; simp [okF] at *; done)
def c_R2_children : Cmd :=
 (qS [qc 2 0]
 (qT (qS [qm 3 0]
 (.block 0 (qT (qS [qv 5 .eql [.i] 3 4, qm 4 5]
 (.cond (.t 4) .skip (qS [qv 6 .eql [.i] 3 7, qm 4 6]
 (.cond (.t 4) .skip (.ops [qv 7 .eql [.i] 3 8, qm 4 7])))))
 (.cond (.t 4) (.seq (.ops [qc 2 1]) .ret) (qT (qS [qv 9 .eql [.i] 3 5, qm 8 9]
 (.cond (.t 8) .skip (.ops [qv 10 .eql [.i] 3 6, qm 8 10])))
 (.cond (.t 8) (.seq (.ops [qc 2 (-1)]) .ret) .skip))))))
 (.seq (.ops [qc 2 0]) .ret)))
def r_R2_children : List RVar := [.tmp 2]
def n_R2_children : Nat := 11
theorem k_R2_children : chkFn Go.Proofs.Tryz.prog 29 n_R2_children r_R2_children c_R2_children = true := by kernel_rfl
theorem f_R2_children (k : Int) : Fc Go.Proofs.Tryz.prog 29 [.int .i64 k] (.int .i64 (arityI k)) := by
  refine Fn.step mixed k_R2_children ?_
  repeat' (first | refine i_s rfl ?_ | refine sw ?_ | refine c_cond rfl (fun h => ?_) (fun h => ?_))
  all_goals (refine e_ret ⟨rfl, _, rfl, congrArg (V.int .i64) ?_⟩; unfold arityI; simp at *; (repeat' split) <;> omega)
def c_R2_Size : Cmd :=
 (qS [qc 4 0]
 (qS [qc 5 1]
 (qT (qS [qc 6 0]
 (.block 0 (.loop (qT (qS [qm 7 6, qm 8 0, qm 9 1, qi 10 7 8 9, qf 11 1 10, ql 12 1 11, qn 13 12, qu 14 .lss [] 7 13]
 (.cond (.t 14) .skip (.exit 0)))
 (qT (.block 1 (.ops [qm 17 5, qm 18 0, qm 19 0, qm 20 1, qi 21 7 19 20, qf 22 1 21, ql 23 1 22, qm 24 6, qi 25 1 23 24, ql 26 1 25, qk 27 30 [18, 26], qu 28 .add [] 17 27, qm 5 28]))
 (.ops [qm 15 6, qv 16 .add [] 15 1, qm 6 16]))))))
 (.seq (.ops [qm 29 5, qm 4 29]) .ret))))
def r_R2_Size : List RVar := [.tmp 4]
def n_R2_Size : Nat := 30
theorem k_R2_Size : chkFn Go.Proofs.Tryz.prog 30 n_R2_Size r_R2_Size c_R2_Size = true := by kernel_rfl
theorem f_R2_Size (l : List Cn) (hl : l.length ≤ 30) (ho : ∀ n ∈ l, CnOk n) : ∀ (i : Nat), i < l.length → chTo (treeC l) (i + 1) → Fc Go.Proofs.Tryz.prog 30 [.sl .p (l.map cnV), .int .i64 i] (.int .i64 (sz (treeC l) i)) := by
  intro i
  induction i using Nat.strongRecOn with
  | ind i ih =>
    intro hi hch
    obtain ⟨n, hn⟩ := get_some hi
    have hlow := hch.low
    have hle := sz_leC i (i + 1) hch (by omega)
    rw [sz_eq hlow, treeC_ch hn] at hle ⊢
    have hcl := (ho n (mem_get hn)).ch
    refine Fn.step mixed k_R2_Size ?_
    repeat (first | refine i_s rfl ?_ | refine sw ?_)
    refine c_for n.ch.length (fun k => [(0, .sl .p (l.map cnV)), (1, .int .i64 i), (5, .int .i64 ((1 + sumN (sz (treeC l)) (n.ch.take k) : Nat) : Int)), (6, .int .i64 k)]) (fun _ => []) (fun _ => True) trivial ft fun k hk _ => ?_
    have htk := sumN_take (sz (treeC l)) n.ch k
    repeat (first | refine i_len rfl ?_ | refine i_s rfl ?_ | refine sw ?_ | refine jd rfl rfl ?_)
    refine c_cond rfl (fun h => ?_) (fun h => ?_)
    · have hlt : k < n.ch.length := by simpa using h
      obtain ⟨c, hc⟩ := get_some hlt
      have hcr := hlow i (by omega) c (by rw [treeC_ch hn]; exact mem_get hc)
      have hR := ih c.toNat (by omega) (by omega) (hch.mono (by omega))
      rw [show ((c.toNat : Nat) : Int) = c from by omega] at hR
      have hm := sumN_mem (f := sz (treeC l)) (mem_get hc)
      have e : 1 + sumN (sz (treeC l)) (n.ch.take (k + 1)) = (1 + sumN (sz (treeC l)) (n.ch.take k)) + sz (treeC l) c.toNat := by rw [take_succ_get hc, sumN_snoc]; omega
      clear h ih hlow hch
      repeat' (first | refine i_s rfl ?_ | refine sw ?_ | refine ja rfl rfl ?_ | refine jd rfl rfl ?_ | refine sf rfl rfl hR ?_ | fail)
      refine e_for hlt trivial ⟨⟨rfl, rfl, ?_, rfl, trivial⟩, trivial, rfl⟩
      rw [e]; rfl
    · have hge : k = n.ch.length := by have : ¬ k < n.ch.length := by simpa using h
                                       omega
      subst hge
      rw [List.take_length]
      clear h ih
      repeat' (first | refine i_s rfl ?_ | refine sw ?_ | fail)
      exact e_ret ⟨rfl, _, rfl, rfl⟩
theorem find_range_none {p : Nat → Bool} {n : Nat} (h : ∀ j, j < n → p j = false) : (List.range n).find? p = none := by
  rw [List.find?_eq_none]
  intro x hx
  rw [h x (by simpa using hx)]
  simp
def c_R1_Copy : Cmd :=
 (qS [qq 2 (.mov (.c (.sl .nil [])))]
 (qS [qq 3 (.newArr 3328193)]
 (.seq (.ops [qm 4 3, qm 5 0, qq 6 (.append 1 8 3 (.t 4) (.t 5)), qm 2 6]) .ret)))
def r_R1_Copy : List RVar := [.tmp 2]
def n_R1_Copy : Nat := 7
theorem k_R1_Copy : chkFn Go.Proofs.Tryz.prog 52 n_R1_Copy r_R1_Copy c_R1_Copy = true := by kernel_rfl
theorem c_R1_Copy_ct {G : Type} {H : HT G} (s : List Int) (hl : s.length ≤ 17592186044416) (σ : Store) (g : G) (h1 : σ 3328193 = .unused) (hp : ∀ nm, σ nm ≠ .unused → nm ∈ [3328193]) :
    Cc Go.Proofs.Tryz.prog H 52 [.sl .p (s.map i64V)] [3328193] σ g fun r σ' g' => (∃ gen, r = .msl 3328193 gen 0 s.length ∧ σ' = stOf [(3328193, .arr gen (s.map i64V))]) ∧ g' = g := by
  refine CT.step _ mixed k_R1_Copy hp fun hM => ?_
  repeat (first | refine i_s rfl ?_ | refine sw ?_)
  refine i_na h1 ?_
  repeat (first | refine i_s rfl ?_ | refine sw ?_)
  refine i_appm rfl rfl rfl rfl rfl (fun row hrow => ?_) (by simp; omega) (by simp; omega) ?_
  · obtain ⟨n, _, rfl⟩ := List.mem_map.1 hrow
    exact ⟨rfl, rfl⟩
  repeat (first | refine i_s rfl ?_ | refine sw ?_)
  refine e_ret ⟨rfl, _, rfl, rfl, rfl, ⟨1, ?_, ?_⟩, rfl⟩
  · show V.msl _ _ _ _ = V.msl _ _ _ _
    simp
  · rw [restr_stOf]; rfl
theorem parentC_hit {l : List Cn} {i p : Nat} {n : Cn} (hp : i < p) (hn : l[p]? = some n) (hm : (i : Int) ∈ n.ch) (hb : ∀ j, i < j → j < p → ∀ m, l[j]? = some m → (i : Int) ∉ m.ch) : parentC l i = some p := by
  unfold parentC
  refine find_range_hit (get_lt hn) (fun j hj => ?_) ?_
  · by_cases h : i < j
    · obtain ⟨m, hm⟩ := get_some (l := l) (k := j) (by have := get_lt hn; omega)
      have := hb j h hj m hm
      simp [hm, this]
    · simp [h]
  · simp [hn, hp, hm]
theorem parentC_none {l : List Cn} {i : Nat} (hb : ∀ j, i < j → j < l.length → ∀ m, l[j]? = some m → (i : Int) ∉ m.ch) : parentC l i = none := by
  unfold parentC
  refine find_range_none fun j hj => ?_
  by_cases h : i < j
  · obtain ⟨m, hm⟩ := get_some hj
    have := hb j h hj m hm
    simp [hm, this]
  · simp [h]
def c_R2_scope : Cmd :=
 (qS [qx 2 4352130 2 0, qq 4 (.mov (.c (.sl .nil [])))]
 (qT (qS [qm 7 1, qv 8 .add [] 7 1, qm 5 8]
 (.block 0 (.loop (qT (qS [qm 9 5, qf 10 1 2, ql 11 1 10, qn 12 11, qu 13 .lss [] 9 12]
 (.cond (.t 13) .skip (.exit 0)))
 (qT (.block 1 (qS [qf 16 1 2, ql 17 1 16, qm 18 5, qi 19 7 17 18, qf 20 1 19, ql 21 1 20, qm 22 1, qk 23 81 [21, 22]]
 (.cond (.t 23) (qS [qL 24 2 2, qm 25 5, qk 26 68 [24, 25], qq 27 (.call (.s [3328193]) (.c (.fn 52 [])) [.t 26]), qm 6 27]
 (qT (qS [qf 28 1 2, ql 29 1 28, qm 30 5, qi 31 7 29 30, qf 32 0 31, ql 33 1 32, qv 34 .geq [] 33 7]
 (.cond (.t 34) (.ops [qm 35 6, qf 36 1 2, ql 37 1 36, qm 38 5, qi 39 7 37 38, qf 40 6 39, ql 41 1 40, qq 42 (.bsl 1 [.t 41]), qq 43 (.append 1 8 3 (.t 35) (.t 42)), qm 6 43]) .skip))
 (.seq (.ops [qm 44 6, qm 4 44]) .ret))) .skip)))
 (.ops [qm 14 5, qv 15 .add [] 14 1, qm 5 15]))))))
 (.seq (.ops [qf 45 0 2, ql 46 1 45, qm 4 46]) .ret)))
def r_R2_scope : List RVar := [.tmp 4]
def n_R2_scope : Nat := 47
theorem k_R2_scope : chkFn Go.Proofs.Tryz.prog 68 n_R2_scope r_R2_scope c_R2_scope = true := by kernel_rfl
theorem f_R2_scope (c : Cnd) (ho : CndOk c) (h3 : c.types.length ≤ 3) (h30 : c.nodes.length ≤ 30) (hk8 : ∀ n ∈ c.nodes, n.kind ≤ 8) : ∀ (m i : Nat), c.nodes.length = i + m → 0 < m → Fc Go.Proofs.Tryz.prog 68 [cndV c, .int .i64 i] (psV (scopeC c i)) := by
  intro m
  induction m using Nat.strongRecOn with
  | ind m ih =>
    intro i hm m0
    refine Fn.step mixed k_R2_scope ?_
    repeat' (first | refine i_s rfl ?_ | refine sw ?_ | refine ja rfl rfl ?_ | refine i_box rfl rfl ?_)
    refine c_lp (fun p : Nat => [(1, .int .i64 i), (2, .bptr 4352130 0), (5, .int .i64 p)]) (fun _ => [(4352130, .box (cndV c))]) (fun p => i < p ∧ p ≤ c.nodes.length ∧ ∀ j, i < j → j < p → ∀ m, c.nodes[j]? = some m → (i : Int) ∉ m.ch) (fun p => c.nodes.length - p) (i + 1) ⟨by omega, by omega, fun j h1 h2 => by omega⟩ ft fun p hp => ?_
    obtain ⟨hip, hpl, hall⟩ := hp
    by_cases hlt : p < c.nodes.length
    · obtain ⟨n, hn⟩ := get_some hlt
      have hno := (ho.nodes n (mem_get hn)).ch
      have hn8 := hk8 n (mem_get hn)
      have hH := f_R1_Has n.ch i (by omega)
      by_cases hmem : (i : Int) ∈ n.ch
      · rw [decide_eq_true hmem] at hH
        have hS := ih (m - (p - i)) (by omega) p (by omega) (by omega)
        have hpc := parentC_hit hip hn hmem hall
        have hsl := scopeF_len c c.nodes.length p
        have hlp : (scopeC c p).length ≤ 33 := by unfold scopeC; omega
        rw [scopeC_eq c i (by omega), hpc]
        simp only [hn]
        show WC _ _ _ (fnPost _ (psV (scopeC c p ++ ownC n))) _ _ _ _ _
        clear hpc hall ih ho hk8
        repeat' (first | refine i_len rfl ?_ | refine i_s rfl ?_ | refine sw ?_ | refine c_t rfl ?_ | refine jd rfl rfl ?_ | refine c_cond rfl (fun h => ?_) (fun h => ?_) | refine sf rfl rfl hH ?_ | refine sf rfl rfl hS ?_ | fail)
        all_goals first
          | (exfalso; clear hH hS; simp at *; done)
          | (exfalso; clear hH hS; simp at *; omega)
          | skip
        refine i_c rfl rfl rfl (c_R1_Copy_ct (scopeC c p) (by omega) _ _ rfl fun nm h => restr_mem nm h) ?_
        rintro _ _ _ ⟨⟨gen, rfl, rfl⟩, rfl⟩
        generalize scopeC c p = L at *
        repeat' (first | refine i_s rfl ?_ | refine sw ?_ | refine jd rfl rfl ?_ | refine c_cond rfl (fun h => ?_) (fun h => ?_))
        · refine i_appmM [n.type] rfl rfl rfl rfl rfl (fun c hc => ⟨rfl, rfl⟩) (by simp only [List.length_singleton]; omega) (by simp only [List.length_singleton]; omega) ?_
          repeat' (first | refine i_s rfl ?_ | refine sw ?_ | fail)
          have e : ownC n = [n.type] := by unfold ownC quantK; rw [if_pos]; simp at *; omega
          rw [e]
          exact e_ret ⟨rfl, _, rfl, ((er_msl (i := 0) (len := (L ++ [n.type]).length) (n := 5) rfl).trans (msl_all rfl)).symm⟩
        · have e : ownC n = [] := by unfold ownC quantK; rw [if_neg]; simp at *; omega
          rw [e, List.append_nil]
          exact e_ret ⟨rfl, _, rfl, ((er_msl (i := 0) (len := L.length) (n := 5) rfl).trans (msl_all rfl)).symm⟩
      · rw [decide_eq_false hmem] at hH
        clear ih ho hk8
        repeat' (first | refine i_len rfl ?_ | refine i_s rfl ?_ | refine sw ?_ | refine c_f rfl ?_ | refine ja rfl rfl ?_ | refine jd rfl rfl ?_ | refine c_cond rfl (fun h => ?_) (fun h => ?_) | refine sf rfl rfl hH ?_ | fail)
        all_goals first
          | (exfalso; clear hH hall; simp at *; omega)
          | exact e_lp (p + 1) ⟨by omega, by omega, fun j h1 h2 m' hm' => (by
              by_cases e : j = p
              · subst e; rw [hn] at hm'; cases hm'; exact hmem
              · exact hall j h1 (by omega) m' hm')⟩ (by omega) ft
    · have hpe : p = c.nodes.length := by omega
      subst hpe
      rw [scopeC_eq c i (by omega), parentC_none hall]
      clear hall ih ho hk8
      repeat' (first | refine i_len rfl ?_ | refine i_s rfl ?_ | refine sw ?_ | refine c_cond rfl (fun h => ?_) (fun h => ?_))
      all_goals first
        | exact e_ret ⟨rfl, _, rfl, rfl⟩
        | (exfalso; simp at *; done)
        | (exfalso; simp at *; omega)
def c_R2_quantifierCode : Cmd :=
 (qS [qx 3 1984198 6 0, qx 4 1984258 2 1, qc 6 0]
 (qS [qf 8 1 4, ql 9 1 8, qm 10 2, qi 11 7 9 10, qL 12 7 11, qq 7 (.alloc 1984455 (.agg [.int .i64 0, .sl .nil [], .int .i64 0, .sl .nil [], .int .i64 0, .int .i64 0, .int .i64 0])), qs 7 7 12]
 (qT (qS [qf 13 0 7, ql 14 1 13, qv 15 .lss [] 14 7]
 (.cond (.t 15) (.seq (.ops [qc 6 0]) .ret) .skip))
 (qT (qS [qf 16 6 7, ql 17 1 16, qf 18 0 3, ql 19 1 18, qn 20 19, qv 21 .sub [] 20 1, qq 22 (.call .f (.c (.fn 28 [])) [.t 17, .c (.int .i64 (-1)), .t 21]), qq 23 (.not (.t 22))]
 (.cond (.t 23) (.seq (.ops [qc 6 3]) .ret) .skip))
 (qT (qS [qL 24 2 4, qm 25 2, qk 26 68 [24, 25], qn 27 26, qv 28 .geq [] 27 6]
 (.cond (.t 28) (.seq (.ops [qc 6 2]) .ret) .skip))
 (.seq (.ops [qc 6 0]) .ret))))))
def r_R2_quantifierCode : List RVar := [.tmp 6]
def n_R2_quantifierCode : Nat := 29
theorem k_R2_quantifierCode : chkFn Go.Proofs.Tryz.prog 31 n_R2_quantifierCode r_R2_quantifierCode c_R2_quantifierCode = true := by kernel_rfl
theorem f_R2_quantifierCode (d : Dom) (hd : d.types.length ≤ 140737488355328) (c : Cnd) (ho : CndOk c) (h3 : c.types.length ≤ 3) (h30 : c.nodes.length ≤ 30) (hk8 : ∀ n ∈ c.nodes, n.kind ≤ 8) (i : Nat) (n : Cn) (hn : c.nodes[i]? = some n) :
    Fc Go.Proofs.Tryz.prog 31 [domV d, cndV c, .int .i64 i] (.int .i64 (quCode d n (scopeC c i))) := by
  have hi := get_lt hn
  have hS := f_R2_scope c ho h3 h30 hk8 (c.nodes.length - i) i (by omega) (by omega)
  have hI := f_R1_In n.type (-1) ((d.types.length : Int) - 1)
  have hn8 := hk8 n (mem_get hn)
  have hsl := scopeF_len c c.nodes.length i
  have hlp : (scopeC c i).length ≤ 33 := by unfold scopeC; omega
  generalize scopeC c i = ps at *
  clear ho hk8 hsl
  refine Fn.step mixed k_R2_quantifierCode ?_
  repeat' (first | refine i_len rfl ?_ | refine i_s rfl ?_ | refine sw ?_ | refine jb rfl rfl ?_ | refine jd rfl rfl ?_ | refine i_stb rfl ?_ | refine i_alloc rfl ?_ | refine i_box rfl rfl ?_ | refine c_cond rfl (fun h => ?_) (fun h => ?_) | refine sf rfl rfl hS ?_ | refine sf rfl rfl hI ?_ | fail)
  all_goals (refine e_ret ⟨rfl, _, rfl, congrArg (V.int .i64) ?_⟩; unfold quCode quantK badT; clear hS hI; first | (simp at *; done) | (simp at *; (repeat' split) <;> omega))
theorem badArg_In {d : Dom} {ps : List Int} {x : Int} : (!(decide (0 - (ps.length : Int) ≤ x) && decide (x ≤ (d.objects.length : Int) - 1))) = badArg d ps x := by
  unfold badArg
  rw [Bool.eq_iff_iff]
  simp
  omega
def c_R2_leafCode : Cmd :=
 (qS [qx 3 2048198 6 0, qx 4 2048258 2 1, qc 6 0]
 (qS [qf 9 1 4, ql 10 1 9, qm 11 2, qi 12 7 10 11, qL 13 7 12, qq 7 (.alloc 2048455 (.agg [.int .i64 0, .sl .nil [], .int .i64 0, .sl .nil [], .int .i64 0, .int .i64 0, .int .i64 0])), qs 7 7 13]
 (qS [qL 14 2 4, qm 15 2, qk 16 68 [14, 15], qm 8 16]
 (qT (qS [qf 17 0 7, ql 18 1 17, qv 19 .eql [.i] 18 2]
 (.cond (.t 19) (.seq (.ops [qL 20 6 3, qm 21 8, qf 22 2 7, qL 23 2 22, qk 24 39 [20, 21, 23], qm 6 24]) .ret) .skip))
 (qT (qS [qf 25 0 7, ql 26 1 25, qv 27 .eql [.i] 26 3, qm 28 27, qg 29 28 true (.faddr 4 (.t 7)), qg 30 28 true (.load false 1 (.t 29)), qg 31 28 true (.mov (.t 8)), qg 32 28 true (.len false (.t 31)), qg 33 28 true (.bin .sub false [] (.c (.int .i64 0)) (.t 32)), qg 34 28 true (.faddr 1 (.t 3)), qg 35 28 true (.load false 1 (.t 34)), qg 36 28 true (.len false (.t 35)), qg 37 28 true (.bin .sub false [] (.t 36) (.c (.int .i64 1))), qg 38 28 true (.call .f (.c (.fn 28 [])) [.t 30, .t 33, .t 37]), qg 39 28 true (.not (.t 38)), qg 40 28 true (.mov (.t 39)), qg 41 40 false (.faddr 5 (.t 7)), qg 42 40 false (.load false 1 (.t 41)), qg 43 40 false (.mov (.t 8)), qg 44 40 false (.len false (.t 43)), qg 45 40 false (.bin .sub false [] (.c (.int .i64 0)) (.t 44)), qg 46 40 false (.faddr 1 (.t 3)), qg 47 40 false (.load false 1 (.t 46)), qg 48 40 false (.len false (.t 47)), qg 49 40 false (.bin .sub false [] (.t 48) (.c (.int .i64 1))), qg 50 40 false (.call .f (.c (.fn 28 [])) [.t 42, .t 45, .t 49]), qg 51 40 false (.not (.t 50)), qg 52 28 true (.pick (.t 40) (.c (.bool true)) (.t 51)), qq 53 (.pick (.t 28) (.t 52) (.c (.bool false)))]
 (.cond (.t 53) (.seq (.ops [qc 6 3]) .ret) .skip))
 (.seq (.ops [qc 6 0]) .ret))))))
def r_R2_leafCode : List RVar := [.tmp 6]
def n_R2_leafCode : Nat := 54
theorem k_R2_leafCode : chkFn Go.Proofs.Tryz.prog 32 n_R2_leafCode r_R2_leafCode c_R2_leafCode = true := by kernel_rfl
theorem f_R2_leafCode (d : Dom) (hd : DoTy d) (hpr : d.preds.length ≤ 140737488355328) (c : Cnd) (ho : CndOk c) (h3 : c.types.length ≤ 3) (h30 : c.nodes.length ≤ 30) (hk8 : ∀ n ∈ c.nodes, n.kind ≤ 8) (i : Nat) (n : Cn) (hn : c.nodes[i]? = some n) (hps : PsOk d (scopeC c i)) :
    Fc Go.Proofs.Tryz.prog 32 [domV d, cndV c, .int .i64 i] (.int .i64 (leafCode d n (scopeC c i))) := by
  have hi := get_lt hn
  have hS := f_R2_scope c ho h3 h30 hk8 (c.nodes.length - i) i (by omega) (by omega)
  have hA := f_R1_AtomCode d hd (scopeC c i) hps n.at_ (ho.nodes n (mem_get hn)).at_ hpr
  have hol := hd.ol
  have hlp := hps.1
  generalize scopeC c i = ps at *
  clear ho hk8 hps
  unfold leafCode
  by_cases k2 : n.kind = 2
  · rw [if_pos k2]
    generalize atomCode d ps n.at_ = e at *
    refine Fn.step mixed k_R2_leafCode ?_
    repeat' (first | refine i_len rfl ?_ | refine i_s rfl ?_ | refine sw ?_ | refine i_gt rfl ?_ | refine i_gf rfl ?_ | refine i_gd rfl ?_ | refine c_f rfl ?_ | refine jb rfl rfl ?_ | refine jd rfl rfl ?_ | refine i_stb rfl ?_ | refine i_alloc rfl ?_ | refine i_box rfl rfl ?_ | (refine sp ?_ ?_ <;> try intro h) | refine sf rfl rfl hS ?_ | refine sf rfl rfl hA ?_ | fail)
    all_goals first
      | exact e_ret ⟨rfl, _, rfl, rfl⟩
      | (exfalso; clear hS hA; simp_all; done)
  · rw [if_neg k2]
    clear hA
    have hL := f_R1_In n.left (0 - (ps.length : Int)) ((d.objects.length : Int) - 1)
    have hR := f_R1_In n.right (0 - (ps.length : Int)) ((d.objects.length : Int) - 1)
    have bL := badArg_In (d := d) (ps := ps) (x := n.left)
    have bR := badArg_In (d := d) (ps := ps) (x := n.right)
    generalize (decide (0 - (ps.length : Int) ≤ n.left) && decide (n.left ≤ (d.objects.length : Int) - 1)) = u at *
    generalize (decide (0 - (ps.length : Int) ≤ n.right) && decide (n.right ≤ (d.objects.length : Int) - 1)) = w at *
    rw [← bL, ← bR]
    clear bL bR
    by_cases k3 : n.kind = 3
    · rw [if_pos k3]
      cases u <;> cases w
      all_goals
        refine Fn.step mixed k_R2_leafCode ?_
        repeat' (first | refine i_len rfl ?_ | refine i_s rfl ?_ | refine sw ?_ | refine i_gt rfl ?_ | refine i_gf rfl ?_ | refine i_gd rfl ?_ | refine c_t rfl ?_ | refine c_f rfl ?_ | refine jb rfl rfl ?_ | refine jd rfl rfl ?_ | refine i_stb rfl ?_ | refine i_alloc rfl ?_ | refine i_box rfl rfl ?_ | (refine sp ?_ ?_ <;> try intro h) | refine sf rfl rfl hS ?_ | refine sf rfl rfl hL ?_ | refine sf rfl rfl hR ?_ | fail)
      all_goals first
        | exact e_ret ⟨rfl, _, rfl, rfl⟩
        | (exfalso; clear hS hL hR; simp_all; done)
    · rw [if_neg k3]
      refine Fn.step mixed k_R2_leafCode ?_
      repeat' (first | refine i_len rfl ?_ | refine i_s rfl ?_ | refine sw ?_ | refine i_gt rfl ?_ | refine i_gf rfl ?_ | refine i_gd rfl ?_ | refine c_t rfl ?_ | refine c_f rfl ?_ | refine jb rfl rfl ?_ | refine jd rfl rfl ?_ | refine i_stb rfl ?_ | refine i_alloc rfl ?_ | refine i_box rfl rfl ?_ | (refine sp ?_ ?_ <;> try intro h) | refine sf rfl rfl hS ?_ | refine sf rfl rfl hL ?_ | refine sf rfl rfl hR ?_ | fail)
      all_goals first
        | exact e_ret ⟨rfl, _, rfl, rfl⟩
        | (exfalso; clear hS hL hR; simp_all; done)
def c_R2_ConditionFault : Cmd :=
 (qS [qx 2 640134 6 0, qx 3 640194 2 1, qq 4 (.alloc 640258 (.agg [.int .i64 0, .int .i64 0]))]
 (qS [qL 13 6 2, qk 14 26 [13], qq 5 (.alloc 640322 (.agg [.int .i64 0, .int .i64 0])), qs 2 5 14]
 (qT (qS [qf 15 0 5, ql 16 1 15, qv 17 .neq [.i] 16 0]
 (.cond (.t 17) (.seq (.ops [qL 18 2 5, qs 2 4 18]) .ret) .skip))
 (qS [qL 19 6 2, qf 20 0 3, ql 21 1 20, qk 22 27 [19, 21], qm 6 22]
 (qT (qS [qm 23 6, qv 24 .neq [.i] 23 0]
 (.cond (.t 24) (.seq (.ops [qm 25 6, qq 26 (.call .f (.c (.fn 17 [])) [.t 25, .c (.int .i64 (-9))]), qs 2 4 26]) .ret) .skip))
 (qT (qS [qf 27 1 3, ql 28 1 27, qn 29 28, qq 30 (.call .f (.c (.fn 28 [])) [.t 29, .c (.int .i64 1), .c (.int .i64 30)]), qq 31 (.not (.t 30))]
 (.cond (.t 31) (.seq (.ops [qq 32 (.call .f (.c (.fn 17 [])) [.c (.int .i64 2), .c (.int .i64 (-10))]), qs 2 4 32]) .ret) .skip))
 (qT (qS [qc 7 0]
 (.block 0 (.loop (qT (qS [qm 33 7, qf 34 1 3, ql 35 1 34, qn 36 35, qu 37 .lss [] 33 36]
 (.cond (.t 37) .skip (.exit 0)))
 (qT (.block 1 (qS [qf 40 1 3, ql 41 1 40, qm 42 7, qi 43 7 41 42, qL 44 7 43, qq 8 (.alloc 640519 (.agg [.int .i64 0, .sl .nil [], .int .i64 0, .sl .nil [], .int .i64 0, .int .i64 0, .int .i64 0])), qs 7 8 44]
 (qT (qS [qf 45 0 8, ql 46 1 45, qq 47 (.call .f (.c (.fn 28 [])) [.t 46, .c (.int .i64 1), .c (.int .i64 8)]), qq 48 (.not (.t 47))]
 (.cond (.t 48) (.seq (.ops [qm 49 7, qq 50 (.bin .add false [] (.c (.int .i64 100)) (.t 49)), qq 51 (.call .f (.c (.fn 17 [])) [.c (.int .i64 4), .t 50]), qs 2 4 51]) .ret) .skip))
 (qT (qS [qf 52 0 8, ql 53 1 52, qk 54 29 [53], qv 55 .geq [] 54 0, qm 56 55, qg 57 56 true (.faddr 1 (.t 8)), qg 58 56 true (.load false 1 (.t 57)), qg 59 56 true (.len false (.t 58)), qg 60 56 true (.faddr 0 (.t 8)), qg 61 56 true (.load false 1 (.t 60)), qg 62 56 true (.call .f (.c (.fn 29 [])) [.t 61]), qg 63 56 true (.bin .neq false [.i] (.t 59) (.t 62)), qq 64 (.pick (.t 56) (.t 63) (.c (.bool false)))]
 (.cond (.t 64) (.seq (.ops [qm 65 7, qq 66 (.bin .add false [] (.c (.int .i64 100)) (.t 65)), qq 67 (.call .f (.c (.fn 17 [])) [.c (.int .i64 9), .t 66]), qs 2 4 67]) .ret) .skip))
 (qS [qm 68 7, qm 9 68]
 (qS [qf 69 1 8, ql 70 1 69, qn 71 70, qv 72 .sub [] 71 1, qm 10 72]
 (.block 2 (.loop (qT (qS [qm 73 10, qv 74 .geq [] 73 0]
 (.cond (.t 74) .skip (.exit 2)))
 (qT (.block 3 (qT (qS [qf 77 1 8, ql 78 1 77, qm 79 10, qi 80 1 78 79, ql 81 1 80, qv 82 .lss [] 81 0, qm 83 82, qg 84 83 false (.faddr 1 (.t 8)), qg 85 83 false (.load false 1 (.t 84)), qg 86 83 false (.mov (.t 10)), qg 87 83 false (.iaddr 1 (.t 85) (.t 86)), qg 88 83 false (.load false 1 (.t 87)), qg 89 83 false (.bin .add false [] (.t 88) (.c (.int .i64 1))), qg 90 83 false (.mov (.t 9)), qg 91 83 false (.bin .neq false [.i] (.t 89) (.t 90)), qq 92 (.pick (.t 83) (.c (.bool true)) (.t 91))]
 (.cond (.t 92) (.seq (.ops [qm 93 7, qq 94 (.bin .add false [] (.c (.int .i64 100)) (.t 93)), qq 95 (.call .f (.c (.fn 17 [])) [.c (.int .i64 5), .t 94]), qs 2 4 95]) .ret) .skip))
 (.ops [qm 96 9, qf 97 1 3, ql 98 1 97, qf 99 1 8, ql 100 1 99, qm 101 10, qi 102 1 100 101, ql 103 1 102, qk 104 30 [98, 103], qu 105 .sub [] 96 104, qm 9 105])))
 (.ops [qm 75 10, qv 76 .sub [] 75 1, qm 10 76])))))))))))
 (.ops [qm 38 7, qv 39 .add [] 38 1, qm 7 39]))))))
 (qT (qS [qf 106 1 3, ql 107 1 106, qf 108 1 3, ql 109 1 108, qn 110 109, qv 111 .sub [] 110 1, qk 112 30 [107, 111], qf 113 1 3, ql 114 1 113, qn 115 114, qu 116 .neq [.i] 112 115]
 (.cond (.t 116) (.seq (.ops [qq 117 (.call .f (.c (.fn 17 [])) [.c (.int .i64 5), .c (.int .i64 (-10))]), qs 2 4 117]) .ret) .skip))
 (qT (qS [qc 11 0]
 (.block 4 (.loop (qT (qS [qm 118 11, qf 119 1 3, ql 120 1 119, qn 121 120, qu 122 .lss [] 118 121]
 (.cond (.t 122) .skip (.exit 4)))
 (qT (.block 5 (qS [qL 125 6 2, qL 126 2 3, qm 127 11, qk 128 31 [125, 126, 127], qm 6 128]
 (qS [qm 129 6, qv 130 .neq [.i] 129 0]
 (.cond (.t 130) (.seq (.ops [qm 131 6, qm 132 11, qq 133 (.bin .add false [] (.c (.int .i64 100)) (.t 132)), qk 134 17 [131, 133], qs 2 4 134]) .ret) .skip))))
 (.ops [qm 123 11, qv 124 .add [] 123 1, qm 11 124]))))))
 (qT (qS [qc 12 0]
 (.block 6 (.loop (qT (qS [qm 135 12, qf 136 1 3, ql 137 1 136, qn 138 137, qu 139 .lss [] 135 138]
 (.cond (.t 139) .skip (.exit 6)))
 (qT (.block 7 (qS [qL 142 6 2, qL 143 2 3, qm 144 12, qk 145 32 [142, 143, 144], qm 6 145]
 (qS [qm 146 6, qv 147 .neq [.i] 146 0]
 (.cond (.t 147) (.seq (.ops [qm 148 6, qm 149 12, qq 150 (.bin .add false [] (.c (.int .i64 100)) (.t 149)), qk 151 17 [148, 150], qs 2 4 151]) .ret) .skip))))
 (.ops [qm 140 12, qv 141 .add [] 140 1, qm 12 141]))))))
 (.seq (.ops [qL 152 2 5, qs 2 4 152]) .ret)))))))))))
def r_R2_ConditionFault : List RVar := [.cell true 2 4]
def n_R2_ConditionFault : Nat := 153
theorem k_R2_ConditionFault : chkFn Go.Proofs.Tryz.prog 10 n_R2_ConditionFault r_R2_ConditionFault c_R2_ConditionFault = true := by kernel_rfl
abbrev cfE (c : Cnd) (i : Nat) : List (Nat × V) := [(2, .bptr 640134 0), (3, .bptr 640194 0), (4, .bptr 640258 0), (5, .bptr 640322 0), (7, .int .i64 i)]
abbrev cfS (d : Dom) (c : Cnd) : List (Nat × Blk) := [(640134, .box (domV d)), (640194, .box (cndV c)), (640258, .box (ftV okF)), (640322, .box (ftV okF))]
theorem f_R2_ConditionFault (d : Dom) (hdo : DoOk d) (c : Cnd) (ho : CndOk c) : Fc Go.Proofs.Tryz.prog 10 [domV d, cndV c] (ftV (condFault d c)) := by
  have hD := f_R1_DomainFault d hdo
  have htl := hdo.types.1
  have hcl := ho.types
  have hnl := ho.len
  have hP := f_R1_TypesCode d htl c.types (by omega)
  by_cases t1 : domFault d = okF
  · rw [t1] at hD
    by_cases t2 : paramsCode d.types.length c.types = 0
    · rw [t2] at hP
      have hI := f_R1_In c.nodes.length 1 30
      by_cases hb : c.nodes.length = 0 ∨ c.nodes.length > 30
      · have e := sh_big hb
        rw [cf_shape t1 t2 (by rw [e]; exact ne_okF (by decide)), e]
        rw [show (decide ((1 : Int) ≤ c.nodes.length) && decide ((c.nodes.length : Int) ≤ 30)) = false from by rw [Bool.and_eq_false_iff]; rcases hb with h | h <;> simp <;> omega] at hI
        refine Fn.step mixed k_R2_ConditionFault ?_
        repeat' (first | refine i_len rfl ?_ | refine i_s rfl ?_ | refine sw ?_ | refine c_t rfl ?_ | refine c_f rfl ?_ | refine i_stb rfl ?_ | refine i_alloc rfl ?_ | refine i_box rfl rfl ?_ | refine sf rfl rfl hD ?_ | refine sf rfl rfl hP ?_ | refine sf rfl rfl hI ?_ | refine sf rfl rfl (f_R1_At _ _) ?_ | fail)
        all_goals first
          | exact e_ret ⟨rfl, _, rfl, rfl⟩
          | (exfalso; clear hD hP hI; simp [okF] at *; done)
      have hl2 : 1 ≤ c.nodes.length ∧ c.nodes.length ≤ 30 := by omega
      rw [show (decide ((1 : Int) ≤ c.nodes.length) && decide ((c.nodes.length : Int) ≤ 30)) = true from by rw [Bool.and_eq_true]; simp; omega] at hI
      obtain ⟨p1, p2⟩ := paramsCode_ok t2
      have hdt : DoTy d := domTy t1
      refine Fn.step mixed k_R2_ConditionFault ?_
      repeat' (first | refine i_len rfl ?_ | refine i_s rfl ?_ | refine sw ?_ | refine c_f rfl ?_ | refine i_stb rfl ?_ | refine i_alloc rfl ?_ | refine i_box rfl rfl ?_ | refine sf rfl rfl hD ?_ | refine sf rfl rfl hP ?_ | refine sf rfl rfl hI ?_ | fail)
      all_goals first
        | (exfalso; clear hD hP hI; simp [okF] at *; done)
        | skip
      clear hD hP hI
      refine c_for c.nodes.length (cfE c) (fun _ => cfS d c) (fun i => ∀ j, j < i → cnBad c.nodes j = none) all_zero ft fun i hi hp => ?_
      repeat (first | refine i_len rfl ?_ | refine i_s rfl ?_ | refine sw ?_)
      refine c_cond rfl (fun h => ?_) (fun h => ?_)
      · have hlt : i < c.nodes.length := by simpa using h
        obtain ⟨n, hn⟩ := get_some hlt
        have hno := ho.nodes n (mem_get hn)
        have hnc := hno.ch
        have hA := f_R2_children n.kind
        have hK := f_R1_In n.kind 1 8
        clear h
        by_cases k1 : n.kind < 1 ∨ n.kind > 8
        · have hbad : cnBad c.nodes i = some ⟨4, 100 + i⟩ := by simp only [cnBad, hn]; rw [if_pos k1]
          have e := sh_hit hb hlt hp hbad
          rw [cf_shape t1 t2 (by rw [e]; exact ne_okF (by decide)), e]
          rw [show (decide ((1 : Int) ≤ n.kind) && decide (n.kind ≤ 8)) = false from by rw [Bool.and_eq_false_iff]; rcases k1 with h | h <;> simp <;> omega] at hK
          clear hp hbad ho hno hdo hdt e t1 t2 p1 p2 hb hA
          repeat' (first | refine i_s rfl ?_ | refine sw ?_ | refine c_t rfl ?_ | refine ja rfl rfl ?_ | refine jd rfl rfl ?_ | refine i_stb rfl ?_ | refine i_alloc rfl ?_ | refine sf rfl rfl hK ?_ | refine sf rfl rfl (f_R1_At _ _) ?_ | fail)
          all_goals first
            | exact e_ret ⟨rfl, _, rfl, rfl⟩
            | (exfalso; clear hK; simp at *; omega)
        rw [show (decide ((1 : Int) ≤ n.kind) && decide (n.kind ≤ 8)) = true from by rw [Bool.and_eq_true]; simp; omega] at hK
        by_cases k2 : 0 ≤ arityI n.kind ∧ (n.ch.length : Int) ≠ arityI n.kind
        · have hbad : cnBad c.nodes i = some ⟨9, 100 + i⟩ := by simp only [cnBad, hn]; rw [if_neg k1, if_pos k2]
          have e := sh_hit hb hlt hp hbad
          rw [cf_shape t1 t2 (by rw [e]; exact ne_okF (by decide)), e]
          clear hp hbad ho hno hdo hdt e t1 t2 p1 p2 hb
          generalize arityI n.kind = ar at *
          repeat' (first | refine i_len rfl ?_ | refine i_s rfl ?_ | refine sw ?_ | refine i_gt rfl ?_ | refine i_gf rfl ?_ | refine c_f rfl ?_ | refine ja rfl rfl ?_ | refine jb rfl rfl ?_ | refine jd rfl rfl ?_ | refine i_stb rfl ?_ | refine i_alloc rfl ?_ | (refine sp ?_ ?_ <;> try intro h) | refine sf rfl rfl hK ?_ | refine sf rfl rfl hA ?_ | refine sf rfl rfl (f_R1_At _ _) ?_ | fail)
          all_goals first
            | exact e_ret ⟨rfl, _, rfl, rfl⟩
            | (exfalso; clear hA hK; simp at *; done)
            | (exfalso; clear hA hK; simp at *; omega)
        have hbadq : cnBad c.nodes i = if (chn (treeC c.nodes) i n.ch.reverse).isNone = true then some ⟨5, 100 + i⟩ else none := by simp only [cnBad, hn]; rw [if_neg k1, if_neg k2]
        generalize arityI n.kind = ar at *
        repeat' (first | refine i_len rfl ?_ | refine i_s rfl ?_ | refine sw ?_ | refine i_gt rfl ?_ | refine i_gf rfl ?_ | refine c_f rfl ?_ | refine ja rfl rfl ?_ | refine jb rfl rfl ?_ | refine jd rfl rfl ?_ | refine i_stb rfl ?_ | refine i_alloc rfl ?_ | (refine sp ?_ ?_ <;> try intro h) | refine sf rfl rfl hK ?_ | refine sf rfl rfl hA ?_ | refine sf rfl rfl (f_R1_At _ _) ?_ | fail)
        all_goals first
          | (exfalso; clear hA hK hp hbadq ho hno hdo hdt; simp at *; omega)
          | skip
        all_goals clear hA hK k1 k2
        all_goals
          have hcl2 : n.ch.reverse.length = n.ch.length := List.length_reverse
          have hok := chTo_of hp
          refine c_for n.ch.length (fun k => [(2, .bptr 640134 0), (3, .bptr 640194 0), (4, .bptr 640258 0), (5, .bptr 640322 0), (7, .int .i64 i), (8, .bptr 640519 0), (9, .int .i64 ((i : Int) - sumN (sz (treeC c.nodes)) (n.ch.reverse.take k))), (10, .int .i64 ((n.ch.length : Int) - 1 - k))])
            (fun k => (640519, .box (cnV n)) :: cfS d c)
            (fun k => chn (treeC c.nodes) i (n.ch.reverse.take k) = some ((i : Int) - sumN (sz (treeC c.nodes)) (n.ch.reverse.take k))) (by simp [chn, sumN])
            ⟨⟨rfl, rfl, rfl, rfl, rfl, rfl, (by show V.int _ _ = V.int _ _; simp [sumN]), (by show V.int _ _ = V.int _ _; simp), trivial⟩, ⟨rfl, rfl, rfl, rfl, rfl, trivial⟩, rfl⟩ fun k hk hc => ?_
          have hst := sumN_take (sz (treeC c.nodes)) n.ch.reverse k
          have hrl : (n.ch.reverse.take k).length = k := by rw [List.length_take]; omega
          have hSn := chn_nn hok _ _ _ (by omega) (Int.le_refl _) hc
          repeat (first | refine i_s rfl ?_ | refine sw ?_)
          refine c_cond rfl (fun h => ?_) (fun h => ?_)
          · have hkl : k < n.ch.length := by have := of_decide_eq_true h; omega
            obtain ⟨x, hcr⟩ := get_some (l := n.ch.reverse) (k := k) (by omega)
            have hcx : n.ch[((n.ch.length : Int) - 1 - k).toNat]? = some x := by
              rw [List.getElem?_reverse hkl] at hcr
              rw [show ((n.ch.length : Int) - 1 - k).toNat = n.ch.length - 1 - k from by omega]; exact hcr
            have hk0 : (0 : Int) ≤ (n.ch.length : Int) - 1 - k := by omega
            have hsn := chn_snoc (l := treeC c.nodes) (n.ch.reverse.take k) i x
            rw [← take_succ_get hcr, hc] at hsn
            simp only at hsn
            have hS1 : sumN (sz (treeC c.nodes)) (n.ch.reverse.take (k + 1)) = sumN (sz (treeC c.nodes)) (n.ch.reverse.take k) + sz (treeC c.nodes) x.toNat := by rw [take_succ_get hcr, sumN_snoc]
            clear h
            by_cases hbd : x < 0 ∨ x ≠ (i : Int) - sumN (sz (treeC c.nodes)) (n.ch.reverse.take k) - 1
            · rw [if_pos hbd] at hsn
              have hnone : chn (treeC c.nodes) i n.ch.reverse = none := by
                have := chn_none (l := treeC c.nodes) (n.ch.reverse.take (k + 1)) (n.ch.reverse.drop (k + 1)) i hsn
                rwa [List.take_append_drop] at this
              have hbad : cnBad c.nodes i = some ⟨5, 100 + i⟩ := by rw [hbadq, hnone]; rfl
              have e := sh_hit hb hlt hp hbad
              rw [cf_shape t1 t2 (by rw [e]; exact ne_okF (by decide)), e]
              have hcI := hno.chr x (mem_get hcx)
              clear hp hok hbad ho hsn hc hnone hno e t1 t2 hdo hdt hbadq p1 p2
              generalize sumN (sz (treeC c.nodes)) (n.ch.reverse.take k) = S at *
              by_cases hcn : x < 0
              · clear hbd
                repeat' (first | refine i_s rfl ?_ | refine sw ?_ | refine i_gt rfl ?_ | refine i_gf rfl ?_ | refine c_t rfl ?_ | refine ja rfl rfl ?_ | refine jd rfl rfl ?_ | refine i_stb rfl ?_ | refine i_g rfl (fun h => ?_) (fun h => ?_) | refine sf rfl rfl (f_R1_At _ _) ?_ | fail)
                all_goals first
                  | exact e_ret ⟨rfl, _, rfl, rfl⟩
                  | (exfalso; have := of_decide_eq_false h; omega)
              · repeat' (first | refine i_s rfl ?_ | refine sw ?_ | refine i_gt rfl ?_ | refine i_gf rfl ?_ | refine c_t rfl ?_ | refine ja rfl rfl ?_ | refine jd rfl rfl ?_ | refine i_stb rfl ?_ | (refine sp ?_ ?_ <;> try intro h) | refine sf rfl rfl (f_R1_At _ _) ?_ | refine i_addw rfl rfl rfl (wrap_inc hcI) ?_)
                all_goals first
                  | exact e_ret ⟨rfl, _, rfl, rfl⟩
                  | (exfalso; have := of_decide_eq_true h; omega)
                  | (exfalso; have h9 : (if x = 9223372036854775807 then (-9223372036854775808 : Int) else x + 1) = (i : Int) - S := (by simpa using h); split at h9 <;> omega)
            · rw [if_neg hbd] at hsn
              simp only [not_or, Decidable.not_not] at hbd
              obtain ⟨hc0, hc1⟩ := hbd
              have hc0' : 0 ≤ x := by omega
              have hci : x < i := by omega
              have hR := f_R2_Size c.nodes hl2.2 ho.nodes x.toNat (by omega) (hok.mono (by omega))
              have hsl := sz_leC x.toNat i hok (by omega)
              rw [show ((x.toNat : Nat) : Int) = x from by omega] at hR
              clear hp hok ho hc hno hdo hdt hbadq t1 t2 p1 p2
              generalize hSg : sumN (sz (treeC c.nodes)) (n.ch.reverse.take k) = S at *
              repeat' (first | refine i_s rfl ?_ | refine sw ?_ | refine i_gt rfl ?_ | refine i_gf rfl ?_ | refine c_t rfl ?_ | refine ja rfl rfl ?_ | refine jb rfl rfl ?_ | refine jd rfl rfl ?_ | refine i_stb rfl ?_ | (refine sp ?_ ?_ <;> try intro h) | refine sf rfl rfl hR ?_ | refine sf rfl rfl (f_R1_At _ _) ?_ | fail)
              all_goals first
                | (exfalso; simp at *; omega)
                | skip
              refine e_for hkl (by rw [hsn, hS1]; congr 1; omega) ⟨⟨rfl, rfl, rfl, rfl, rfl, rfl, ?_, ?_, trivial⟩, ⟨rfl, rfl, rfl, rfl, rfl, trivial⟩, rfl⟩
              · show V.int _ _ = V.int _ _
                congr 1
                rw [hS1]
                omega
              · show V.int _ _ = V.int _ _
                congr 1
                omega
          · have hkl : k = n.ch.length := by have := of_decide_eq_false h; omega
            subst hkl
            rw [show n.ch.reverse.take n.ch.length = n.ch.reverse from by rw [← hcl2, List.take_length]] at *
            rw [hc] at hbadq
            have hb0 : cnBad c.nodes i = none := hbadq
            clear h
            repeat (first | refine i_s rfl ?_ | refine sw ?_ | refine ja rfl rfl ?_)
            exact e_for hlt (all_succ hp hb0) ft
      · have hge : i = c.nodes.length := by have : ¬ i < c.nodes.length := by simpa using h
                                            omega
        subst hge
        have e := sh_all hb hp
        have hR := f_R2_Size c.nodes hl2.2 ho.nodes (c.nodes.length - 1) (by omega) (by rw [show c.nodes.length - 1 + 1 = c.nodes.length from by omega]; exact chTo_of hp)
        rw [show ((c.nodes.length - 1 : Nat) : Int) = (c.nodes.length : Int) - 1 from by omega] at hR
        clear h
        by_cases z : sz (treeC c.nodes) (c.nodes.length - 1) = c.nodes.length
        · rw [if_neg (by simp [z])] at e
          have hp2 := hp
          have hk8 : ∀ n ∈ c.nodes, n.kind ≤ 8 := fun n hm => by
            obtain ⟨j, hj⟩ := List.getElem?_of_mem hm
            exact (cnBad_ok hj (hp j (get_lt hj))).1.2
          rw [cf_rest t1 t2 e]
          rw [z] at hR
          repeat' (first | refine i_len rfl ?_ | refine i_s rfl ?_ | refine sw ?_ | refine jb rfl rfl ?_ | refine c_cond rfl (fun h => ?_) (fun h => ?_) | refine sf rfl rfl hR ?_ | fail)
          all_goals first
            | (exfalso; simp at *; done)
            | skip
          clear hR
          refine c_for c.nodes.length (fun i => [(2, .bptr 640134 0), (3, .bptr 640194 0), (4, .bptr 640258 0), (5, .bptr 640322 0), (11, .int .i64 i)]) (fun _ => cfS d c) (fun i => ∀ j, j < i → nodeCode (quCode d) c j = none) all_zero ft fun i hi hall => ?_
          by_cases hlt : i < c.nodes.length
          · obtain ⟨n, hn⟩ := get_some hlt
            have hC := f_R2_quantifierCode d htl c ho p1 hl2.2 hk8 i n hn
            by_cases z : quCode d n (scopeC c i) = 0
            · have hnn := nodeCode_none hn z
              rw [z] at hC
              clear hdo ho hp hp2 hk8 t1 t2 p1 p2 hdt e
              repeat' (first | refine i_len rfl ?_ | refine i_s rfl ?_ | refine sw ?_ | refine c_f rfl ?_ | refine ja rfl rfl ?_ | refine c_cond rfl (fun h => ?_) (fun h => ?_) | refine sf rfl rfl hC ?_ | fail)
              all_goals first
                | (exact e_for hlt (all_succ hall hnn) ft)
                | (exfalso; clear hC; simp at *; omega)
            · rw [scan0_hit hall hlt (nodeCode_hit hn z)]
              clear hall hdo ho hp hp2 hk8 t1 t2 p1 p2 hdt e
              generalize quCode d n (scopeC c i) = e at *
              repeat' (first | refine i_len rfl ?_ | refine i_s rfl ?_ | refine sw ?_ | refine ja rfl rfl ?_ | refine i_stb rfl ?_ | refine c_cond rfl (fun h => ?_) (fun h => ?_) | refine sf rfl rfl hC ?_ | refine sf rfl rfl (f_R1_At _ _) ?_ | fail)
              all_goals first
                | exact e_ret ⟨rfl, _, rfl, rfl⟩
                | (exfalso; clear hC; simp at *; omega)
          · have hge : i = c.nodes.length := by omega
            subst hge
            clear hlt
            rw [scan0_none hall]
            simp only
            repeat' (first | refine i_len rfl ?_ | refine i_s rfl ?_ | refine sw ?_ | refine c_cond rfl (fun h => ?_) (fun h => ?_))
            all_goals first
              | (exfalso; simp at *; done)
              | skip
            refine c_for c.nodes.length (fun i => [(2, .bptr 640134 0), (3, .bptr 640194 0), (4, .bptr 640258 0), (5, .bptr 640322 0), (12, .int .i64 i)]) (fun _ => cfS d c) (fun i => ∀ j, j < i → nodeCode (leafCode d) c j = none) all_zero ft fun i hi hall2 => ?_
            by_cases hlt : i < c.nodes.length
            · obtain ⟨n, hn⟩ := get_some hlt
              have hC := f_R2_leafCode d hdt hdo.preds.1 c ho p1 hl2.2 hk8 i n hn (scopeC_ps t2 hl2.2 (fun i n hn => nodeCode_zero hn (hall i (get_lt hn))) i)
              by_cases z : leafCode d n (scopeC c i) = 0
              · have hnn := nodeCode_none hn z
                rw [z] at hC
                clear hdo ho hp hp2 hk8 t1 t2 p1 p2 hdt e hall
                repeat' (first | refine i_len rfl ?_ | refine i_s rfl ?_ | refine sw ?_ | refine c_f rfl ?_ | refine ja rfl rfl ?_ | refine i_stb rfl ?_ | refine c_cond rfl (fun h => ?_) (fun h => ?_) | refine sf rfl rfl hC ?_ | fail)
                all_goals first
                  | (exact e_for hlt (all_succ hall2 hnn) ft)
                  | (exfalso; clear hC; simp at *; omega)
              · rw [scan0_hit hall2 hlt (nodeCode_hit hn z)]
                clear hall hall2 hdo ho hp hp2 hk8 t1 t2 p1 p2 hdt e
                generalize leafCode d n (scopeC c i) = e at *
                repeat' (first | refine i_len rfl ?_ | refine i_s rfl ?_ | refine sw ?_ | refine ja rfl rfl ?_ | refine i_stb rfl ?_ | refine c_cond rfl (fun h => ?_) (fun h => ?_) | refine sf rfl rfl hC ?_ | refine sf rfl rfl (f_R1_At _ _) ?_ | fail)
                all_goals first
                  | exact e_ret ⟨rfl, _, rfl, rfl⟩
                  | (exfalso; clear hC; simp at *; omega)
            · have hge : i = c.nodes.length := by omega
              subst hge
              clear hlt
              rw [scan0_none hall2]
              clear hall hall2 hdo ho hp hp2 hk8 t1 t2 p1 p2 hdt e
              repeat' (first | refine i_len rfl ?_ | refine i_s rfl ?_ | refine sw ?_ | refine i_stb rfl ?_ | refine c_cond rfl (fun h => ?_) (fun h => ?_))
              all_goals first
                | exact e_ret ⟨rfl, _, rfl, rfl⟩
                | (exfalso; simp at *; done)
                | (exfalso; simp at *; omega)
        · rw [if_pos z] at e
          rw [cf_shape t1 t2 (by rw [e]; exact ne_okF (by decide)), e]
          clear hp ho hdo e t1 t2 p1 p2 hdt
          generalize sz (treeC c.nodes) (c.nodes.length - 1) = S at *
          repeat' (first | refine i_len rfl ?_ | refine i_s rfl ?_ | refine sw ?_ | refine jb rfl rfl ?_ | refine i_stb rfl ?_ | refine c_cond rfl (fun h => ?_) (fun h => ?_) | refine sf rfl rfl hR ?_ | refine sf rfl rfl (f_R1_At _ _) ?_ | fail)
          all_goals first
            | exact e_ret ⟨rfl, _, rfl, rfl⟩
            | (exfalso; clear hR; simp at *; omega)
    · rw [cf_par t1 t2]
      generalize paramsCode d.types.length c.types = e at *
      refine Fn.step mixed k_R2_ConditionFault ?_
      repeat' (first | refine i_len rfl ?_ | refine i_s rfl ?_ | refine sw ?_ | refine c_f rfl ?_ | refine i_stb rfl ?_ | refine i_alloc rfl ?_ | refine i_box rfl rfl ?_ | refine c_cond rfl (fun h => ?_) (fun h => ?_) | refine sf rfl rfl hD ?_ | refine sf rfl rfl hP ?_ | refine sf rfl rfl (f_R1_At _ _) ?_ | fail)
      all_goals first
        | exact e_ret ⟨rfl, _, rfl, rfl⟩
        | (exfalso; clear hD hP; simp [okF] at *; done)
        | (exfalso; clear hD hP; simp [okF] at *; omega)
  · rw [cf_dom t1]
    have t1c : (domFault d).code ≠ 0 := fun h => t1 ((domFault_code d).1 h)
    refine Fn.step mixed k_R2_ConditionFault ?_
    repeat' (first | refine i_s rfl ?_ | refine sw ?_ | refine i_stb rfl ?_ | refine i_alloc rfl ?_ | refine i_box rfl rfl ?_ | refine c_cond rfl (fun h => ?_) (fun h => ?_) | refine sf rfl rfl hD ?_ | fail)
    all_goals first
      | exact e_ret ⟨rfl, _, rfl, rfl⟩
      | (exfalso; clear hD; simp at *; contradiction)
theorem argsFault_code (d : Dom) (c : Cnd) (args : List Int) : (argsFault d c args).code = 0 ↔ argsFault d c args = okF := by
  unfold argsFault
  split
  · simp [okF]
  · split
    · rename_i f hf
      exact ⟨fun h => absurd h (argBadC_code hf), fun h => absurd (congrArg Flt.code h) (argBadC_code hf)⟩
    · simp [okF]
def c_R2_ArgsFault : Cmd :=
 (qS [qx 3 832198 6 0, qx 4 832258 2 1, qq 6 (.alloc 832386 (.agg [.int .i64 0, .int .i64 0]))]
 (qT (qS [qm 8 2, qn 9 8, qf 10 0 4, ql 11 1 10, qn 12 11, qu 13 .neq [.i] 9 12]
 (.cond (.t 13) (.seq (.ops [qq 14 (.call .f (.c (.fn 17 [])) [.c (.int .i64 9), .c (.int .i64 (-12))]), qs 2 6 14]) .ret) .skip))
 (qT (qS [qc 7 0]
 (.block 0 (.loop (qT (qS [qm 15 7, qm 16 2, qn 17 16, qu 18 .lss [] 15 17]
 (.cond (.t 18) .skip (.exit 0)))
 (qT (.block 1 (qT (qS [qm 21 2, qm 22 7, qi 23 1 21 22, ql 24 1 23, qf 25 1 3, ql 26 1 25, qn 27 26, qv 28 .sub [] 27 1, qq 29 (.call .f (.c (.fn 28 [])) [.t 24, .c (.int .i64 0), .t 28]), qq 30 (.not (.t 29))]
 (.cond (.t 30) (.seq (.ops [qq 31 (.call .f (.c (.fn 17 [])) [.c (.int .i64 3), .c (.int .i64 (-12))]), qs 2 6 31]) .ret) .skip))
 (qS [qf 32 0 3, ql 33 1 32, qf 34 1 3, ql 35 1 34, qm 36 2, qm 37 7, qi 38 1 36 37, ql 39 1 38, qi 40 2 35 39, qf 41 1 40, ql 42 1 41, qf 43 0 4, ql 44 1 43, qm 45 7, qi 46 1 44 45, ql 47 1 46, qk 48 40 [33, 42, 47], qq 49 (.not (.t 48))]
 (.cond (.t 49) (.seq (.ops [qq 50 (.call .f (.c (.fn 17 [])) [.c (.int .i64 8), .c (.int .i64 (-12))]), qs 2 6 50]) .ret) .skip))))
 (.ops [qm 19 7, qv 20 .add [] 19 1, qm 7 20]))))))
 (.seq (.ops [qq 51 (.build [.int .i64 0, .int .i64 0] []), qs 2 6 51]) .ret))))
def r_R2_ArgsFault : List RVar := [.cell true 2 6]
def n_R2_ArgsFault : Nat := 52
theorem k_R2_ArgsFault : chkFn Go.Proofs.Tryz.prog 13 n_R2_ArgsFault r_R2_ArgsFault c_R2_ArgsFault = true := by kernel_rfl
theorem f_R2_ArgsFault (d : Dom) (hd : DoTy d) (c : Cnd) (hc : c.types.length ≤ 3) (args : List Int) (hl : args.length ≤ 140737488355328) : Fc Go.Proofs.Tryz.prog 13 [domV d, cndV c, .sl .p (args.map i64V)] (ftV (argsFault d c args)) := by
  have hol := hd.ol
  unfold argsFault
  by_cases e : args.length = c.types.length
  · rw [if_neg (by simp [e])]
    refine Fn.step mixed k_R2_ArgsFault ?_
    repeat' (first | refine i_len rfl ?_ | refine i_s rfl ?_ | refine sw ?_ | refine i_stb rfl ?_ | refine i_alloc rfl ?_ | refine i_box rfl rfl ?_ | refine c_cond rfl (fun h => ?_) (fun h => ?_) | refine sf rfl rfl (f_R1_At _ _) ?_ | fail)
    all_goals first
      | (exfalso; simp at *; done)
      | (exfalso; simp at *; omega)
      | skip
    refine c_for args.length (fun i => [(2, .sl .p (args.map i64V)), (3, .bptr 832198 0), (4, .bptr 832258 0), (6, .bptr 832386 0), (7, .int .i64 i)])
      (fun _ => [(832198, .box (domV d)), (832258, .box (cndV c)), (832386, .box (ftV okF))]) (fun i => ∀ j, j < i → argBadC d c args j = none) all_zero ft fun i hi hall => ?_
    by_cases hlt : i < args.length
    · obtain ⟨o, ho⟩ := get_some hlt
      obtain ⟨t, ht⟩ := get_some (l := c.types) (k := i) (by omega)
      have hN := f_R1_In o 0 ((d.objects.length : Int) - 1)
      have hbad : argBadC d c args i = if o < 0 ∨ (d.objects.length : Int) ≤ o then some ⟨3, -12⟩ else match d.objects[o.toNat]? with
        | some x => if subB d.types x.type t = true then none else some ⟨8, -12⟩
        | none => none := by simp only [argBadC, ho, ht] <;> rfl
      by_cases b1 : o < 0 ∨ (d.objects.length : Int) ≤ o
      · rw [if_pos b1] at hbad
        rw [scan0_hit hall hlt hbad]
        rw [show (decide ((0 : Int) ≤ o) && decide (o ≤ (d.objects.length : Int) - 1)) = false from by rw [Bool.and_eq_false_iff]; simp; omega] at hN
        clear hall hbad hd
        repeat' (first | refine i_len rfl ?_ | refine i_s rfl ?_ | refine sw ?_ | refine c_t rfl ?_ | refine jb rfl rfl ?_ | refine jd rfl rfl ?_ | refine i_stb rfl ?_ | refine c_cond rfl (fun h => ?_) (fun h => ?_) | refine sf rfl rfl hN ?_ | refine sf rfl rfl (f_R1_At _ _) ?_ | fail)
        all_goals first
          | exact e_ret ⟨rfl, _, rfl, rfl⟩
          | (exfalso; clear hN; simp at *; done)
          | (exfalso; clear hN; simp at *; omega)
      · rw [if_neg b1] at hbad
        rw [show (decide ((0 : Int) ≤ o) && decide (o ≤ (d.objects.length : Int) - 1)) = true from by rw [Bool.and_eq_true]; simp; omega] at hN
        obtain ⟨x, hx⟩ := get_some (l := d.objects) (k := o.toNat) (by omega)
        rw [hx] at hbad
        simp only at hbad
        obtain ⟨x0, x1⟩ := hd.o x (mem_get hx)
        have hI := f_R1_Sub d.types hd.ty x.type t x0 x1
        have ho0 : 0 ≤ o := by omega
        cases hsb : subB d.types x.type t with
        | true =>
          rw [hsb, if_pos rfl] at hbad
          rw [hsb] at hI
          clear hd
          repeat' (first | refine i_len rfl ?_ | refine i_s rfl ?_ | refine sw ?_ | refine c_f rfl ?_ | refine ja rfl rfl ?_ | refine jb rfl rfl ?_ | refine jd rfl rfl ?_ | refine i_stb rfl ?_ | refine c_cond rfl (fun h => ?_) (fun h => ?_) | refine sf rfl rfl hI ?_ | refine sf rfl rfl hN ?_ | fail)
          all_goals first
            | (exact e_for hlt (all_succ hall hbad) ft)
            | (exfalso; clear hI hN hall hbad; simp at *; done)
            | (exfalso; clear hI hN hall hbad; simp at *; omega)
        | false =>
          rw [hsb, if_neg (by simp)] at hbad
          rw [hsb] at hI
          rw [scan0_hit hall hlt hbad]
          clear hd hall hbad
          repeat' (first | refine i_len rfl ?_ | refine i_s rfl ?_ | refine sw ?_ | refine c_t rfl ?_ | refine c_f rfl ?_ | refine jb rfl rfl ?_ | refine jd rfl rfl ?_ | refine i_stb rfl ?_ | refine c_cond rfl (fun h => ?_) (fun h => ?_) | refine sf rfl rfl hI ?_ | refine sf rfl rfl hN ?_ | refine sf rfl rfl (f_R1_At _ _) ?_ | fail)
          all_goals first
            | exact e_ret ⟨rfl, _, rfl, rfl⟩
            | (exfalso; clear hI hN; simp at *; done)
            | (exfalso; clear hI hN; simp at *; omega)
    · have hge : i = args.length := by omega
      subst hge
      rw [scan0_none hall]
      clear hall
      repeat' (first | refine i_len rfl ?_ | refine i_s rfl ?_ | refine sw ?_ | refine i_stb rfl ?_ | refine c_cond rfl (fun h => ?_) (fun h => ?_))
      all_goals first
        | exact e_ret ⟨rfl, _, rfl, rfl⟩
        | (exfalso; simp at *; done)
        | (exfalso; simp at *; omega)
  · rw [if_pos e]
    refine Fn.step mixed k_R2_ArgsFault ?_
    repeat' (first | refine i_len rfl ?_ | refine i_s rfl ?_ | refine sw ?_ | refine i_stb rfl ?_ | refine i_alloc rfl ?_ | refine i_box rfl rfl ?_ | refine c_cond rfl (fun h => ?_) (fun h => ?_) | refine sf rfl rfl (f_R1_At _ _) ?_ | fail)
    all_goals first
      | exact e_ret ⟨rfl, _, rfl, rfl⟩
      | (exfalso; simp at *; done)
      | (exfalso; simp at *; omega)
def c_R2_object : Cmd :=
 (qS [qc 4 0]
 (qT (qS [qm 5 0, qv 6 .lss [] 5 0]
 (.cond (.t 6) (.seq (.ops [qm 7 1, qm 8 0, qq 9 (.bin .sub false [] (.c (.int .i64 0)) (.t 8)), qv 10 .sub [] 9 1, qi 11 1 7 10, ql 12 1 11, qm 4 12]) .ret) .skip))
 (.seq (.ops [qm 13 0, qm 4 13]) .ret)))
def r_R2_object : List RVar := [.tmp 4]
def n_R2_object : Nat := 14
theorem k_R2_object : chkFn Go.Proofs.Tryz.prog 49 n_R2_object r_R2_object c_R2_object = true := by kernel_rfl
theorem f_R2_object (args : List Int) (hl : args.length ≤ 140737488355328) (x : Int) (hx : -(args.length : Int) ≤ x) : Fc Go.Proofs.Tryz.prog 49 [.int .i64 x, .sl .p (args.map i64V)] (.int .i64 (objA args x)) := by
  by_cases h : x < 0
  · obtain ⟨o, ho⟩ := get_some (l := args) (k := (-1 - x).toNat) (by omega)
    rw [objA_neg h ho]
    have ho : args[(0 - x - 1).toNat]? = some o := by rw [show 0 - x - 1 = -1 - x from by omega]; exact ho
    have h0 : 0 ≤ 0 - x - 1 := by omega
    refine Fn.step mixed k_R2_object ?_
    repeat' (first | refine i_s rfl ?_ | refine sw ?_ | refine jb rfl rfl ?_ | refine jd rfl rfl ?_ | refine c_cond rfl (fun h => ?_) (fun h => ?_))
    all_goals first
      | exact e_ret ⟨rfl, _, rfl, rfl⟩
      | (exfalso; simp at *; omega)
  · rw [objA_pos h]
    refine Fn.step mixed k_R2_object ?_
    repeat' (first | refine i_s rfl ?_ | refine sw ?_ | refine c_cond rfl (fun h => ?_) (fun h => ?_))
    all_goals first
      | exact e_ret ⟨rfl, _, rfl, rfl⟩
      | (exfalso; simp at *; omega)
def c_R2_Bound : Cmd :=
 (qS [qx 2 3072130 2 0, qq 4 (.alloc 3072258 (.agg [.int .i64 0, .sl .nil []]))]
 (.seq (.ops [qf 7 0 2, ql 8 1 7, qq 9 (.build [.int .i64 0, .sl .nil []] [(0 , 1 , .t 8)]), qq 5 (.alloc 3072322 (.agg [.int .i64 0, .sl .nil []])), qs 2 5 9]) (.nvb 5 1 3075265 (.cut (qT (qS [qc 6 0]
 (.block 0 (.loop (qT (qS [qm 10 6, qf 11 1 2, ql 12 1 11, qn 13 12, qu 14 .lss [] 10 13]
 (.cond (.t 14) .skip (.exit 0)))
 (qT (.block 1 (.ops [qf 17 1 5, ql 18 1 17, qf 19 1 2, ql 20 1 19, qm 21 6, qi 22 1 20 21, ql 23 1 22, qm 24 1, qk 25 49 [23, 24], qq 26 (.bsl 1 [.t 25]), qq 27 (.append 1 8 3 (.t 18) (.t 26)), qf 28 1 5, qs 1 28 27]))
 (.ops [qm 15 6, qv 16 .add [] 15 1, qm 6 16]))))))
 (.seq (.ops [qL 29 2 5, qs 2 4 29]) .ret))))))
def r_R2_Bound : List RVar := [.cell true 2 4]
def n_R2_Bound : Nat := 30
theorem k_R2_Bound : chkFn Go.Proofs.Tryz.prog 48 n_R2_Bound r_R2_Bound c_R2_Bound = true := by kernel_rfl
theorem f_R2_Bound (args : List Int) (hl : args.length ≤ 140737488355328) (a : At) (ha : a.args.length ≤ 17592186044416) (hx : ∀ x ∈ a.args, -(args.length : Int) ≤ x) : Fc Go.Proofs.Tryz.prog 48 [atV a, .sl .p (args.map i64V)] (atV (bindA args a)) := by
  refine Fn.step mixed k_R2_Bound ?_
  repeat (first | refine i_s rfl ?_ | refine sw ?_ | refine i_stb rfl ?_ | refine i_alloc rfl ?_ | refine i_box rfl rfl ?_)
  refine c_nvb rfl rfl rfl rfl ?_
  repeat (first | refine i_s rfl ?_ | refine sw ?_)
  refine c_for a.args.length (fun k => [(1, .sl .p (args.map i64V)), (2, .bptr 3072130 0), (4, .bptr 3072258 0), (5, .bptr 3072322 0), (6, .int .i64 k)])
    (fun k => [(3072130, .box (atV a)), (3072258, .box (.agg [.int .i64 0, .sl .nil []])), (3072322, .box (.agg [.int .i64 a.pred, .sl (.own 3075265) (((a.args.take k).map (objA args)).map i64V)])), (3075265, .vec ((a.args.take k).map (objA args)).length)]) (fun _ => True) trivial ft fun k hk _ => ?_
  repeat (first | refine i_len rfl ?_ | refine i_s rfl ?_ | refine sw ?_)
  refine c_cond rfl (fun h => ?_) (fun h => ?_)
  · have hlt : k < a.args.length := by simpa using h
    obtain ⟨x, hget⟩ := get_some hlt
    have hV := f_R2_object args hl x (hx x (mem_get hget))
    have htl : ((a.args.take k).map (objA args)).length = k := by simp; omega
    have e : (a.args.take (k + 1)).map (objA args) = (a.args.take k).map (objA args) ++ [objA args x] := by rw [take_succ_get hget, List.map_append]; rfl
    clear h hx
    repeat' (first | refine i_s rfl ?_ | refine sw ?_ | refine jd rfl rfl ?_ | refine sf rfl rfl hV ?_ | fail)
    all_goals
      refine i_appM rfl rfl rfl rfl rfl (by omega) (by omega) ?_
      repeat (first | refine i_s rfl ?_ | refine sw ?_ | refine ja rfl rfl ?_ | refine i_stb rfl ?_)
      refine e_for hlt trivial ⟨⟨rfl, rfl, rfl, rfl, rfl, trivial⟩, ⟨rfl, rfl, ?_, ?_, trivial⟩, rfl⟩
      · rw [e]; rfl
      · rw [e]; simp; rfl
  · have hge : k = a.args.length := by have : ¬ k < a.args.length := by simpa using h
                                       omega
    subst hge
    clear h
    rw [List.take_length]
    repeat (first | refine i_s rfl ?_ | refine sw ?_ | refine i_stb rfl ?_)
    exact e_ret ⟨rfl, _, rfl, rfl⟩
def c_R2_more : Cmd :=
 (qS [qq 4 (.mov (.c (.sl .nil [])))]
 (.seq (.ops [qm 5 0, qq 6 (.call (.s [3328193]) (.c (.fn 52 [])) [.t 5]), qm 7 1, qq 8 (.bsl 1 [.t 7]), qq 9 (.append 1 8 3 (.t 6) (.t 8)), qm 4 9]) .ret))
def r_R2_more : List RVar := [.tmp 4]
def n_R2_more : Nat := 10
theorem k_R2_more : chkFn Go.Proofs.Tryz.prog 51 n_R2_more r_R2_more c_R2_more = true := by kernel_rfl
theorem f_R2_more (l : List Int) (hl : l.length ≤ 10000000) (n : Int) : Fc Go.Proofs.Tryz.prog 51 [.sl .p (l.map i64V), .int .i64 n] (.sl .p ((l ++ [n]).map i64V)) := by
  refine Fn.step mixed k_R2_more ?_
  repeat' (first | refine i_s rfl ?_ | refine sw ?_ | fail)
  all_goals
    try refine i_c rfl rfl rfl (c_R1_Copy_ct l (by omega) _ _ rfl fun nm h => restr_mem nm h) ?_
    rintro _ _ _ ⟨⟨gen, rfl, rfl⟩, rfl⟩
    repeat refine i_s rfl ?_
    refine i_appmM [n] rfl rfl rfl rfl rfl (fun c hc => ⟨rfl, rfl⟩) (by simp only [List.length_singleton]; omega) (by simp only [List.length_singleton]; omega) ?_
    repeat (first | refine i_s rfl ?_ | refine sw ?_)
    exact e_ret ⟨rfl, _, rfl, ((er_msl (i := 0) (len := (l ++ [n]).length) (n := 5) rfl).trans (msl_all rfl)).symm⟩
end Hm
end
section
namespace Hm
open Go
theorem caF_ok {d : Dom} {l : List Cn} : ∀ (f i a : Nat) (ps args : List Int) (neg : Bool), ST d l true a (i + 1) ps [] → i < f → caF d l f i args neg = ca d l i args neg := by
  intro f i
  induction i using Nat.strongRecOn generalizing f with
  | ind i ih =>
    intro a ps args neg h hf
    obtain ⟨j, n, e, haj, hn, ok, hk⟩ := h.root
    obtain rfl : i = j := by omega
    obtain ⟨f, rfl⟩ : ∃ g, f = g + 1 := ⟨f - 1, by omega⟩
    have hkid := hk.kids rfl
    have k0 := ok.k0
    have k8 := ok.k8
    have key : ∀ k ∈ n.ch, ∀ args neg, caF d l f k.toNat args neg = caF d l i k.toNat args neg := fun k hm args neg => by
      obtain ⟨a', _, h0, h1, _, h2⟩ := hkid k hm
      rw [ih k.toNat (by omega) f _ _ _ _ h2 (by omega), ih k.toNat (by omega) i _ _ _ _ h2 (by omega)]
    have key0 : n.kind = 4 ∨ n.kind = 7 ∨ n.kind = 8 → ∀ args neg, caF d l f (ch0 n) args neg = caF d l i (ch0 n) args neg := fun h => by
      obtain ⟨k, hc⟩ := arity_one ok h
      have : ch0 n = k.toNat := by unfold ch0; rw [hc]; rfl
      rw [this]
      exact key k (by rw [hc]; simp)
    unfold ca
    simp only [caF, hn]
    split
    · rfl
    · split
      · rfl
      · split
        · rfl
        · split
          · rename_i h4; rw [key0 (.inl h4)]
          · split
            · rw [List.map_congr_left fun k hm => key k hm args neg]
            · rw [List.map_congr_left fun o _ => key0 (.inr (by omega)) (args ++ [o]) neg]
theorem ca_eq {d : Dom} {l : List Cn} {i a : Nat} {ps : List Int} {n : Cn} (h : ST d l true a (i + 1) ps []) (hn : l[i]? = some n) (args : List Int) (neg : Bool) :
    ca d l i args neg = if n.kind = 1 then (someL (!neg), false) else if n.kind = 2 then ([[⟨neg, bindA args n.at_⟩]], false) else if n.kind = 3 then (someL (decide (objA args n.left = objA args n.right) != neg), false)
      else if n.kind = 4 then ca d l (ch0 n) args (!neg)
      else if n.kind ≤ 6 then foldR (conjK n.kind neg) (n.ch.map fun k => ca d l k.toNat args neg)
      else foldR (conjK n.kind neg) ((membersOf d.types d.objects n.type).map fun o => ca d l (ch0 n) (args ++ [o]) neg) := by
  obtain ⟨j, n', e, haj, hn', ok, hk⟩ := h.root
  obtain rfl : i = j := by omega
  rw [hn] at hn'
  cases hn'
  have hkid := hk.kids rfl
  have k0 := ok.k0
  have k8 := ok.k8
  have key : ∀ k ∈ n.ch, ∀ args neg, caF d l i k.toNat args neg = ca d l k.toNat args neg := fun k hm args neg => by
    obtain ⟨a', _, h0, h1, _, h2⟩ := hkid k hm
    exact caF_ok i _ _ _ _ _ h2 (by omega)
  have key0 : n.kind = 4 ∨ n.kind = 7 ∨ n.kind = 8 → ∀ args neg, caF d l i (ch0 n) args neg = ca d l (ch0 n) args neg := fun h => by
    obtain ⟨k, hc⟩ := arity_one ok h
    have : ch0 n = k.toNat := by unfold ch0; rw [hc]; rfl
    rw [this]
    exact key k (by rw [hc]; simp)
  conv => lhs; unfold ca
  simp only [caF, hn]
  split
  · rfl
  · split
    · rfl
    · split
      · rfl
      · split
        · rename_i h4; rw [key0 (.inl h4)]
        · split
          · rw [List.map_congr_left fun k hm => key k hm args neg]
          · rw [List.map_congr_left fun o _ => key0 (.inr (by omega)) (args ++ [o]) neg]
theorem parts_rel {α : Type} (all : Bool) (p q : α → Cs × Bool) : ∀ (xs : List α) (M : Bool) (s r : Cs × Bool), (∀ x ∈ xs, CRel (p x) (q x)) → CRel (s.1, M || s.2) r →
    CRel (((xs.map fun x => (p x).1).foldl (stepP all) s).1, M || xs.any (fun x => (p x).2) || ((xs.map fun x => (p x).1).foldl (stepP all) s).2) ((xs.map q).foldl (fun s q => bothR s q all) r)
  | [], M, s, r, _, h => by simpa using h
  | x :: xs, M, s, r, hx, h => by
    have h1 := hx x (by simp)
    simp only [List.map_cons, List.foldl_cons, List.any_cons]
    have := parts_rel all p q xs (M || (p x).2) (stepP all s (p x).1) (bothR r (q x) all) (fun y hy => hx y (by simp [hy])) (by
      obtain ⟨r1, r2⟩ := h
      obtain ⟨q1, q2⟩ := h1
      simp only at r1 r2
      unfold bothR
      by_cases hm : (M || s.2) = true
      · rw [if_pos (by rw [← r1, hm]; rfl)]
        refine ⟨?_, fun h => ?_⟩
        · simp only
          unfold stepP
          split <;> (simp only; revert hm; cases M <;> cases s.2 <;> simp)
        · exfalso
          revert h
          unfold stepP
          split <;> (simp only; revert hm; cases M <;> cases s.2 <;> simp)
      · have hm : (M || s.2) = false := by simpa using hm
        have hM : M = false ∧ s.2 = false := by simpa using hm
        obtain ⟨e1, e2⟩ := r2 hm
        by_cases hp : (p x).2 = true
        · rw [if_pos (by rw [← q1, hp]; simp)]
          exact ⟨by simp [hp], fun h => by simp [hp] at h⟩
        · have hp : (p x).2 = false := by simpa using hp
          obtain ⟨e3, e4⟩ := q2 hp
          rw [if_neg (by rw [← r1, ← q1, hm, hp]; simp), hM.1, hp]
          cases all with
          | true =>
            rw [if_neg (by simp), ← e1, ← e3]
            have := CRel.and s.1 (p x).1
            unfold stepP
            rw [if_pos rfl]
            simpa [hM.2, CRel] using this
          | false =>
            rw [if_pos rfl, ← e1, ← e3]
            have := CRel.or s.1 (p x).1 e2
            unfold stepP
            rw [if_neg (by simp)]
            simpa [hM.2, CRel] using this)
    rw [Bool.or_assoc, Bool.or_assoc] at this
    rw [Bool.or_assoc, Bool.or_assoc]
    exact this
theorem parts_rel0 {α : Type} (all : Bool) (p q : α → Cs × Bool) (xs : List α) (h : ∀ x ∈ xs, CRel (p x) (q x)) : CRel (partsP all (xs.map p)) (foldR all (xs.map q)) := by
  have := parts_rel all p q xs false (someL all, false) (someL all, false) h ⟨rfl, fun _ => ⟨rfl, by unfold someL; split <;> simp⟩⟩
  unfold partsP foldP foldR
  simpa [List.map_map, Function.comp_def, List.any_map] using this
theorem nd_ca {d : Dom} {l : List Cn} : ∀ (i a : Nat) (ps args : List Int) (neg : Bool), ST d l true a (i + 1) ps [] → CRel (nd d l i args neg) (ca d l i args neg) := by
  intro i
  induction i using Nat.strongRecOn with
  | ind i ih =>
    intro a ps args neg h
    obtain ⟨j, n, e, haj, hn, ok, hk⟩ := h.root
    obtain rfl : i = j := by omega
    have hkid := hk.kids rfl
    have k0 := ok.k0
    have k8 := ok.k8
    have hs : ∀ b, CRel (someL b, false) (someL b, false) := fun b => ⟨rfl, fun _ => ⟨rfl, by unfold someL; split <;> simp⟩⟩
    have key : ∀ k ∈ n.ch, ∀ args neg, CRel (nd d l k.toNat args neg) (ca d l k.toNat args neg) := fun k hm args neg => by
      obtain ⟨a', _, h0, h1, _, h2⟩ := hkid k hm
      exact ih k.toNat (by omega) _ _ _ _ h2
    have key0 : n.kind = 4 ∨ n.kind = 7 ∨ n.kind = 8 → ∀ args neg, CRel (nd d l (ch0 n) args neg) (ca d l (ch0 n) args neg) := fun h => by
      obtain ⟨k, hc⟩ := arity_one ok h
      have : ch0 n = k.toNat := by unfold ch0; rw [hc]; rfl
      rw [this]
      exact key k (by rw [hc]; simp)
    rw [nd_eq h hn, ca_eq h hn]
    have hcase : n.kind = 1 ∨ n.kind = 2 ∨ n.kind = 3 ∨ n.kind = 4 ∨ (n.kind = 5 ∨ n.kind = 6) ∨ (n.kind = 7 ∨ n.kind = 8) := by omega
    rcases hcase with e | e | e | e | e | e
    · rw [if_neg (by omega), if_neg (by omega), if_neg (by omega), if_pos e, if_pos e]
      exact hs _
    · rw [if_pos e, if_neg (by omega), if_pos e]
      exact ⟨rfl, fun _ => ⟨rfl, by simp⟩⟩
    · rw [if_neg (by omega), if_pos e, if_neg (by omega), if_neg (by omega), if_pos e]
      exact hs _
    · rw [if_neg (by omega), if_neg (by omega), if_pos e, if_neg (by omega), if_neg (by omega), if_neg (by omega), if_pos e]
      exact key0 (.inl e) _ _
    · rw [if_neg (by omega), if_neg (by omega), if_neg (by omega), if_neg (by omega), if_neg (by omega), if_neg (by omega), if_neg (by omega), if_neg (by omega), if_neg (by omega), if_pos (by omega)]
      exact parts_rel0 _ _ _ _ fun k hm => key k hm args neg
    · rw [if_neg (by omega), if_neg (by omega), if_neg (by omega), if_neg (by omega), if_pos e, if_neg (by omega), if_neg (by omega), if_neg (by omega), if_neg (by omega), if_neg (by omega)]
      exact parts_rel0 _ _ _ _ fun o _ => key0 (.inr e) _ neg
theorem plusR_ok {B N : Nat} {s : Cs × Bool} {l : List Lit} (h : RC B N s) (hl : CaOk B l) : RC B (N + 1) (plusR s l) := by
  unfold plusR
  split
  · exact h.mono (Nat.le_refl _) (by omega)
  · refine ⟨by have := h.len; simp; omega, fun h2 => ?_, fun m hm => ?_⟩
    · simp only [Bool.or_eq_false_iff, decide_eq_false_iff_not] at h2
      simp only [List.length_append, List.length_singleton]
      omega
    · rcases List.mem_append.1 hm with hm | hm
      · exact h.ca m hm
      · rw [List.mem_singleton.1 hm]; exact hl
theorem join_ok {B C : Nat} {l m c : List Lit} (hl : CaOk B l) (hm : CaOk C m) (hj : joinL l m = some c) : CaOk (B + C) c := by
  obtain ⟨q1, q2, q3⟩ := joinL_some hl.so hl.co hj
  exact ⟨by have := joinL_len hj; have := hl.len; have := hm.len; omega, fun y hy => by
    rcases (q3 y).1 hy with h | h
    · exact hl.at_ y h
    · exact hm.at_ y h, q1, q2⟩
theorem andStepR_ok {B C : Nat} {s : Cs × Bool} {l m : List Lit} (h : RC (B + C) 41 s) (hl : CaOk B l) (hm : CaOk C m) : RC (B + C) 41 (andStepR l s m) := by
  unfold andStepR
  cases hj : joinL l m with
  | none => exact h
  | some c =>
    simp only
    split
    · exact h
    · rename_i h2
      have h2 : s.2 = false := by simpa using h2
      exact plusR_ok (N := 40) ⟨h.l40 h2, h.l40, h.ca⟩ (join_ok hl hm hj)
theorem foldPlus_ok {B : Nat} : ∀ {b : Cs} {N : Nat} {s : Cs × Bool}, RC B N s → (∀ l ∈ b, CaOk B l) → RC B (N + b.length) (b.foldl plusR s)
  | [], _, _, h, _ => h
  | l :: b, N, s, h, hb => by
    have := foldPlus_ok (b := b) (plusR_ok h (hb l (by simp))) fun m hm => hb m (by simp [hm])
    simp only [List.foldl_cons, List.length_cons]
    exact this.mono (Nat.le_refl _) (by omega)
theorem foldInR_ok {B C : Nat} {l : List Lit} (hl : CaOk B l) : ∀ {b : Cs} {s : Cs × Bool}, (∀ m ∈ b, CaOk C m) → RC (B + C) 41 s → RC (B + C) 41 (b.foldl (andStepR l) s)
  | [], _, _, h => h
  | m :: b, s, hb, h => foldInR_ok hl (b := b) (fun m' hm => hb m' (by simp [hm])) (andStepR_ok h hl (hb m (by simp)))
theorem foldOutR_ok {B C : Nat} {b : Cs} (hb : ∀ m ∈ b, CaOk C m) : ∀ {a : Cs} {s : Cs × Bool}, (∀ l ∈ a, CaOk B l) → RC (B + C) 41 s → RC (B + C) 41 (a.foldl (fun s l => b.foldl (andStepR l) s) s)
  | [], _, _, h => h
  | l :: a, s, ha, h => foldOutR_ok hb (a := a) (fun l' hm => ha l' (by simp [hm])) (foldInR_ok (ha l (by simp)) hb h)
theorem bothR_ok {B C : Nat} {a b : Cs × Bool} (ha : RC B 100 a) (hb : RC C 100 b) (conj : Bool) : RC (B + C) 100 (bothR a b conj) := by
  unfold bothR
  split
  · exact ⟨by simp, by simp, by simp⟩
  · rename_i h
    simp only [Bool.or_eq_true, not_or, Bool.not_eq_true] at h
    have h1 := ha.l40 h.1
    have h2 := hb.l40 h.2
    split
    · have := foldPlus_ok (B := B + C) (b := b.1) (N := 40) (s := (a.1, false)) ⟨h1, fun _ => h1, fun l hm => (ha.ca l hm).mono (by omega)⟩ fun l hm => (hb.ca l hm).mono (by omega)
      exact this.mono (Nat.le_refl _) (by omega)
    · exact (foldOutR_ok hb.ca ha.ca ⟨by simp, by simp, by simp⟩).mono (Nat.le_refl _) (by omega)
theorem foldSR_ok {conj : Bool} : ∀ {ps : List (Cs × Bool)} {S B : Nat} {s : Cs × Bool}, RPartsOk ps S → RC B 100 s → RC (B + S) 100 (ps.foldl (fun s q => bothR s q conj) s)
  | [], S, B, s, _, h => h.mono (by omega) (Nat.le_refl _)
  | q :: ps, S, B, s, ⟨C, S', h1, h2, h3⟩, h => (foldSR_ok (ps := ps) h3 (bothR_ok h h2 conj)).mono (by omega) (Nat.le_refl _)
theorem foldR_ok {conj : Bool} {ps : List (Cs × Bool)} {S : Nat} (h : RPartsOk ps S) : RC S 100 (foldR conj ps) := by
  have := foldSR_ok (conj := conj) h (RC.some 0 conj)
  rwa [Nat.zero_add] at this
theorem rparts_const {α : Type} {f : α → Cs × Bool} {B : Nat} : ∀ {xs : List α}, (∀ x ∈ xs, RC B 100 (f x)) → RPartsOk (xs.map f) (xs.length * B)
  | [], _ => trivial
  | x :: xs, h => ⟨B, xs.length * B, by simp only [List.length_cons, Nat.succ_mul]; omega, h x (by simp), rparts_const fun y hy => h y (by simp [hy])⟩
theorem ca_ok {d : Dom} (hd : DoTy d) {l : List Cn} (ho : ∀ n ∈ l, CnOk n) {m : Bool} {a b : Nat} {ps ch : List Int} (h : ST d l m a b ps ch) : ps.length ≤ 6 → ∀ (args : List Int), ArgsOk d ps args → ∀ neg,
    (m = true → RC ((b - a) * 8 ^ (6 - ps.length)) 100 (ca d l (b - 1) args neg)) ∧ (m = false → RPartsOk (ch.map fun k => ca d l k.toNat args neg) ((b - a) * 8 ^ (6 - ps.length))) := by
  induction h with
  | @node a i ps n hn ok h ih =>
    intro hps args ha neg
    refine ⟨fun _ => ?_, fun h => (by cases h)⟩
    have hst : ST d l true a (i + 1) ps [] := .node hn ok h
    rw [show i + 1 - 1 = i from rfl, ca_eq hst hn args neg]
    have hle := h.le.1
    have hpow : 1 ≤ 8 ^ (6 - ps.length) := by have := Nat.pow_le_pow_left (show 1 ≤ 8 by omega) (6 - ps.length); rwa [Nat.one_pow] at this
    have hW : 1 ≤ (i + 1 - a) * 8 ^ (6 - ps.length) := Nat.le_trans hpow (Nat.le_mul_of_pos_left _ (by omega))
    have hsub : (i - a) * 8 ^ (6 - ps.length) ≤ (i + 1 - a) * 8 ^ (6 - ps.length) := Nat.mul_le_mul_right _ (by omega)
    have hno := ho n (mem_get hn)
    have hown : quantK n.kind = false → ownC n = [] := fun h => by unfold ownC; rw [h]; rfl
    have k0 := ok.k0
    have k8 := ok.k8
    have hcase : n.kind = 1 ∨ n.kind = 2 ∨ n.kind = 3 ∨ n.kind = 4 ∨ (n.kind = 5 ∨ n.kind = 6) ∨ (n.kind = 7 ∨ n.kind = 8) := by omega
    rcases hcase with e | e | e | e | e | e
    · rw [if_pos e]
      exact .some _ _
    · rw [if_neg (by omega), if_pos e]
      refine ⟨by simp, by simp, fun c hc => ?_⟩
      rw [List.mem_singleton.1 hc]
      refine ⟨by simpa using hW, fun x hx => ?_, List.pairwise_singleton _ _, fun x hx y hy _ => ?_⟩
      · rw [List.mem_singleton.1 hx]
        have hl := ok.lf
        unfold leafCode at hl
        rw [if_pos e] at hl
        exact bindA_ok ha hd hno.at_ hl
      · rw [List.mem_singleton.1 hx, List.mem_singleton.1 hy]
    · rw [if_neg (by omega), if_neg (by omega), if_pos e]
      exact .some _ _
    · rw [if_neg (by omega), if_neg (by omega), if_neg (by omega), if_pos e]
      obtain ⟨k, hc⟩ := arity_one ok (.inl e)
      have e0 : ch0 n = k.toNat := by unfold ch0; rw [hc]; rfl
      rw [hown (by unfold quantK; simp [e]), List.append_nil] at ih
      have := (ih hps args ha (!neg)).2 rfl
      rw [hc] at this
      obtain ⟨B, S', h1, h2, _⟩ := this
      rw [e0]
      exact h2.mono (by omega) (Nat.le_refl _)
    · rw [if_neg (by omega), if_neg (by omega), if_neg (by omega), if_neg (by omega), if_pos (by omega)]
      rw [hown (by unfold quantK; rcases e with e | e <;> simp [e]), List.append_nil] at ih
      have := (ih hps args ha neg).2 rfl
      exact (foldR_ok this).mono hsub (Nat.le_refl _)
    · rw [if_neg (by omega), if_neg (by omega), if_neg (by omega), if_neg (by omega), if_neg (by omega)]
      have hqk : quantK n.kind = true := by unfold quantK; rcases e with e | e <;> simp [e]
      have how : ownC n = [n.type] := by unfold ownC; rw [if_pos hqk]
      have hp5 : ps.length < 6 := by
        have hqu := ok.qu
        unfold quCode at hqu
        rw [hqk, if_neg (by simp)] at hqu
        split at hqu
        · cases hqu
        · split at hqu
          · cases hqu
          · omega
      obtain ⟨k, hc⟩ := arity_one ok (.inr e)
      have e0 : ch0 n = k.toNat := by unfold ch0; rw [hc]; rfl
      rw [how] at ih
      have hml : (membersOf d.types d.objects n.type).length ≤ 8 := by have := members_length (l := d.types) (os := d.objects) (t := n.type); have := hd.ol; omega
      have hpp := rparts_const (f := fun o => ca d l (ch0 n) (args ++ [o]) neg) (B := (i - a) * 8 ^ (6 - (ps.length + 1))) (xs := membersOf d.types d.objects n.type) fun o ho2 => by
        obtain ⟨kk, x, rfl, hx, _⟩ := mem_members.1 ho2
        have hk2 := get_lt hx
        have := (ih (by simp; omega) (args ++ [(kk : Int)]) (ha.snoc (by omega) (by omega)) neg).2 rfl
        rw [hc] at this
        obtain ⟨B, S', h1, h2, _⟩ := this
        rw [e0]
        simp only [List.length_append, List.length_singleton] at h1
        exact h2.mono (by omega) (Nat.le_refl _)
      refine (foldR_ok hpp).mono (Nat.le_trans (Nat.mul_le_mul_right _ hml) (Nat.le_trans ?_ hsub)) (Nat.le_refl _)
      have e6 : 6 - ps.length = (6 - (ps.length + 1)) + 1 := by omega
      rw [e6, Nat.pow_succ]
      have : 8 * ((i - a) * 8 ^ (6 - (ps.length + 1))) = (i - a) * (8 ^ (6 - (ps.length + 1)) * 8) := by
        rw [Nat.mul_comm 8, Nat.mul_assoc]
      omega
  | nil => exact fun _ _ _ _ => ⟨(fun h => by cases h), fun _ => trivial⟩
  | @cons a b c ps ch h1 h2 ih1 ih2 =>
    intro hps args ha neg
    refine ⟨(fun h => by cases h), fun _ => ?_⟩
    have hb := h1.le.2 rfl
    have hc := h2.le.1
    refine ⟨(b - a) * 8 ^ (6 - ps.length), _, ?_, ?_, (ih2 hps args ha neg).2 rfl⟩
    · rw [← Nat.add_mul]
      exact Nat.mul_le_mul_right _ (by omega)
    · show RC _ 100 (ca d l ((b : Int) - 1).toNat args neg)
      rw [show ((b : Int) - 1).toNat = b - 1 from by omega]
      exact (ih1 hps args ha neg).1 rfl
end Hm
end
