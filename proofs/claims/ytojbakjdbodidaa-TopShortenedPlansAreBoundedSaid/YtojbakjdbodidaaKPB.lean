/- Part KPB of the proof. -/
import Derived.Test.YtojbakjdbodidaaKPA
import Derived.ProofKit
import Derived.SizedLaws
import Derived.Carry
import Derived.Deep.Slices
import Derived.OpenShut
set_option linter.unusedVariables false
set_option linter.unusedSimpArgs false
section
namespace Hm
open Go
set_option maxRecDepth 100000
set_option maxHeartbeats 1000000
def c_slices_IndexFunc_int : Cmd :=
 (qS [qc 4 0]
 (qT (qS [qm 6 0, qn 7 6, qc 8 0]
 (.block 0 (.loop (qS [qu 9 .lss [] 8 7]
 (qT (.cond (.t 9) .skip (.exit 0))
 (qT (.block 1 (qS [qm 10 8, qm 5 10]
 (qS [qm 11 1, qm 12 0, qm 13 5, qi 14 1 12 13, ql 15 1 14, qq 16 (.call .f (.t 11) [.t 15])]
 (.cond (.t 16) (.seq (.ops [qm 17 5, qm 4 17]) .ret) .skip))))
 (.ops [qv 18 .add [] 8 1, qm 8 18])))))))
 (.seq (.ops [qc 4 (-1)]) .ret)))
def r_slices_IndexFunc_int : List RVar := [.tmp 4]
def n_slices_IndexFunc_int : Nat := 19
theorem k_slices_IndexFunc_int : chkFn Go.Proofs.Try.prog 91 n_slices_IndexFunc_int r_slices_IndexFunc_int c_slices_IndexFunc_int = true := by kernel_rfl
theorem f_IndexFunc_int (l : List Int) (p : Int → Bool) (fid : Nat) (caps : List V) (hl : l.length ≤ 140737488355328) (he : ∀ σ n, caps.map (er σ (n + 1)) = caps) (hc : closedL [] caps = true) (hp : ∀ t ∈ l, Fc Go.Proofs.Try.prog fid (i64V t :: caps) (.bool (p t))) :
    Fc Go.Proofs.Try.prog 91 [.sl .p (l.map i64V), .fn fid caps] (.int .i64 (fidx p l)) := by
  refine Fn.step mixed k_slices_IndexFunc_int ?_
  repeat (first | refine i_len rfl ?_ | refine i_s rfl ?_ | refine i_lenm rfl rfl rfl ?_ | refine sw ?_ | refine i_s0 rfl ?_ | refine i_gt rfl ?_ | refine i_gf rfl ?_ | refine i_gd rfl ?_ | refine c_t rfl ?_ | refine c_f rfl ?_ | refine jc rfl ?_ | refine ja rfl rfl ?_ | refine jb rfl rfl ?_ | refine jg rfl rfl ?_ | refine jf rfl rfl ?_ | refine jd rfl rfl ?_ | refine je rfl rfl ?_ | refine jh rfl rfl ?_ | refine i_stb rfl ?_ | refine i_alloc rfl ?_ | refine i_box rfl rfl ?_ | refine i_nv rfl ?_)
  refine c_for l.length (fun k => [(0, .sl .p (l.map i64V)), (1, .fn fid caps), (7, .int .i64 l.length), (8, .int .i64 k)]) (fun _ => []) (fun k => ∀ j, j < k → ∀ c, l[j]? = some c → p c = false) all_zero ?_ fun k hk hi => ?_
  · exact ⟨⟨rfl, rfl, rfl, rfl, trivial⟩, trivial, by simp [fitB, closedE, closedB, hc, closedSt, hasAll]⟩
  repeat (first | refine i_len rfl ?_ | refine i_s rfl ?_ | refine i_lenm rfl rfl rfl ?_ | refine sw ?_ | refine i_s0 rfl ?_ | refine i_gt rfl ?_ | refine i_gf rfl ?_ | refine i_gd rfl ?_ | refine c_t rfl ?_ | refine c_f rfl ?_ | refine jc rfl ?_ | refine ja rfl rfl ?_ | refine jb rfl rfl ?_ | refine jg rfl rfl ?_ | refine jf rfl rfl ?_ | refine jd rfl rfl ?_ | refine je rfl rfl ?_ | refine jh rfl rfl ?_ | refine i_stb rfl ?_ | refine i_alloc rfl ?_ | refine i_box rfl rfl ?_ | refine i_nv rfl ?_)
  refine c_cond rfl (fun h => ?_) (fun h => ?_)
  · have hlt : k < l.length := by simpa using h
    obtain ⟨c, hget⟩ := get_some hlt
    repeat (first | refine i_len rfl ?_ | refine i_s rfl ?_ | refine i_lenm rfl rfl rfl ?_ | refine sw ?_ | refine i_s0 rfl ?_ | refine i_gt rfl ?_ | refine i_gf rfl ?_ | refine i_gd rfl ?_ | refine c_t rfl ?_ | refine c_f rfl ?_ | refine jc rfl ?_ | refine ja rfl rfl ?_ | refine jb rfl rfl ?_ | refine jg rfl rfl ?_ | refine jf rfl rfl ?_ | refine jd rfl rfl ?_ | refine je rfl rfl ?_ | refine jh rfl rfl ?_ | refine i_stb rfl ?_ | refine i_alloc rfl ?_ | refine i_box rfl rfl ?_ | refine i_nv rfl ?_)
    refine i_f rfl (congrArg (i64V c :: ·) (he _ 5)) (hp c (mem_get hget)) rfl ?_
    repeat' (first | refine i_len rfl ?_ | refine i_s rfl ?_ | refine i_lenm rfl rfl rfl ?_ | refine sw ?_ | refine i_s0 rfl ?_ | refine i_gt rfl ?_ | refine i_gf rfl ?_ | refine i_gd rfl ?_ | refine c_t rfl ?_ | refine c_f rfl ?_ | refine jc rfl ?_ | refine ja rfl rfl ?_ | refine jb rfl rfl ?_ | refine jg rfl rfl ?_ | refine jf rfl rfl ?_ | refine jd rfl rfl ?_ | refine je rfl rfl ?_ | refine jh rfl rfl ?_ | refine i_stb rfl ?_ | refine i_alloc rfl ?_ | refine i_box rfl rfl ?_ | refine i_nv rfl ?_ | (refine sp ?_ ?_ <;> try intro h) | fail)
    · refine e_ret ⟨rfl, _, rfl, congrArg (V.int .i64) (fidx_hit hi hget h)⟩
    · refine e_for hlt (all_succ hi fun c' hc' => ?_) ⟨⟨rfl, rfl, rfl, rfl, trivial⟩, trivial, by simp [fitB, closedE, closedB, hc, closedSt, hasAll]⟩
      rw [hget] at hc'; cases hc'; exact h
  · have hge : ¬ k < l.length := by simpa using h
    repeat' (first | refine i_len rfl ?_ | refine i_s rfl ?_ | refine i_lenm rfl rfl rfl ?_ | refine sw ?_ | refine i_s0 rfl ?_ | refine i_gt rfl ?_ | refine i_gf rfl ?_ | refine i_gd rfl ?_ | refine c_t rfl ?_ | refine c_f rfl ?_ | refine jc rfl ?_ | refine ja rfl rfl ?_ | refine jb rfl rfl ?_ | refine jg rfl rfl ?_ | refine jf rfl rfl ?_ | refine jd rfl rfl ?_ | refine je rfl rfl ?_ | refine jh rfl rfl ?_ | refine i_stb rfl ?_ | refine i_alloc rfl ?_ | refine i_box rfl rfl ?_ | refine i_nv rfl ?_ | (refine sp ?_ ?_ <;> try intro h) | fail)
    refine e_ret ⟨rfl, _, rfl, congrArg (V.int .i64) (fidx_none fun j hj => hi j (by omega))⟩
def c_slices_ContainsFunc_int : Cmd :=
 (qS [qb 4 false]
 (.seq (.ops [qm 5 0, qm 6 1, qk 7 91 [5, 6], qv 8 .geq [] 7 0, qm 4 8]) .ret))
def r_slices_ContainsFunc_int : List RVar := [.tmp 4]
def n_slices_ContainsFunc_int : Nat := 9
theorem k_slices_ContainsFunc_int : chkFn Go.Proofs.Try.prog 76 n_slices_ContainsFunc_int r_slices_ContainsFunc_int c_slices_ContainsFunc_int = true := by kernel_rfl
theorem f_ContainsFunc_int (l : List Int) (p : Int → Bool) (fid : Nat) (caps : List V) (hl : l.length ≤ 140737488355328) (he : ∀ σ n, caps.map (er σ (n + 1)) = caps) (hc : closedL [] caps = true) (hp : ∀ t ∈ l, Fc Go.Proofs.Try.prog fid (i64V t :: caps) (.bool (p t))) :
    Fc Go.Proofs.Try.prog 76 [.sl .p (l.map i64V), .fn fid caps] (.bool (l.any p)) := by
  refine Fn.step mixed k_slices_ContainsFunc_int ?_
  repeat (first | refine i_len rfl ?_ | refine i_s rfl ?_ | refine i_lenm rfl rfl rfl ?_ | refine sw ?_ | refine i_s0 rfl ?_ | refine i_gt rfl ?_ | refine i_gf rfl ?_ | refine i_gd rfl ?_ | refine c_t rfl ?_ | refine c_f rfl ?_ | refine jc rfl ?_ | refine ja rfl rfl ?_ | refine jb rfl rfl ?_ | refine jg rfl rfl ?_ | refine jf rfl rfl ?_ | refine jd rfl rfl ?_ | refine je rfl rfl ?_ | refine jh rfl rfl ?_ | refine i_stb rfl ?_ | refine i_alloc rfl ?_ | refine i_box rfl rfl ?_ | refine i_nv rfl ?_)
  refine i_f rfl (congrArg (fun x => [V.sl .p (l.map i64V), .fn fid x]) (he _ 4)) (f_IndexFunc_int l p fid caps hl he hc hp) rfl ?_
  repeat' (first | refine i_len rfl ?_ | refine i_s rfl ?_ | refine i_lenm rfl rfl rfl ?_ | refine sw ?_ | refine i_s0 rfl ?_ | refine i_gt rfl ?_ | refine i_gf rfl ?_ | refine i_gd rfl ?_ | refine c_t rfl ?_ | refine c_f rfl ?_ | refine jc rfl ?_ | refine ja rfl rfl ?_ | refine jb rfl rfl ?_ | refine jg rfl rfl ?_ | refine jf rfl rfl ?_ | refine jd rfl rfl ?_ | refine je rfl rfl ?_ | refine jh rfl rfl ?_ | refine i_stb rfl ?_ | refine i_alloc rfl ?_ | refine i_box rfl rfl ?_ | refine i_nv rfl ?_ | (refine sp ?_ ?_ <;> try intro h) | fail)
  refine e_ret ⟨rfl, _, rfl, congrArg V.bool (fidx_any p l).symm⟩
def ltN (l : List Int) (x : Int) : Nat := l.countP fun y => decide (y < x)
theorem ltN_eq {l : List Int} {x : Int} {i : Nat} (hi : i ≤ l.length) (h1 : ∀ j y, j < i → l[j]? = some y → y < x) (h2 : ∀ j y, i ≤ j → l[j]? = some y → x ≤ y) : ltN l x = i := by
  unfold ltN
  conv => lhs; rw [← List.take_append_drop i l, List.countP_append]
  have e1 : (l.take i).countP (fun y => decide (y < x)) = (l.take i).length := List.countP_eq_length.2 fun y hy => by
    obtain ⟨j, hj, e⟩ := List.mem_take_iff_getElem.1 hy
    simpa using h1 j y (by omega) (by rw [← e]; exact List.getElem?_eq_getElem (by omega))
  have e2 : (l.drop i).countP (fun y => decide (y < x)) = 0 := List.countP_eq_zero.2 fun y hy => by
    obtain ⟨j, hj, e⟩ := List.mem_drop_iff_getElem.1 hy
    have := h2 (i + j) y (by omega) (by rw [← e]; exact List.getElem?_eq_getElem (by omega))
    simpa using this
  rw [e1, e2, List.length_take]
  omega
def c_slices_BinarySearch_int : Cmd :=
 (qS [qc 4 0, qb 5 false]
 (qS [qm 10 0, qn 11 10, qm 6 11]
 (qS [qm 12 6, qc 7 0, qm 8 12]
 (qT (.block 0 (.loop (qT (qS [qm 13 7, qm 14 8, qu 15 .lss [] 13 14]
 (.cond (.t 15) .skip (.exit 0)))
 (.block 1 (qS [qm 16 7, qm 17 8, qu 18 .add [] 16 17, qq 19 (.conv .u64 (.t 18)), qq 20 (.bin .shr false [] (.t 19) (.c (.int .u64 1))), qq 21 (.conv .i64 (.t 20)), qm 9 21]
 (qS [qm 22 0, qm 23 9, qi 24 1 22 23, ql 25 1 24, qm 26 1, qk 27 73 [25, 26]]
 (.cond (.t 27) (.ops [qm 28 9, qv 29 .add [] 28 1, qm 7 29]) (.ops [qm 30 9, qm 8 30]))))))))
 (.seq (.ops [qm 31 7, qm 32 7, qm 33 6, qu 34 .lss [] 32 33, qm 35 34, qg 36 35 true (.mov (.t 0)), qg 37 35 true (.mov (.t 7)), qg 38 35 true (.iaddr 1 (.t 36) (.t 37)), qg 39 35 true (.load false 1 (.t 38)), qg 40 35 true (.mov (.t 1)), qg 41 35 true (.bin .eql false [.i] (.t 39) (.t 40)), qg 42 35 true (.mov (.t 41)), qg 43 42 false (.mov (.t 0)), qg 44 42 false (.mov (.t 7)), qg 45 42 false (.iaddr 1 (.t 43) (.t 44)), qg 46 42 false (.load false 1 (.t 45)), qg 47 42 false (.call .f (.c (.fn 74 [])) [.t 46]), qg 48 42 false (.mov (.t 47)), qg 49 48 true (.mov (.t 1)), qg 50 48 true (.call .f (.c (.fn 74 [])) [.t 49]), qg 51 42 false (.pick (.t 48) (.t 50) (.c (.bool false))), qg 52 35 true (.pick (.t 42) (.c (.bool true)) (.t 51)), qq 53 (.pick (.t 35) (.t 52) (.c (.bool false))), qm 4 31, qm 5 53]) .ret)))))
def r_slices_BinarySearch_int : List RVar := [.tmp 4, .tmp 5]
def n_slices_BinarySearch_int : Nat := 54
theorem k_slices_BinarySearch_int : chkFn Go.Proofs.Try.prog 56 n_slices_BinarySearch_int r_slices_BinarySearch_int c_slices_BinarySearch_int = true := by kernel_rfl
theorem f_BinarySearch (l : List Int) (x : Int) (hl : l.length ≤ 140737488355328) (hs : SS l) : Fc Go.Proofs.Try.prog 56 [.sl .p (l.map i64V), .int .i64 x] (.tup [.int .i64 (ltN l x), .bool (decide (x ∈ l))]) := by
  refine Fn.step mixed k_slices_BinarySearch_int ?_
  repeat' (first | refine i_len rfl ?_ | refine i_s rfl ?_ | refine i_lenm rfl rfl rfl ?_ | refine sw ?_ | refine i_s0 rfl ?_ | refine i_gt rfl ?_ | refine i_gf rfl ?_ | refine i_gd rfl ?_ | refine c_t rfl ?_ | refine c_f rfl ?_ | refine jc rfl ?_ | refine ja rfl rfl ?_ | refine jb rfl rfl ?_ | refine jg rfl rfl ?_ | refine jf rfl rfl ?_ | refine jd rfl rfl ?_ | refine je rfl rfl ?_ | refine jh rfl rfl ?_ | refine i_stb rfl ?_ | refine i_alloc rfl ?_ | refine i_box rfl rfl ?_ | refine i_nv rfl ?_ | (refine sp ?_ ?_ <;> try intro h) | fail)
  refine c_lp (ι := Nat × Nat) (fun p => [(0, .sl .p (l.map i64V)), (1, .int .i64 x), (6, .int .i64 l.length), (7, .int .i64 p.1), (8, .int .i64 p.2)]) (fun _ => [])
    (fun p => p.1 ≤ p.2 ∧ p.2 ≤ l.length ∧ (∀ j y, j < p.1 → l[j]? = some y → y < x) ∧ (∀ j y, p.2 ≤ j → l[j]? = some y → x ≤ y)) (fun p => p.2 - p.1) (0, l.length) ⟨Nat.zero_le _, Nat.le_refl _, fun j y h => by omega, fun j y h1 h2 => by have := get_lt h2; omega⟩ ft fun p hi => ?_
  obtain ⟨i, j⟩ := p
  obtain ⟨h1, h2, h3, h4⟩ := hi
  simp only at h1 h2 h3 h4
  repeat (first | refine i_len rfl ?_ | refine i_s rfl ?_ | refine i_lenm rfl rfl rfl ?_ | refine sw ?_ | refine i_s0 rfl ?_ | refine i_gt rfl ?_ | refine i_gf rfl ?_ | refine i_gd rfl ?_ | refine c_t rfl ?_ | refine c_f rfl ?_ | refine jc rfl ?_ | refine ja rfl rfl ?_ | refine jb rfl rfl ?_ | refine jg rfl rfl ?_ | refine jf rfl rfl ?_ | refine jd rfl rfl ?_ | refine je rfl rfl ?_ | refine jh rfl rfl ?_ | refine i_stb rfl ?_ | refine i_alloc rfl ?_ | refine i_box rfl rfl ?_ | refine i_nv rfl ?_)
  refine c_cond rfl (fun h => ?_) (fun h => ?_)
  · have hlt : i < j := by simpa using h
    obtain ⟨y, hy⟩ := get_some (l := l) (k := (i + j) / 2) (by omega)
    clear h
    repeat (first | refine i_len rfl ?_ | refine i_s rfl ?_ | refine i_lenm rfl rfl rfl ?_ | refine sw ?_ | refine i_s0 rfl ?_ | refine i_gt rfl ?_ | refine i_gf rfl ?_ | refine i_gd rfl ?_ | refine c_t rfl ?_ | refine c_f rfl ?_ | refine jc rfl ?_ | refine ja rfl rfl ?_ | refine jb rfl rfl ?_ | refine jg rfl rfl ?_ | refine jf rfl rfl ?_ | refine jd rfl rfl ?_ | refine je rfl rfl ?_ | refine jh rfl rfl ?_ | refine i_stb rfl ?_ | refine i_alloc rfl ?_ | refine i_box rfl rfl ?_ | refine i_nv rfl ?_)
    refine i_shr (q := (((i + j) / 2 : Nat) : Int)) rfl rfl (by decide) ?_ ?_
    · show Int.fdiv ((i : Int) + (j : Int)) 2 = _
      rw [Int.fdiv_eq_ediv_of_nonneg _ (by decide)]
      omega
    repeat (first | refine i_len rfl ?_ | refine i_s rfl ?_ | refine i_lenm rfl rfl rfl ?_ | refine sw ?_ | refine i_s0 rfl ?_ | refine i_gt rfl ?_ | refine i_gf rfl ?_ | refine i_gd rfl ?_ | refine c_t rfl ?_ | refine c_f rfl ?_ | refine jc rfl ?_ | refine ja rfl rfl ?_ | refine jb rfl rfl ?_ | refine jg rfl rfl ?_ | refine jf rfl rfl ?_ | refine jd rfl rfl ?_ | refine je rfl rfl ?_ | refine jh rfl rfl ?_ | refine i_stb rfl ?_ | refine i_alloc rfl ?_ | refine i_box rfl rfl ?_ | refine i_nv rfl ?_ | refine sf rfl rfl (f_cmp_Less_int _ _) ?_)
    refine c_cond rfl (fun h => ?_) (fun h => ?_)
    · have hyx : y < x := by simpa using h
      repeat (first | refine i_len rfl ?_ | refine i_s rfl ?_ | refine i_lenm rfl rfl rfl ?_ | refine sw ?_ | refine i_s0 rfl ?_ | refine i_gt rfl ?_ | refine i_gf rfl ?_ | refine i_gd rfl ?_ | refine c_t rfl ?_ | refine c_f rfl ?_ | refine jc rfl ?_ | refine ja rfl rfl ?_ | refine jb rfl rfl ?_ | refine jg rfl rfl ?_ | refine jf rfl rfl ?_ | refine jd rfl rfl ?_ | refine je rfl rfl ?_ | refine jh rfl rfl ?_ | refine i_stb rfl ?_ | refine i_alloc rfl ?_ | refine i_box rfl rfl ?_ | refine i_nv rfl ?_)
      refine e_lp ((i + j) / 2 + 1, j) ⟨by simp only; omega, h2, fun k z hk hz => ?_, h4⟩ (by simp only; omega) ⟨⟨rfl, rfl, rfl, ?_, rfl, trivial⟩, trivial, rfl⟩
      · by_cases e : k = (i + j) / 2
        · subst e; rw [hy] at hz; cases hz; exact hyx
        · have := ss_idx hs hz hy (by simp only at hk; omega); omega
      · rfl
    · have hyx : ¬ y < x := by simpa using h
      repeat (first | refine i_len rfl ?_ | refine i_s rfl ?_ | refine i_lenm rfl rfl rfl ?_ | refine sw ?_ | refine i_s0 rfl ?_ | refine i_gt rfl ?_ | refine i_gf rfl ?_ | refine i_gd rfl ?_ | refine c_t rfl ?_ | refine c_f rfl ?_ | refine jc rfl ?_ | refine ja rfl rfl ?_ | refine jb rfl rfl ?_ | refine jg rfl rfl ?_ | refine jf rfl rfl ?_ | refine jd rfl rfl ?_ | refine je rfl rfl ?_ | refine jh rfl rfl ?_ | refine i_stb rfl ?_ | refine i_alloc rfl ?_ | refine i_box rfl rfl ?_ | refine i_nv rfl ?_)
      refine e_lp (i, (i + j) / 2) ⟨by simp only; omega, by simp only; omega, h3, fun k z hk hz => ?_⟩ (by simp only; omega) ft
      by_cases e : k = (i + j) / 2
      · subst e; rw [hy] at hz; cases hz; omega
      · have := ss_idx hs hy hz (by simp only at hk; omega); omega
  · have he : i = j := by have : ¬ i < j := by simpa using h
                          omega
    subst he
    have hn := ltN_eq h2 h3 h4
    clear h
    by_cases hil : i < l.length
    · obtain ⟨y, hy⟩ := get_some hil
      have hil' : (i : Int) < l.length := by omega
      by_cases e : y = x
      · have hm : x ∈ l := e ▸ mem_get hy
        repeat' (first | refine i_len rfl ?_ | refine i_s rfl ?_ | refine i_lenm rfl rfl rfl ?_ | refine sw ?_ | refine i_s0 rfl ?_ | refine i_gt rfl ?_ | refine i_gf rfl ?_ | refine i_gd rfl ?_ | refine c_t rfl ?_ | refine c_f rfl ?_ | refine jc rfl ?_ | refine ja rfl rfl ?_ | refine jb rfl rfl ?_ | refine jg rfl rfl ?_ | refine jf rfl rfl ?_ | refine jd rfl rfl ?_ | refine je rfl rfl ?_ | refine jh rfl rfl ?_ | refine i_stb rfl ?_ | refine i_alloc rfl ?_ | refine i_box rfl rfl ?_ | refine i_nv rfl ?_ | (refine sp ?_ ?_ <;> try intro h) | refine sf rfl rfl (f_slices_isNaN_int _) ?_ | fail)
        all_goals first
          | (refine e_ret ⟨rfl, _, rfl, ?_⟩; rw [hn, decide_eq_true hm]; rfl)
          | (exfalso; simp at *; omega)
      · have hm : x ∉ l := fun hm => by
          obtain ⟨k, hk, e2⟩ := List.getElem_of_mem hm
          have hg : l[k]? = some x := by rw [← e2]; exact List.getElem?_eq_getElem hk
          by_cases hki : k < i
          · have := h3 k x hki hg; omega
          · by_cases hke : k = i
            · subst hke; rw [hy] at hg; cases hg; exact e rfl
            · have := ss_idx hs hy hg (by omega)
              have := h4 i y (Nat.le_refl _) hy
              omega
        repeat' (first | refine i_len rfl ?_ | refine i_s rfl ?_ | refine i_lenm rfl rfl rfl ?_ | refine sw ?_ | refine i_s0 rfl ?_ | refine i_gt rfl ?_ | refine i_gf rfl ?_ | refine i_gd rfl ?_ | refine c_t rfl ?_ | refine c_f rfl ?_ | refine jc rfl ?_ | refine ja rfl rfl ?_ | refine jb rfl rfl ?_ | refine jg rfl rfl ?_ | refine jf rfl rfl ?_ | refine jd rfl rfl ?_ | refine je rfl rfl ?_ | refine jh rfl rfl ?_ | refine i_stb rfl ?_ | refine i_alloc rfl ?_ | refine i_box rfl rfl ?_ | refine i_nv rfl ?_ | (refine sp ?_ ?_ <;> try intro h) | refine sf rfl rfl (f_slices_isNaN_int _) ?_ | fail)
        all_goals first
          | (refine e_ret ⟨rfl, _, rfl, ?_⟩; rw [hn, decide_eq_false hm]; rfl)
          | (exfalso; clear hm h3 h4 hs hn; simp at *; omega)
          | (exfalso; clear hm h3 h4 hs hn; simp at *; done)
    · have hm : x ∉ l := fun hm => by
        obtain ⟨k, hk, e2⟩ := List.getElem_of_mem hm
        have := h3 k x (by omega) (by rw [← e2]; exact List.getElem?_eq_getElem hk)
        omega
      repeat' (first | refine i_len rfl ?_ | refine i_s rfl ?_ | refine i_lenm rfl rfl rfl ?_ | refine sw ?_ | refine i_s0 rfl ?_ | refine i_gt rfl ?_ | refine i_gf rfl ?_ | refine i_gd rfl ?_ | refine c_t rfl ?_ | refine c_f rfl ?_ | refine jc rfl ?_ | refine ja rfl rfl ?_ | refine jb rfl rfl ?_ | refine jg rfl rfl ?_ | refine jf rfl rfl ?_ | refine jd rfl rfl ?_ | refine je rfl rfl ?_ | refine jh rfl rfl ?_ | refine i_stb rfl ?_ | refine i_alloc rfl ?_ | refine i_box rfl rfl ?_ | refine i_nv rfl ?_ | (refine sp ?_ ?_ <;> try intro h) | refine sf rfl rfl (f_slices_isNaN_int _) ?_ | fail)
      all_goals first
        | (refine e_ret ⟨rfl, _, rfl, ?_⟩; rw [hn, decide_eq_false hm]; rfl)
        | (exfalso; clear hm h3 h4 hs hn; simp at *; omega)
def c_strips_Meets_1 : Cmd :=
 (qS [qb 3 false]
 (qS [ql 7 1 1, qm 8 0, qk 9 56 [7, 8], qm 6 9, qq 10 (.extract (.t 6) 0), qq 11 (.extract (.t 6) 1), qm 4 10, qm 5 11]
 (.seq (.ops [qm 12 5, qm 3 12]) .ret)))
def r_strips_Meets_1 : List RVar := [.tmp 3]
def n_strips_Meets_1 : Nat := 13
theorem k_strips_Meets_1 : chkFn Go.Proofs.Try.prog 77 n_strips_Meets_1 r_strips_Meets_1 c_strips_Meets_1 = true := by kernel_rfl
theorem f_strips_Meets_1 (b : List Int) (hl : b.length ≤ 140737488355328) (hs : SS b) (x : Int) : Fc Go.Proofs.Try.prog 77 [i64V x, .cptr .p (.sl .p (b.map i64V)) 0] (.bool (decide (x ∈ b))) := by
  refine Fn.step mixed k_strips_Meets_1 ?_
  repeat' (first | refine i_len rfl ?_ | refine i_s rfl ?_ | refine i_lenm rfl rfl rfl ?_ | refine sw ?_ | refine i_s0 rfl ?_ | refine i_gt rfl ?_ | refine i_gf rfl ?_ | refine i_gd rfl ?_ | refine c_t rfl ?_ | refine c_f rfl ?_ | refine jc rfl ?_ | refine ja rfl rfl ?_ | refine jb rfl rfl ?_ | refine jg rfl rfl ?_ | refine jf rfl rfl ?_ | refine jd rfl rfl ?_ | refine je rfl rfl ?_ | refine jh rfl rfl ?_ | refine i_stb rfl ?_ | refine i_alloc rfl ?_ | refine i_box rfl rfl ?_ | refine i_nv rfl ?_ | (refine sp ?_ ?_ <;> try intro h) | refine sf rfl rfl (f_BinarySearch b x hl hs) ?_ | fail)
  exact e_ret ⟨rfl, _, rfl, rfl⟩
def c_strips_Meets : Cmd :=
 (qS [qx 3 3776193 1 1, qb 4 false]
 (.seq (.ops [qm 5 0, qq 6 (.mkfn 77 [.t 3]), qk 7 76 [5, 6], qm 4 7]) .ret))
def r_strips_Meets : List RVar := [.tmp 4]
def n_strips_Meets : Nat := 8
theorem k_strips_Meets : chkFn Go.Proofs.Try.prog 59 n_strips_Meets r_strips_Meets c_strips_Meets = true := by kernel_rfl
theorem f_strips_Meets (a b : List Int) (hl : a.length ≤ 140737488355328) (hlb : b.length ≤ 140737488355328) (hs : SS b) : Fc Go.Proofs.Try.prog 59 [.sl .p (a.map i64V), .sl .p (b.map i64V)] (.bool (meetB a b)) := by
  have hC := f_ContainsFunc_int a (fun x => decide (x ∈ b)) 77 [.cptr .p (.sl .p (b.map i64V)) 0] hl (fun _ _ => rfl) rfl (fun x _ => f_strips_Meets_1 b hlb hs x)
  refine Fn.step mixed k_strips_Meets ?_
  repeat' (first | refine i_len rfl ?_ | refine i_s rfl ?_ | refine i_lenm rfl rfl rfl ?_ | refine sw ?_ | refine i_s0 rfl ?_ | refine i_gt rfl ?_ | refine i_gf rfl ?_ | refine i_gd rfl ?_ | refine c_t rfl ?_ | refine c_f rfl ?_ | refine jc rfl ?_ | refine ja rfl rfl ?_ | refine jb rfl rfl ?_ | refine jg rfl rfl ?_ | refine jf rfl rfl ?_ | refine jd rfl rfl ?_ | refine je rfl rfl ?_ | refine jh rfl rfl ?_ | refine i_stb rfl ?_ | refine i_alloc rfl ?_ | refine i_box rfl rfl ?_ | refine i_nv rfl ?_ | (refine sp ?_ ?_ <;> try intro h) | refine sf rfl rfl hC ?_ | fail)
  exact e_ret ⟨rfl, _, rfl, rfl⟩
def opCode (n : Int) (o : SOp) : Int := if isSetB n o.pre = false ∨ isSetB n o.add = false ∨ isSetB n o.del = false ∨ disjB o.add o.del = false then 5 else if o.cost < 0 ∨ o.cost > 100 then 3 else 0
theorem sopBad_eq {n : Int} {ops : List SOp} {i : Nat} {o : SOp} (h : ops[i]? = some o) : sopBad n ops i = if opCode n o = 0 then none else some ⟨opCode n o, i⟩ := by
  unfold sopBad opCode
  rw [h]
  simp only
  repeat' split
  all_goals first | rfl | omega | contradiction
def SoOk (o : SOp) : Prop := o.pre.length ≤ 140737488355328 ∧ o.add.length ≤ 140737488355328 ∧ o.del.length ≤ 140737488355328
theorem opc5 {n : Int} {o : SOp} (h : isSetB n o.pre = false ∨ isSetB n o.add = false ∨ isSetB n o.del = false ∨ disjB o.add o.del = false) : opCode n o = 5 := if_pos h
theorem opc {n : Int} {o : SOp} (h1 : isSetB n o.pre = true) (h2 : isSetB n o.add = true) (h3 : isSetB n o.del = true) (h4 : disjB o.add o.del = true) : opCode n o = if o.cost < 0 ∨ o.cost > 100 then 3 else 0 := if_neg (by simp [h1, h2, h3, h4])
def c_strips_operator : Cmd :=
 (qS [qx 2 3008132 4 0, qc 4 0]
 (qT (.block 0 (qS [qf 6 0 2, ql 7 1 6, qm 8 1, qk 9 40 [7, 8], qq 10 (.not (.t 9)), qm 11 10, qg 12 11 false (.faddr 1 (.t 2)), qg 13 11 false (.load false 1 (.t 12)), qg 14 11 false (.mov (.t 1)), qg 15 11 false (.call .f (.c (.fn 40 [])) [.t 13, .t 14]), qg 16 11 false (.not (.t 15)), qq 17 (.pick (.t 11) (.c (.bool true)) (.t 16)), qm 18 17, qg 19 18 false (.faddr 2 (.t 2)), qg 20 18 false (.load false 1 (.t 19)), qg 21 18 false (.mov (.t 1)), qg 22 18 false (.call .f (.c (.fn 40 [])) [.t 20, .t 21]), qg 23 18 false (.not (.t 22)), qq 24 (.pick (.t 18) (.c (.bool true)) (.t 23)), qm 25 24, qg 26 25 false (.faddr 1 (.t 2)), qg 27 25 false (.load false 1 (.t 26)), qg 28 25 false (.faddr 2 (.t 2)), qg 29 25 false (.load false 1 (.t 28)), qg 30 25 false (.call .f (.c (.fn 59 [])) [.t 27, .t 29]), qq 31 (.pick (.t 25) (.c (.bool true)) (.t 30)), qm 5 31]
 (.cond (.t 5) (.seq (.ops [qc 4 5]) .ret) (qS [qf 33 3 2, ql 34 1 33, qv 35 .lss [] 34 0, qm 36 35, qg 37 36 false (.faddr 3 (.t 2)), qg 38 36 false (.load false 1 (.t 37)), qg 39 36 false (.bin .gtr false [] (.t 38) (.c (.int .i64 100))), qq 40 (.pick (.t 36) (.c (.bool true)) (.t 39)), qm 32 40]
 (.cond (.t 32) (.seq (.ops [qc 4 3]) .ret) .skip)))))
 (.seq (.ops [qc 4 0]) .ret)))
def r_strips_operator : List RVar := [.tmp 4]
def n_strips_operator : Nat := 41
theorem k_strips_operator : chkFn Go.Proofs.Try.prog 47 n_strips_operator r_strips_operator c_strips_operator = true := by kernel_rfl
theorem f_strips_operator (o : SOp) (n : Int) (ho : SoOk o) : Fc Go.Proofs.Try.prog 47 [soV o, .int .i64 n] (.int .i64 (opCode n o)) := by
  obtain ⟨l1, l2, l3⟩ := ho
  have h1 := f_strips_IsSet o.pre n l1
  have h2 := f_strips_IsSet o.add n l2
  have h3 := f_strips_IsSet o.del n l3
  cases e1 : isSetB n o.pre with
  | false =>
    rw [e1] at h1
    refine Fn.step mixed k_strips_operator ?_
    repeat' (first | refine i_len rfl ?_ | refine i_s rfl ?_ | refine i_lenm rfl rfl rfl ?_ | refine sw ?_ | refine i_s0 rfl ?_ | refine i_gt rfl ?_ | refine i_gf rfl ?_ | refine i_gd rfl ?_ | refine c_t rfl ?_ | refine c_f rfl ?_ | refine jc rfl ?_ | refine ja rfl rfl ?_ | refine jb rfl rfl ?_ | refine jg rfl rfl ?_ | refine jf rfl rfl ?_ | refine jd rfl rfl ?_ | refine je rfl rfl ?_ | refine jh rfl rfl ?_ | refine i_stb rfl ?_ | refine i_alloc rfl ?_ | refine i_box rfl rfl ?_ | refine i_nv rfl ?_ | (refine sp ?_ ?_ <;> try intro h) | refine sf rfl rfl h1 ?_ | fail)
    exact e_ret ⟨rfl, _, rfl, congrArg (V.int .i64) (opc5 (.inl e1))⟩
  | true =>
  cases e2 : isSetB n o.add with
  | false =>
    rw [e1] at h1
    rw [e2] at h2
    refine Fn.step mixed k_strips_operator ?_
    repeat' (first | refine i_len rfl ?_ | refine i_s rfl ?_ | refine i_lenm rfl rfl rfl ?_ | refine sw ?_ | refine i_s0 rfl ?_ | refine i_gt rfl ?_ | refine i_gf rfl ?_ | refine i_gd rfl ?_ | refine c_t rfl ?_ | refine c_f rfl ?_ | refine jc rfl ?_ | refine ja rfl rfl ?_ | refine jb rfl rfl ?_ | refine jg rfl rfl ?_ | refine jf rfl rfl ?_ | refine jd rfl rfl ?_ | refine je rfl rfl ?_ | refine jh rfl rfl ?_ | refine i_stb rfl ?_ | refine i_alloc rfl ?_ | refine i_box rfl rfl ?_ | refine i_nv rfl ?_ | (refine sp ?_ ?_ <;> try intro h) | refine sf rfl rfl h1 ?_ | refine sf rfl rfl h2 ?_ | fail)
    exact e_ret ⟨rfl, _, rfl, congrArg (V.int .i64) (opc5 (.inr (.inl e2)))⟩
  | true =>
  cases e3 : isSetB n o.del with
  | false =>
    rw [e1] at h1
    rw [e2] at h2
    rw [e3] at h3
    refine Fn.step mixed k_strips_operator ?_
    repeat' (first | refine i_len rfl ?_ | refine i_s rfl ?_ | refine i_lenm rfl rfl rfl ?_ | refine sw ?_ | refine i_s0 rfl ?_ | refine i_gt rfl ?_ | refine i_gf rfl ?_ | refine i_gd rfl ?_ | refine c_t rfl ?_ | refine c_f rfl ?_ | refine jc rfl ?_ | refine ja rfl rfl ?_ | refine jb rfl rfl ?_ | refine jg rfl rfl ?_ | refine jf rfl rfl ?_ | refine jd rfl rfl ?_ | refine je rfl rfl ?_ | refine jh rfl rfl ?_ | refine i_stb rfl ?_ | refine i_alloc rfl ?_ | refine i_box rfl rfl ?_ | refine i_nv rfl ?_ | (refine sp ?_ ?_ <;> try intro h) | refine sf rfl rfl h1 ?_ | refine sf rfl rfl h2 ?_ | refine sf rfl rfl h3 ?_ | fail)
    exact e_ret ⟨rfl, _, rfl, congrArg (V.int .i64) (opc5 (.inr (.inr (.inl e3))))⟩
  | true =>
  have h4 := f_strips_Meets o.add o.del l2 l3 (isSet_of e3).ss
  rw [meet_disj] at h4
  rw [e1] at h1
  rw [e2] at h2
  rw [e3] at h3
  cases e4 : disjB o.add o.del with
  | false =>
    rw [e4] at h4
    refine Fn.step mixed k_strips_operator ?_
    repeat' (first | refine i_len rfl ?_ | refine i_s rfl ?_ | refine i_lenm rfl rfl rfl ?_ | refine sw ?_ | refine i_s0 rfl ?_ | refine i_gt rfl ?_ | refine i_gf rfl ?_ | refine i_gd rfl ?_ | refine c_t rfl ?_ | refine c_f rfl ?_ | refine jc rfl ?_ | refine ja rfl rfl ?_ | refine jb rfl rfl ?_ | refine jg rfl rfl ?_ | refine jf rfl rfl ?_ | refine jd rfl rfl ?_ | refine je rfl rfl ?_ | refine jh rfl rfl ?_ | refine i_stb rfl ?_ | refine i_alloc rfl ?_ | refine i_box rfl rfl ?_ | refine i_nv rfl ?_ | (refine sp ?_ ?_ <;> try intro h) | refine sf rfl rfl h1 ?_ | refine sf rfl rfl h2 ?_ | refine sf rfl rfl h3 ?_ | refine sf rfl rfl h4 ?_ | fail)
    exact e_ret ⟨rfl, _, rfl, congrArg (V.int .i64) (opc5 (.inr (.inr (.inr e4))))⟩
  | true =>
    rw [e4] at h4
    refine Fn.step mixed k_strips_operator ?_
    repeat' (first | refine i_len rfl ?_ | refine i_s rfl ?_ | refine i_lenm rfl rfl rfl ?_ | refine sw ?_ | refine i_s0 rfl ?_ | refine i_gt rfl ?_ | refine i_gf rfl ?_ | refine i_gd rfl ?_ | refine c_t rfl ?_ | refine c_f rfl ?_ | refine jc rfl ?_ | refine ja rfl rfl ?_ | refine jb rfl rfl ?_ | refine jg rfl rfl ?_ | refine jf rfl rfl ?_ | refine jd rfl rfl ?_ | refine je rfl rfl ?_ | refine jh rfl rfl ?_ | refine i_stb rfl ?_ | refine i_alloc rfl ?_ | refine i_box rfl rfl ?_ | refine i_nv rfl ?_ | (refine sp ?_ ?_ <;> try intro h) | refine sf rfl rfl h1 ?_ | refine sf rfl rfl h2 ?_ | refine sf rfl rfl h3 ?_ | refine sf rfl rfl h4 ?_ | fail)
    all_goals
      refine e_ret ⟨rfl, _, rfl, congrArg (V.int .i64) ?_⟩
      rw [opc e1 e2 e3 e4]
      clear h1 h2 h3 h4
      simp at *
      omega
theorem sF1 {t : STask} (h : t.facts < 0 ∨ t.facts > 24) : sFault t = ⟨3, -1⟩ := if_pos h
theorem sF2 {t : STask} (h : ¬ (t.facts < 0 ∨ t.facts > 24)) (h2 : isSetB t.facts t.init = false) : sFault t = ⟨5, -2⟩ := by unfold sFault; rw [if_neg h, if_pos h2]
theorem sF3 {t : STask} (h : ¬ (t.facts < 0 ∨ t.facts > 24)) (h2 : isSetB t.facts t.init = true) (h3 : isSetB t.facts t.goal = false) : sFault t = ⟨5, -3⟩ := by unfold sFault; rw [if_neg h, if_neg (by simp [h2]), if_pos h3]
theorem sF4 {t : STask} (h : ¬ (t.facts < 0 ∨ t.facts > 24)) (h2 : isSetB t.facts t.init = true) (h3 : isSetB t.facts t.goal = true) (h4 : t.ops.length > 40) : sFault t = ⟨2, -1⟩ := by unfold sFault; rw [if_neg h, if_neg (by simp [h2]), if_neg (by simp [h3]), if_pos h4]
theorem sF5 {t : STask} (h : ¬ (t.facts < 0 ∨ t.facts > 24)) (h2 : isSetB t.facts t.init = true) (h3 : isSetB t.facts t.goal = true) (h4 : ¬ t.ops.length > 40) : sFault t = (scan (sopBad t.facts t.ops) 0 t.ops.length).getD okF := by unfold sFault; rw [if_neg h, if_neg (by simp [h2]), if_neg (by simp [h3]), if_neg h4]
theorem sF_hit {t : STask} (hel : sFault t = (scan (sopBad t.facts t.ops) 0 t.ops.length).getD okF) {k : Nat} {f : Flt} (hi : ∀ j, j < k → sopBad t.facts t.ops j = none) (hk : k < t.ops.length) (hf : sopBad t.facts t.ops k = some f) : sFault t = f := by
  rw [hel, scan0_hit hi hk hf]; rfl
theorem sF_none {t : STask} (hel : sFault t = (scan (sopBad t.facts t.ops) 0 t.ops.length).getD okF) (hi : ∀ j, j < t.ops.length → sopBad t.facts t.ops j = none) : sFault t = okF := by
  rw [hel, scan0_none hi]; rfl
end Hm
end
section
namespace Hm
open Go
set_option maxRecDepth 100000
set_option maxHeartbeats 2000000
def c_strips_Validate : Cmd :=
 (qS [qx 1 1792068 4 0, qq 2 (.alloc 1792130 (.agg [.int .i64 0, .int .i64 0]))]
 (qT (.block 0 (qS [qf 7 0 1, ql 8 1 7, qv 9 .lss [] 8 0, qm 10 9, qg 11 10 false (.faddr 0 (.t 1)), qg 12 10 false (.load false 1 (.t 11)), qg 13 10 false (.bin .gtr false [] (.t 12) (.c (.int .i64 24))), qq 14 (.pick (.t 10) (.c (.bool true)) (.t 13)), qm 6 14]
 (.cond (.t 6) (.seq (.ops [qq 15 (.build [.int .i64 0, .int .i64 0] [(0 , 1 , .c (.int .i64 3)), (1 , 1 , .c (.int .i64 (-1)))]), qs 2 2 15]) .ret) (qS [qf 17 1 1, ql 18 1 17, qf 19 0 1, ql 20 1 19, qk 21 40 [18, 20], qq 22 (.not (.t 21)), qm 16 22]
 (.cond (.t 16) (.seq (.ops [qq 23 (.build [.int .i64 0, .int .i64 0] [(0 , 1 , .c (.int .i64 5)), (1 , 1 , .c (.int .i64 (-2)))]), qs 2 2 23]) .ret) (qS [qf 25 2 1, ql 26 1 25, qf 27 0 1, ql 28 1 27, qk 29 40 [26, 28], qq 30 (.not (.t 29)), qm 24 30]
 (.cond (.t 24) (.seq (.ops [qq 31 (.build [.int .i64 0, .int .i64 0] [(0 , 1 , .c (.int .i64 5)), (1 , 1 , .c (.int .i64 (-3)))]), qs 2 2 31]) .ret) (qS [qf 33 3 1, ql 34 1 33, qn 35 34, qv 36 .gtr [] 35 40, qm 32 36]
 (.cond (.t 32) (.seq (.ops [qq 37 (.build [.int .i64 0, .int .i64 0] [(0 , 1 , .c (.int .i64 2)), (1 , 1 , .c (.int .i64 (-1)))]), qs 2 2 37]) .ret) .skip)))))))))
 (qT (qS [qf 38 3 1, ql 39 1 38, qn 40 39, qc 41 0]
 (.block 1 (.loop (qS [qu 42 .lss [] 41 40]
 (qT (.cond (.t 42) .skip (.exit 1))
 (qT (.block 2 (qS [qm 43 41, qi 44 4 39 41, qL 45 4 44, qq 4 (.alloc 1792260 (.agg [.sl .nil [], .sl .nil [], .sl .nil [], .int .i64 0])), qm 3 43, qs 4 4 45]
 (qS [qL 46 4 4, qf 47 0 1, ql 48 1 47, qk 49 47 [46, 48], qm 5 49]
 (qS [qm 50 5, qv 51 .neq [.i] 50 0]
 (.cond (.t 51) (.seq (.ops [qm 52 5, qm 53 3, qq 54 (.build [.int .i64 0, .int .i64 0] [(0 , 1 , .t 52), (1 , 1 , .t 53)]), qs 2 2 54]) .ret) .skip)))))
 (.ops [qv 55 .add [] 41 1, qm 41 55])))))))
 (.seq (.ops [qq 56 (.build [.int .i64 0, .int .i64 0] []), qs 2 2 56]) .ret))))
def r_strips_Validate : List RVar := [.cell true 2 2]
def n_strips_Validate : Nat := 57
theorem k_strips_Validate : chkFn Go.Proofs.Try.prog 28 n_strips_Validate r_strips_Validate c_strips_Validate = true := by kernel_rfl
theorem f_strips_Validate (t : STask) (ho : SkOk t) : Fc Go.Proofs.Try.prog 28 [skV t] (ftV (sFault t)) := by
  have h1 := f_strips_IsSet t.init t.facts ho.i
  have h2 := f_strips_IsSet t.goal t.facts ho.g
  have l5 := ho.o
  have hop : ∀ o ∈ t.ops, Fc Go.Proofs.Try.prog 47 [soV o, .int .i64 t.facts] (.int .i64 (opCode t.facts o)) := fun o h => f_strips_operator o t.facts (ho.e o h)
  by_cases hf : t.facts < 0 ∨ t.facts > 24
  · refine Fn.step mixed k_strips_Validate ?_
    repeat' (first | refine i_len rfl ?_ | refine i_s rfl ?_ | refine i_lenm rfl rfl rfl ?_ | refine sw ?_ | refine i_s0 rfl ?_ | refine i_gt rfl ?_ | refine i_gf rfl ?_ | refine i_gd rfl ?_ | refine c_t rfl ?_ | refine c_f rfl ?_ | refine jc rfl ?_ | refine ja rfl rfl ?_ | refine jb rfl rfl ?_ | refine jg rfl rfl ?_ | refine jf rfl rfl ?_ | refine jd rfl rfl ?_ | refine je rfl rfl ?_ | refine jh rfl rfl ?_ | refine i_stb rfl ?_ | refine i_alloc rfl ?_ | refine i_box rfl rfl ?_ | refine i_nv rfl ?_ | (refine sp ?_ ?_ <;> try intro h) | fail)
    all_goals first
      | exact e_ret ⟨rfl, _, rfl, congr_ft (sF1 hf)⟩
      | (exfalso; clear h1 h2 ho hop; simp at *; omega)
  have hf' : 0 ≤ t.facts ∧ t.facts ≤ 24 := by omega
  cases e1 : isSetB t.facts t.init with
  | false =>
    rw [e1] at h1
    refine Fn.step mixed k_strips_Validate ?_
    repeat' (first | refine i_len rfl ?_ | refine i_s rfl ?_ | refine i_lenm rfl rfl rfl ?_ | refine sw ?_ | refine i_s0 rfl ?_ | refine i_gt rfl ?_ | refine i_gf rfl ?_ | refine i_gd rfl ?_ | refine c_t rfl ?_ | refine c_f rfl ?_ | refine jc rfl ?_ | refine ja rfl rfl ?_ | refine jb rfl rfl ?_ | refine jg rfl rfl ?_ | refine jf rfl rfl ?_ | refine jd rfl rfl ?_ | refine je rfl rfl ?_ | refine jh rfl rfl ?_ | refine i_stb rfl ?_ | refine i_alloc rfl ?_ | refine i_box rfl rfl ?_ | refine i_nv rfl ?_ | (refine sp ?_ ?_ <;> try intro h) | refine sf rfl rfl h1 ?_ | fail)
    all_goals first
      | exact e_ret ⟨rfl, _, rfl, congr_ft (sF2 hf e1)⟩
      | (exfalso; clear h1 h2 ho hop; simp at *; omega)
  | true =>
  cases e2 : isSetB t.facts t.goal with
  | false =>
    rw [e1] at h1
    rw [e2] at h2
    refine Fn.step mixed k_strips_Validate ?_
    repeat' (first | refine i_len rfl ?_ | refine i_s rfl ?_ | refine i_lenm rfl rfl rfl ?_ | refine sw ?_ | refine i_s0 rfl ?_ | refine i_gt rfl ?_ | refine i_gf rfl ?_ | refine i_gd rfl ?_ | refine c_t rfl ?_ | refine c_f rfl ?_ | refine jc rfl ?_ | refine ja rfl rfl ?_ | refine jb rfl rfl ?_ | refine jg rfl rfl ?_ | refine jf rfl rfl ?_ | refine jd rfl rfl ?_ | refine je rfl rfl ?_ | refine jh rfl rfl ?_ | refine i_stb rfl ?_ | refine i_alloc rfl ?_ | refine i_box rfl rfl ?_ | refine i_nv rfl ?_ | (refine sp ?_ ?_ <;> try intro h) | refine sf rfl rfl h1 ?_ | refine sf rfl rfl h2 ?_ | fail)
    all_goals first
      | exact e_ret ⟨rfl, _, rfl, congr_ft (sF3 hf e1 e2)⟩
      | (exfalso; clear h1 h2 ho hop; simp at *; omega)
  | true =>
  rw [e1] at h1
  rw [e2] at h2
  by_cases h4 : t.ops.length > 40
  · refine Fn.step mixed k_strips_Validate ?_
    repeat' (first | refine i_len rfl ?_ | refine i_s rfl ?_ | refine i_lenm rfl rfl rfl ?_ | refine sw ?_ | refine i_s0 rfl ?_ | refine i_gt rfl ?_ | refine i_gf rfl ?_ | refine i_gd rfl ?_ | refine c_t rfl ?_ | refine c_f rfl ?_ | refine jc rfl ?_ | refine ja rfl rfl ?_ | refine jb rfl rfl ?_ | refine jg rfl rfl ?_ | refine jf rfl rfl ?_ | refine jd rfl rfl ?_ | refine je rfl rfl ?_ | refine jh rfl rfl ?_ | refine i_stb rfl ?_ | refine i_alloc rfl ?_ | refine i_box rfl rfl ?_ | refine i_nv rfl ?_ | (refine sp ?_ ?_ <;> try intro h) | refine sf rfl rfl h1 ?_ | refine sf rfl rfl h2 ?_ | fail)
    all_goals first
      | exact e_ret ⟨rfl, _, rfl, congr_ft (sF4 hf e1 e2 h4)⟩
      | (exfalso; clear h1 h2 ho hop; simp at *; omega)
  have hel := sF5 hf e1 e2 h4
  refine Fn.step mixed k_strips_Validate ?_
  repeat' (first | refine i_len rfl ?_ | refine i_s rfl ?_ | refine i_lenm rfl rfl rfl ?_ | refine sw ?_ | refine i_s0 rfl ?_ | refine i_gt rfl ?_ | refine i_gf rfl ?_ | refine i_gd rfl ?_ | refine c_t rfl ?_ | refine c_f rfl ?_ | refine jc rfl ?_ | refine ja rfl rfl ?_ | refine jb rfl rfl ?_ | refine jg rfl rfl ?_ | refine jf rfl rfl ?_ | refine jd rfl rfl ?_ | refine je rfl rfl ?_ | refine jh rfl rfl ?_ | refine i_stb rfl ?_ | refine i_alloc rfl ?_ | refine i_box rfl rfl ?_ | refine i_nv rfl ?_ | (refine sp ?_ ?_ <;> try intro h) | refine sf rfl rfl h1 ?_ | refine sf rfl rfl h2 ?_ | fail)
  all_goals first | (exfalso; clear h1 h2 ho hop hel; simp at *; omega) | skip
  refine c_for t.ops.length (fun k => [(1, .bptr 1792068 0), (2, .bptr 1792130 0), (39, .sl .p (t.ops.map soV)), (40, .int .i64 t.ops.length), (41, .int .i64 k)]) (fun _ => [(1792068, .box (skV t)), (1792130, .box (ftV okF))]) (fun k => ∀ j, j < k → sopBad t.facts t.ops j = none) all_zero ft fun k hk hi => ?_
  clear h1 h2
  repeat (first | refine i_len rfl ?_ | refine i_s rfl ?_ | refine i_lenm rfl rfl rfl ?_ | refine sw ?_ | refine i_s0 rfl ?_ | refine i_gt rfl ?_ | refine i_gf rfl ?_ | refine i_gd rfl ?_ | refine c_t rfl ?_ | refine c_f rfl ?_ | refine jc rfl ?_ | refine ja rfl rfl ?_ | refine jb rfl rfl ?_ | refine jg rfl rfl ?_ | refine jf rfl rfl ?_ | refine jd rfl rfl ?_ | refine je rfl rfl ?_ | refine jh rfl rfl ?_ | refine i_stb rfl ?_ | refine i_alloc rfl ?_ | refine i_box rfl rfl ?_ | refine i_nv rfl ?_)
  refine c_cond rfl (fun h => ?_) (fun h => ?_)
  · have hlt : k < t.ops.length := by simpa using h
    obtain ⟨o, hx⟩ := get_some hlt
    have hc := hop o (mem_get hx)
    have hb := sopBad_eq (n := t.facts) hx
    clear h hop ho
    repeat (first | refine i_len rfl ?_ | refine i_s rfl ?_ | refine i_lenm rfl rfl rfl ?_ | refine sw ?_ | refine i_s0 rfl ?_ | refine i_gt rfl ?_ | refine i_gf rfl ?_ | refine i_gd rfl ?_ | refine c_t rfl ?_ | refine c_f rfl ?_ | refine jc rfl ?_ | refine ja rfl rfl ?_ | refine jb rfl rfl ?_ | refine jg rfl rfl ?_ | refine jf rfl rfl ?_ | refine jd rfl rfl ?_ | refine je rfl rfl ?_ | refine jh rfl rfl ?_ | refine i_stb rfl ?_ | refine i_alloc rfl ?_ | refine i_box rfl rfl ?_ | refine i_nv rfl ?_ | refine sf rfl rfl hc ?_)
    clear hc
    refine c_cond rfl (fun h => ?_) (fun h => ?_)
    · have hne : opCode t.facts o ≠ 0 := by simpa using h
      rw [if_neg hne] at hb
      repeat' (first | refine i_len rfl ?_ | refine i_s rfl ?_ | refine i_lenm rfl rfl rfl ?_ | refine sw ?_ | refine i_s0 rfl ?_ | refine i_gt rfl ?_ | refine i_gf rfl ?_ | refine i_gd rfl ?_ | refine c_t rfl ?_ | refine c_f rfl ?_ | refine jc rfl ?_ | refine ja rfl rfl ?_ | refine jb rfl rfl ?_ | refine jg rfl rfl ?_ | refine jf rfl rfl ?_ | refine jd rfl rfl ?_ | refine je rfl rfl ?_ | refine jh rfl rfl ?_ | refine i_stb rfl ?_ | refine i_alloc rfl ?_ | refine i_box rfl rfl ?_ | refine i_nv rfl ?_ | (refine sp ?_ ?_ <;> try intro h) | fail)
      exact e_ret ⟨rfl, _, rfl, congr_ft (sF_hit hel hi hlt hb)⟩
    · have hne : opCode t.facts o = 0 := by simpa using h
      rw [if_pos hne] at hb
      repeat' (first | refine i_len rfl ?_ | refine i_s rfl ?_ | refine i_lenm rfl rfl rfl ?_ | refine sw ?_ | refine i_s0 rfl ?_ | refine i_gt rfl ?_ | refine i_gf rfl ?_ | refine i_gd rfl ?_ | refine c_t rfl ?_ | refine c_f rfl ?_ | refine jc rfl ?_ | refine ja rfl rfl ?_ | refine jb rfl rfl ?_ | refine jg rfl rfl ?_ | refine jf rfl rfl ?_ | refine jd rfl rfl ?_ | refine je rfl rfl ?_ | refine jh rfl rfl ?_ | refine i_stb rfl ?_ | refine i_alloc rfl ?_ | refine i_box rfl rfl ?_ | refine i_nv rfl ?_ | (refine sp ?_ ?_ <;> try intro h) | fail)
      exact e_for hlt (all_succ hi hb) ft
  · have hge : ¬ k < t.ops.length := by simpa using h
    repeat' (first | refine i_len rfl ?_ | refine i_s rfl ?_ | refine i_lenm rfl rfl rfl ?_ | refine sw ?_ | refine i_s0 rfl ?_ | refine i_gt rfl ?_ | refine i_gf rfl ?_ | refine i_gd rfl ?_ | refine c_t rfl ?_ | refine c_f rfl ?_ | refine jc rfl ?_ | refine ja rfl rfl ?_ | refine jb rfl rfl ?_ | refine jg rfl rfl ?_ | refine jf rfl rfl ?_ | refine jd rfl rfl ?_ | refine je rfl rfl ?_ | refine jh rfl rfl ?_ | refine i_stb rfl ?_ | refine i_alloc rfl ?_ | refine i_box rfl rfl ?_ | refine i_nv rfl ?_ | (refine sp ?_ ?_ <;> try intro h) | fail)
    exact e_ret ⟨rfl, _, rfl, congr_ft (sF_none hel fun j hj => hi j (by omega))⟩
end Hm
end
section
namespace Hm
open Go
def stepS (t : STask) (s : List Int) (op : Int) : Option (List Int) := match t.ops[op.toNat]? with
  | some o => if inclB o.pre s = true then some (updL s o.add o.del) else none
  | none => none
def runT (t : STask) : List Int → List Int → List (List Int)
  | _, [] => []
  | s, op :: r => match stepS t s op with
    | some s' => s' :: runT t s' r
    | none => []
def endS (t : STask) : List Int → List Int → Option (List Int)
  | s, [] => some s
  | s, op :: r => match stepS t s op with
    | some s' => endS t s' r
    | none => none
theorem run_get (t : STask) : ∀ (plan s : List Int), (s :: runT t s plan)[plan.length]? = endS t s plan
  | [], s => rfl
  | op :: r, s => by
    simp only [runT, endS]
    cases h : stepS t s op with
    | none => simp
    | some s' => simpa using run_get t r s'
theorem run_len_le (t : STask) : ∀ (plan s : List Int), (runT t s plan).length ≤ plan.length
  | [], s => by simp [runT]
  | op :: r, s => by
    simp only [runT]
    cases h : stepS t s op with
    | none => simp
    | some s' => have := run_len_le t r s'; simp; omega
theorem run_len_eq (t : STask) (plan s : List Int) : (runT t s plan).length = plan.length ↔ (endS t s plan).isSome = true := by
  rw [← run_get]
  have := run_len_le t plan s
  constructor
  · intro h
    rw [List.getElem?_eq_getElem (by simp; omega)]
    rfl
  · intro h
    obtain ⟨e, he⟩ := Option.isSome_iff_exists.1 h
    have := get_lt he
    simp at this
    omega
theorem run_all {t : STask} {plan s e : List Int} (h : endS t s plan = some e) : (runT t s plan).length = plan.length := (run_len_eq t plan s).2 (by rw [h]; rfl)
def worksB (t : STask) (s plan : List Int) : Bool := match endS t s plan with
  | some e => inclB t.goal e
  | none => false
def costAtS (t : STask) (op : Int) : Int := match t.ops[op.toNat]? with
  | some o => o.cost
  | none => 0
def costS (t : STask) : List Int → Int
  | [] => 0
  | op :: r => costAtS t op + costS t r
theorem costS_append (t : STask) : ∀ (a b : List Int), costS t (a ++ b) = costS t a + costS t b
  | [], b => by simp [costS]
  | x :: a, b => by simp only [List.cons_append, costS, costS_append t a b]; omega
theorem costS_snoc (t : STask) (l : List Int) (op : Int) : costS t (l ++ [op]) = costS t l + costAtS t op := by
  rw [costS_append]; simp [costS]
theorem costAtS_range {t : STask} (hv : SV t) (op : Int) : 0 ≤ costAtS t op ∧ costAtS t op ≤ 100 := by
  unfold costAtS
  split
  · rename_i o h
    have := hv.op o (mem_get h)
    exact ⟨this.c0, this.c1⟩
  · omega
theorem costS_range {t : STask} (hv : SV t) : ∀ l : List Int, 0 ≤ costS t l ∧ costS t l ≤ 100 * l.length
  | [] => by simp [costS]
  | op :: r => by
    have h1 := costAtS_range hv op
    have h2 := costS_range hv r
    simp only [costS, List.length_cons]
    omega
theorem endS_append (t : STask) : ∀ (a s b : List Int), endS t s (a ++ b) = match endS t s a with
    | some s' => endS t s' b
    | none => none
  | [], s, b => rfl
  | op :: r, s, b => by
    simp only [List.cons_append, endS]
    cases h : stepS t s op with
    | none => rfl
    | some s' => exact endS_append t r s' b
theorem stepS_set {t : STask} (hv : SV t) {s s' : List Int} {op : Int} (hs : IsSet t.facts s) (h : stepS t s op = some s') : IsSet t.facts s' := by
  unfold stepS at h
  split at h
  · rename_i o ho
    split at h
    · cases h
      exact updL_set hs (hv.op o (mem_get ho)).add
    · cases h
  · cases h
theorem endS_set {t : STask} (hv : SV t) : ∀ (plan s e : List Int), IsSet t.facts s → endS t s plan = some e → IsSet t.facts e
  | [], s, e, hs, h => by cases h; exact hs
  | op :: r, s, e, hs, h => by
    simp only [endS] at h
    cases h2 : stepS t s op with
    | none => rw [h2] at h; cases h
    | some s' => rw [h2] at h; exact endS_set hv r s' e (stepS_set hv hs h2) h
theorem stepS_op {t : STask} {s : List Int} {op : Int} {o : SOp} (ho : t.ops[op.toNat]? = some o) : stepS t s op = if inclB o.pre s = true then some (updL s o.add o.del) else none := by
  unfold stepS; rw [ho]
def In32 (l : List Int) : Prop := ∀ p ∈ l, 0 ≤ p ∧ p < 32
theorem in32_of {t : STask} (hv : SV t) {l : List Int} (h : IsSet t.facts l) : In32 l := fun p hp => by
  have := h.rng p hp
  have := hv.f1
  omega
theorem facts_word {s : List Int} (h : SS s) (h2 : In32 s) : facts (word s) = s := by
  refine ss_ext (factsTo_ss _ 32) h fun x => ?_
  unfold facts
  rw [mem_factsTo]
  constructor
  · rintro ⟨q, rfl, hq, hb⟩
    rw [word_bit q hq s h2] at hb
    exact of_decide_eq_true hb
  · intro hx
    obtain ⟨h0, h1⟩ := h2 x hx
    refine ⟨x.toNat, by omega, by omega, ?_⟩
    rw [word_bit x.toNat (by omega) s h2, show ((x.toNat : Nat) : Int) = x by omega]
    exact decide_eq_true hx
theorem incl_word {a b : List Int} (ha : In32 a) (hb : In32 b) : (word b &&& word a == word a) = inclB a b := by
  rw [Bool.eq_iff_iff]
  simp only [beq_iff_eq]
  unfold inclB
  rw [List.all_eq_true]
  constructor
  · intro h x hx
    obtain ⟨h0, h1⟩ := ha x hx
    have h2 := congrArg (fun w : W32 => w.getLsbD x.toNat) h
    simp only [BitVec.getLsbD_and, word_bit x.toNat (by omega) a ha, word_bit x.toNat (by omega) b hb] at h2
    rw [show ((x.toNat : Nat) : Int) = x by omega, decide_eq_true hx, Bool.and_true] at h2
    exact h2
  · intro h
    refine BitVec.eq_of_getLsbD_eq fun q hq => ?_
    rw [BitVec.getLsbD_and, word_bit q hq a ha, word_bit q hq b hb]
    by_cases hm : (q : Int) ∈ a
    · have := h q hm
      rw [this, decide_eq_true hm]
      rfl
    · rw [decide_eq_false hm, Bool.and_false]
theorem in32_updL {s add del : List Int} (hs : In32 s) (ha : In32 add) : In32 (updL s add del) := fun p hp => by
  rcases updL_mem.1 hp with ⟨h, _⟩ | h
  · exact hs p h
  · exact ha p h
theorem upd_word {s add del : List Int} (hs : In32 s) (ha : In32 add) (hd : In32 del) : (word s &&& ~~~ word del) ||| word add = word (updL s add del) := by
  refine BitVec.eq_of_getLsbD_eq fun q hq => ?_
  rw [BitVec.getLsbD_or, BitVec.getLsbD_and, BitVec.getLsbD_not, word_bit q hq s hs, word_bit q hq add ha, word_bit q hq del hd, word_bit q hq _ (in32_updL hs ha), Bool.eq_iff_iff]
  simp only [Bool.or_eq_true, Bool.and_eq_true, Bool.not_eq_true', decide_eq_true_eq, decide_eq_false_iff_not, updL_mem]
  constructor
  · rintro (⟨h1, _, h2⟩ | h)
    · exact .inl ⟨h1, h2⟩
    · exact .inr h
  · rintro (⟨h1, h2⟩ | h)
    · exact .inl ⟨h1, hq, h2⟩
    · exact .inr h
section
variable {t : STask}
theorem op_in32 (hv : SV t) {o : SOp} (ho : o ∈ t.ops) : In32 o.pre ∧ In32 o.add ∧ In32 o.del := ⟨in32_of hv (hv.op o ho).pre, in32_of hv (hv.op o ho).add, in32_of hv (hv.op o ho).del⟩
theorem can_word (hv : SV t) {o : SOp} (ho : o ∈ t.ops) {s : List Int} (hs : In32 s) : (mkOf o).can (word s) = inclB o.pre s := incl_word (op_in32 hv ho).1 hs
theorem next_word (hv : SV t) {o : SOp} (ho : o ∈ t.ops) {s : List Int} (hs : In32 s) : (mkOf o).next (word s) = word (updL s o.add o.del) := upd_word hs (op_in32 hv ho).2.1 (op_in32 hv ho).2.2
theorem goal_word (hv : SV t) {s : List Int} (hs : In32 s) : (wdOf t).isGoal (word s) = inclB t.goal s := incl_word (in32_of hv hv.goal) hs
theorem mem_steps (hv : SV t) {s : List Int} (hs : In32 s) {e : Nat × Int × W32} : e ∈ (wdOf t).steps (word s) ↔ ∃ o, t.ops[e.1]? = some o ∧ inclB o.pre s = true ∧ e.2.1 = o.cost ∧ e.2.2 = word (updL s o.add o.del) := by
  constructor
  · intro h
    obtain ⟨i, m, h1, h2, h3⟩ := stepsFrom_mem h
    rw [Nat.zero_add] at h2
    subst h2
    unfold wdOf at h1
    simp only [List.getElem?_map] at h1
    cases ho : t.ops[i]? with
    | none => rw [ho] at h1; cases h1
    | some o =>
      rw [ho] at h1
      cases h1
      have hm := List.mem_of_getElem? ho
      refine ⟨o, rfl, ?_, rfl, next_word hv hm hs⟩
      rw [← can_word hv hm hs]
      exact h3
  · rintro ⟨o, ho, h1, h2, h3⟩
    have hm := List.mem_of_getElem? ho
    have hk : (wdOf t).ops[e.1]? = some (mkOf o) := by
      unfold wdOf
      simp only [List.getElem?_map, ho, Option.map_some]
    have := mem_stepsFrom (s := word s) (k := 0) hk (by rw [can_word hv hm hs]; exact h1)
    rw [Nat.zero_add, next_word hv hm hs] at this
    obtain ⟨a, b, c⟩ := e
    simp only at h2 h3 this
    rw [h2, h3]
    exact this
theorem reach_set (hv : SV t) {w : W32} (h : Reach (wdOf t) w) : ∃ s, IsSet t.facts s ∧ w = word s := by
  induction h with
  | start => exact ⟨t.init, hv.init, rfl⟩
  | step _ he ih =>
    obtain ⟨s, hs, rfl⟩ := ih
    obtain ⟨o, ho, _, _, h3⟩ := (mem_steps hv (in32_of hv hs)).1 he
    exact ⟨_, updL_set hs (hv.op o (List.mem_of_getElem? ho)).add, h3⟩
theorem reach_facts (hv : SV t) {w : W32} (h : Reach (wdOf t) w) : IsSet t.facts (facts w) := by
  obtain ⟨s, hs, rfl⟩ := reach_set hv h
  rw [facts_word hs.ss (in32_of hv hs)]
  exact hs
theorem way_of_plan (hv : SV t) : ∀ (plan s e : List Int), IsSet t.facts s → (∀ op ∈ plan, 0 ≤ op ∧ op < t.ops.length) → endS t s plan = some e → inclB t.goal e = true → WayTo (wdOf t) (word s) (costS t plan)
  | [], s, e, hs, _, he, hg => by
    cases he
    exact .goal ((goal_word hv (in32_of hv hs)).trans hg)
  | op :: r, s, e, hs, hr, he, hg => by
    obtain ⟨h0, h1⟩ := hr op (by simp)
    have hlt : op.toNat < t.ops.length := by omega
    have ho : t.ops[op.toNat]? = some t.ops[op.toNat] := List.getElem?_eq_getElem hlt
    have he2 : (match stepS t s op with | some s' => endS t s' r | none => none) = some e := he
    rw [stepS_op ho] at he2
    by_cases hp : inclB (t.ops[op.toNat]).pre s = true
    · rw [if_pos hp] at he2
      have hm := List.mem_of_getElem? ho
      have ih := way_of_plan hv r _ e (updL_set hs (hv.op _ hm).add) (fun x hx => hr x (by simp [hx])) he2 hg
      have hst := (mem_steps hv (in32_of hv hs) (e := (op.toNat, (t.ops[op.toNat]).cost, word (updL s (t.ops[op.toNat]).add (t.ops[op.toNat]).del)))).2 ⟨_, ho, hp, rfl, rfl⟩
      have := WayTo.step hst ih
      have hc : costAtS t op = (t.ops[op.toNat]).cost := by unfold costAtS; rw [ho]
      show WayTo _ _ (costAtS t op + costS t r)
      rw [hc]
      exact this
    · rw [if_neg hp] at he2
      cases he2
end
end Hm
end
section
namespace Hm
open Go
set_option maxRecDepth 100000
set_option maxHeartbeats 2000000
def c_strips_Steps : Cmd :=
 (qS [qq 4 (.alloc 2880258 (.agg [.int .i64 0, .int .i64 0]))]
 (qT (qS [qm 7 1, qn 8 7, qv 9 .gtr [] 8 60]
 (.cond (.t 9) (.seq (.ops [qq 10 (.build [.int .i64 0, .int .i64 0] [(0 , 1 , .c (.int .i64 2)), (1 , 1 , .c (.int .i64 (-5)))]), qs 2 4 10]) .ret) .skip))
 (qT (qS [qm 11 1, qn 12 11, qc 13 0]
 (.block 0 (.loop (qS [qu 14 .lss [] 13 12]
 (qT (.cond (.t 14) .skip (.exit 0))
 (qT (.block 1 (qS [qi 15 1 11 13, ql 16 1 15, qm 6 16]
 (qS [qm 17 6, qv 18 .lss [] 17 0, qm 19 18, qg 20 19 false (.mov (.t 6)), qg 21 19 false (.mov (.t 0)), qg 22 19 false (.bin .geq false [] (.t 20) (.t 21)), qq 23 (.pick (.t 19) (.c (.bool true)) (.t 22))]
 (.cond (.t 23) (.seq (.ops [qq 24 (.build [.int .i64 0, .int .i64 0] [(0 , 1 , .c (.int .i64 3)), (1 , 1 , .c (.int .i64 (-6)))]), qs 2 4 24]) .ret) .skip))))
 (.ops [qv 25 .add [] 13 1, qm 13 25])))))))
 (.seq (.ops [qq 26 (.build [.int .i64 0, .int .i64 0] []), qs 2 4 26]) .ret))))
def r_strips_Steps : List RVar := [.cell true 2 4]
def n_strips_Steps : Nat := 27
theorem k_strips_Steps : chkFn Go.Proofs.Try.prog 45 n_strips_Steps r_strips_Steps c_strips_Steps = true := by kernel_rfl
theorem f_strips_Steps (n : Nat) (plan : List Int) (hl : plan.length ≤ 140737488355328) : Fc Go.Proofs.Try.prog 45 [.int .i64 n, .sl .p (plan.map i64V)] (ftV (stepsF n plan)) := by
  refine Fn.step mixed k_strips_Steps ?_
  repeat' (first | refine i_len rfl ?_ | refine i_s rfl ?_ | refine i_lenm rfl rfl rfl ?_ | refine sw ?_ | refine i_s0 rfl ?_ | refine i_gt rfl ?_ | refine i_gf rfl ?_ | refine i_gd rfl ?_ | refine c_t rfl ?_ | refine c_f rfl ?_ | refine jc rfl ?_ | refine ja rfl rfl ?_ | refine jb rfl rfl ?_ | refine jg rfl rfl ?_ | refine jf rfl rfl ?_ | refine jd rfl rfl ?_ | refine je rfl rfl ?_ | refine jh rfl rfl ?_ | refine i_stb rfl ?_ | refine i_alloc rfl ?_ | refine i_box rfl rfl ?_ | refine i_nv rfl ?_ | (refine sp ?_ ?_ <;> try intro h) | fail)
  · exact e_ret ⟨rfl, _, rfl, congr_ft (by rw [stepsF, if_pos (by grind)])⟩
  have h60 : ¬ plan.length > 60 := by grind
  clear h
  refine c_for plan.length (fun k => [(0, .int .i64 n), (4, .bptr 2880258 0), (11, .sl .p (plan.map i64V)), (12, .int .i64 plan.length), (13, .int .i64 k)]) (fun _ => [(2880258, .box (ftV okF))]) (fun k => (plan.take k).any (badStep n) = false) (by simp) ft fun k hk hi => ?_
  repeat (first | refine i_len rfl ?_ | refine i_s rfl ?_ | refine i_lenm rfl rfl rfl ?_ | refine sw ?_ | refine i_s0 rfl ?_ | refine i_gt rfl ?_ | refine i_gf rfl ?_ | refine i_gd rfl ?_ | refine c_t rfl ?_ | refine c_f rfl ?_ | refine jc rfl ?_ | refine ja rfl rfl ?_ | refine jb rfl rfl ?_ | refine jg rfl rfl ?_ | refine jf rfl rfl ?_ | refine jd rfl rfl ?_ | refine je rfl rfl ?_ | refine jh rfl rfl ?_ | refine i_stb rfl ?_ | refine i_alloc rfl ?_ | refine i_box rfl rfl ?_ | refine i_nv rfl ?_)
  refine c_cond rfl (fun h => ?_) (fun h => ?_)
  · have hlt : k < plan.length := by simpa using h
    obtain ⟨x, hx⟩ := get_some hlt
    clear h
    repeat' (first | refine i_len rfl ?_ | refine i_s rfl ?_ | refine i_lenm rfl rfl rfl ?_ | refine sw ?_ | refine i_s0 rfl ?_ | refine i_gt rfl ?_ | refine i_gf rfl ?_ | refine i_gd rfl ?_ | refine c_t rfl ?_ | refine c_f rfl ?_ | refine jc rfl ?_ | refine ja rfl rfl ?_ | refine jb rfl rfl ?_ | refine jg rfl rfl ?_ | refine jf rfl rfl ?_ | refine jd rfl rfl ?_ | refine je rfl rfl ?_ | refine jh rfl rfl ?_ | refine i_stb rfl ?_ | refine i_alloc rfl ?_ | refine i_box rfl rfl ?_ | refine i_nv rfl ?_ | (refine sp ?_ ?_ <;> try intro h) | fail)
    all_goals first
      | refine e_for hlt ?_ ft
        rw [take_succ_get hx, List.any_append, hi]
        simp only [List.any_cons, List.any_nil, Bool.or_false, Bool.false_or]
        unfold badStep; clear hi; grind
      | refine e_ret ⟨rfl, _, rfl, congr_ft ?_⟩
        rw [stepsF, if_neg h60, if_pos]
        exact List.any_eq_true.2 ⟨x, mem_get hx, by unfold badStep; clear hi; grind⟩
  · have hge : ¬ k < plan.length := by simpa using h
    rw [List.take_of_length_le (by omega)] at hi
    repeat' (first | refine i_len rfl ?_ | refine i_s rfl ?_ | refine i_lenm rfl rfl rfl ?_ | refine sw ?_ | refine i_s0 rfl ?_ | refine i_gt rfl ?_ | refine i_gf rfl ?_ | refine i_gd rfl ?_ | refine c_t rfl ?_ | refine c_f rfl ?_ | refine jc rfl ?_ | refine ja rfl rfl ?_ | refine jb rfl rfl ?_ | refine jg rfl rfl ?_ | refine jf rfl rfl ?_ | refine jd rfl rfl ?_ | refine je rfl rfl ?_ | refine jh rfl rfl ?_ | refine i_stb rfl ?_ | refine i_alloc rfl ?_ | refine i_box rfl rfl ?_ | refine i_nv rfl ?_ | (refine sp ?_ ?_ <;> try intro h) | fail)
    exact e_ret ⟨rfl, _, rfl, congr_ft (by rw [stepsF, if_neg h60, hi, if_neg (by simp)]; rfl)⟩
def plFault (t : STask) (plan : List Int) : Flt := if sFault t = okF then stepsF t.ops.length plan else sFault t
theorem plFault_ok {t : STask} {plan : List Int} (h : plFault t plan = okF) : SV t ∧ plan.length ≤ 60 ∧ (∀ x ∈ plan, 0 ≤ x ∧ x < t.ops.length) ∧ sFault t = okF := by
  unfold plFault at h
  split at h
  · rename_i h1
    obtain ⟨h2, h3⟩ := stepsF_ok h
    exact ⟨sFault_ok h1, h2, h3, h1⟩
  · rename_i h1; exact absurd h h1
theorem plFault_iff (t : STask) (plan : List Int) : (plFault t plan).code = 0 ↔ plFault t plan = okF := by
  unfold plFault
  split
  · exact stepsF_iff _ _
  · exact sFault_iff t
def c_strips_PlanFault : Cmd :=
 (qS [qx 2 1472132 4 0, qq 4 (.alloc 1472258 (.agg [.int .i64 0, .int .i64 0]))]
 (qT (qS [qL 6 4 2, qk 7 28 [6], qq 5 (.alloc 1472322 (.agg [.int .i64 0, .int .i64 0])), qs 2 5 7]
 (qS [qL 8 2 5, qq 9 (.build [.int .i64 0, .int .i64 0] []), qq 10 (.bin .neq true [.i, .i] (.t 8) (.t 9))]
 (.cond (.t 10) (.seq (.ops [qL 11 2 5, qs 2 4 11]) .ret) .skip)))
 (.seq (.ops [qf 12 3 2, ql 13 1 12, qn 14 13, qm 15 1, qk 16 45 [14, 15], qs 2 4 16]) .ret)))
def r_strips_PlanFault : List RVar := [.cell true 2 4]
def n_strips_PlanFault : Nat := 17
theorem k_strips_PlanFault : chkFn Go.Proofs.Try.prog 23 n_strips_PlanFault r_strips_PlanFault c_strips_PlanFault = true := by kernel_rfl
theorem f_strips_PlanFault (t : STask) (ho : SkOk t) (plan : List Int) (hl : plan.length ≤ 140737488355328) : Fc Go.Proofs.Try.prog 23 [skV t, .sl .p (plan.map i64V)] (ftV (plFault t plan)) := by
  have l5 := ho.o
  refine Fn.step mixed k_strips_PlanFault ?_
  repeat' (first | refine i_len rfl ?_ | refine i_s rfl ?_ | refine i_lenm rfl rfl rfl ?_ | refine sw ?_ | refine i_s0 rfl ?_ | refine i_gt rfl ?_ | refine i_gf rfl ?_ | refine i_gd rfl ?_ | refine c_t rfl ?_ | refine c_f rfl ?_ | refine jc rfl ?_ | refine ja rfl rfl ?_ | refine jb rfl rfl ?_ | refine jg rfl rfl ?_ | refine jf rfl rfl ?_ | refine jd rfl rfl ?_ | refine je rfl rfl ?_ | refine jh rfl rfl ?_ | refine i_stb rfl ?_ | refine i_alloc rfl ?_ | refine i_box rfl rfl ?_ | refine i_nv rfl ?_ | (refine sp ?_ ?_ <;> try intro h) | refine sf rfl rfl (f_strips_Validate t ho) ?_ | refine sf rfl rfl (f_strips_Steps t.ops.length plan hl) ?_ | fail)
  · exact e_ret ⟨rfl, _, rfl, congr_ft (by rw [plFault, if_neg (ne_ok h)])⟩
  · exact e_ret ⟨rfl, _, rfl, congr_ft (by rw [plFault, if_pos (eq_ok h)])⟩
def c_strips_Contains : Cmd :=
 (qS [qb 4 false]
 (qS [qc 5 0]
 (qT (qS [qm 8 1, qn 9 8, qc 10 0]
 (.block 0 (.loop (qS [qu 11 .lss [] 10 9]
 (qT (.cond (.t 11) .skip (.exit 0))
 (qT (.block 1 (qS [qi 12 1 8 10, ql 13 1 12, qm 7 13]
 (qT (.block 2 (.loop (qT (qS [qm 14 5, qm 15 0, qn 16 15, qu 17 .lss [] 14 16, qm 18 17, qg 19 18 true (.mov (.t 0)), qg 20 18 true (.mov (.t 5)), qg 21 18 true (.iaddr 1 (.t 19) (.t 20)), qg 22 18 true (.load false 1 (.t 21)), qg 23 18 true (.mov (.t 7)), qg 24 18 true (.bin .lss false [] (.t 22) (.t 23)), qq 25 (.pick (.t 18) (.t 24) (.c (.bool false)))]
 (.cond (.t 25) .skip (.exit 2)))
 (.block 3 (.ops [qm 26 5, qv 27 .add [] 26 1, qm 5 27])))))
 (qS [qm 28 5, qm 29 0, qn 30 29, qu 31 .eql [.i] 28 30, qm 32 31, qg 33 32 false (.mov (.t 0)), qg 34 32 false (.mov (.t 5)), qg 35 32 false (.iaddr 1 (.t 33) (.t 34)), qg 36 32 false (.load false 1 (.t 35)), qg 37 32 false (.mov (.t 7)), qg 38 32 false (.bin .neq false [.i] (.t 36) (.t 37)), qq 39 (.pick (.t 32) (.c (.bool true)) (.t 38))]
 (.cond (.t 39) (.seq (.ops [qb 4 false]) .ret) .skip)))))
 (.ops [qv 40 .add [] 10 1, qm 10 40])))))))
 (.seq (.ops [qb 4 true]) .ret))))
def r_strips_Contains : List RVar := [.tmp 4]
def n_strips_Contains : Nat := 41
theorem k_strips_Contains : chkFn Go.Proofs.Try.prog 27 n_strips_Contains r_strips_Contains c_strips_Contains = true := by kernel_rfl
theorem f_strips_Contains (s part : List Int) (hl : s.length ≤ 140737488355328) (hl2 : part.length ≤ 140737488355328) (hs : SS s) (hp : SS part) : Fc Go.Proofs.Try.prog 27 [.sl .p (s.map i64V), .sl .p (part.map i64V)] (.bool (inclB part s)) := by
  refine Fn.step mixed k_strips_Contains ?_
  repeat' (first | refine i_len rfl ?_ | refine i_s rfl ?_ | refine i_lenm rfl rfl rfl ?_ | refine sw ?_ | refine i_s0 rfl ?_ | refine i_gt rfl ?_ | refine i_gf rfl ?_ | refine i_gd rfl ?_ | refine c_t rfl ?_ | refine c_f rfl ?_ | refine jc rfl ?_ | refine ja rfl rfl ?_ | refine jb rfl rfl ?_ | refine jg rfl rfl ?_ | refine jf rfl rfl ?_ | refine jd rfl rfl ?_ | refine je rfl rfl ?_ | refine jh rfl rfl ?_ | refine i_stb rfl ?_ | refine i_alloc rfl ?_ | refine i_box rfl rfl ?_ | refine i_nv rfl ?_ | (refine sp ?_ ?_ <;> try intro h) | fail)
  refine c_lp (ι := Nat × Nat) (fun p => [(0, .sl .p (s.map i64V)), (5, .int .i64 p.2), (8, .sl .p (part.map i64V)), (9, .int .i64 part.length), (10, .int .i64 p.1)]) (fun _ => [])
    (fun p => p.1 ≤ part.length ∧ p.2 ≤ s.length ∧ (∀ j, j < p.1 → ∀ y, part[j]? = some y → y ∈ s) ∧ (∀ j x, j < p.2 → s[j]? = some x → ∀ k' y, p.1 ≤ k' → part[k']? = some y → x < y)) (fun p => part.length - p.1) (0, 0) ⟨Nat.zero_le _, Nat.zero_le _, all_zero, fun j x h => by omega⟩ ft fun p hi => ?_
  obtain ⟨k, i⟩ := p
  obtain ⟨h1, h2, h3, h4⟩ := hi
  simp only at h1 h2 h3 h4
  repeat (first | refine i_len rfl ?_ | refine i_s rfl ?_ | refine i_lenm rfl rfl rfl ?_ | refine sw ?_ | refine i_s0 rfl ?_ | refine i_gt rfl ?_ | refine i_gf rfl ?_ | refine i_gd rfl ?_ | refine c_t rfl ?_ | refine c_f rfl ?_ | refine jc rfl ?_ | refine ja rfl rfl ?_ | refine jb rfl rfl ?_ | refine jg rfl rfl ?_ | refine jf rfl rfl ?_ | refine jd rfl rfl ?_ | refine je rfl rfl ?_ | refine jh rfl rfl ?_ | refine i_stb rfl ?_ | refine i_alloc rfl ?_ | refine i_box rfl rfl ?_ | refine i_nv rfl ?_)
  refine c_cond rfl (fun h => ?_) (fun h => ?_)
  · have hlt : k < part.length := by simpa using h
    obtain ⟨y, hy⟩ := get_some hlt
    clear h
    repeat (first | refine i_len rfl ?_ | refine i_s rfl ?_ | refine i_lenm rfl rfl rfl ?_ | refine sw ?_ | refine i_s0 rfl ?_ | refine i_gt rfl ?_ | refine i_gf rfl ?_ | refine i_gd rfl ?_ | refine c_t rfl ?_ | refine c_f rfl ?_ | refine jc rfl ?_ | refine ja rfl rfl ?_ | refine jb rfl rfl ?_ | refine jg rfl rfl ?_ | refine jf rfl rfl ?_ | refine jd rfl rfl ?_ | refine je rfl rfl ?_ | refine jh rfl rfl ?_ | refine i_stb rfl ?_ | refine i_alloc rfl ?_ | refine i_box rfl rfl ?_ | refine i_nv rfl ?_)
    refine c_lp (ι := Nat) (fun i => [(0, .sl .p (s.map i64V)), (5, .int .i64 i), (7, .int .i64 y), (8, .sl .p (part.map i64V)), (9, .int .i64 part.length), (10, .int .i64 k)]) (fun _ => [])
      (fun i => i ≤ s.length ∧ (∀ j x, j < i → s[j]? = some x → ∀ k' y, k ≤ k' → part[k']? = some y → x < y)) (fun i => s.length - i) i ⟨h2, h4⟩ ft fun i hi => ?_
    clear h2 h4
    obtain ⟨h2, h4⟩ := hi
    by_cases hil : i < s.length
    · obtain ⟨x, hx⟩ := get_some hil
      have hil' : (i : Int) < s.length := by omega
      by_cases hxy : x < y
      · repeat' (first | refine i_len rfl ?_ | refine i_s rfl ?_ | refine i_lenm rfl rfl rfl ?_ | refine sw ?_ | refine i_s0 rfl ?_ | refine i_gt rfl ?_ | refine i_gf rfl ?_ | refine i_gd rfl ?_ | refine c_t rfl ?_ | refine c_f rfl ?_ | refine jc rfl ?_ | refine ja rfl rfl ?_ | refine jb rfl rfl ?_ | refine jg rfl rfl ?_ | refine jf rfl rfl ?_ | refine jd rfl rfl ?_ | refine je rfl rfl ?_ | refine jh rfl rfl ?_ | refine i_stb rfl ?_ | refine i_alloc rfl ?_ | refine i_box rfl rfl ?_ | refine i_nv rfl ?_ | (refine sp ?_ ?_ <;> try intro h) | fail)
        all_goals first
          | (refine e_lp (i + 1) ⟨by omega, fun j x' hj hx' k' y' hk' hy' => ?_⟩ (by omega) ft
             by_cases e : j = i
             · subst e
               rw [hx] at hx'; cases hx'
               by_cases e2 : k' = k
               · subst e2; rw [hy] at hy'; cases hy'; exact hxy
               · have := ss_idx hp hy hy' (by omega); omega
             · exact h4 j x' (by omega) hx' k' y' hk' hy')
          | (exfalso; clear h3 h4 hs hp; simp at *; omega)
      · by_cases e : x = y
        · subst e
          repeat' (first | refine i_len rfl ?_ | refine i_s rfl ?_ | refine i_lenm rfl rfl rfl ?_ | refine sw ?_ | refine i_s0 rfl ?_ | refine i_gt rfl ?_ | refine i_gf rfl ?_ | refine i_gd rfl ?_ | refine c_t rfl ?_ | refine c_f rfl ?_ | refine jc rfl ?_ | refine ja rfl rfl ?_ | refine jb rfl rfl ?_ | refine jg rfl rfl ?_ | refine jf rfl rfl ?_ | refine jd rfl rfl ?_ | refine je rfl rfl ?_ | refine jh rfl rfl ?_ | refine i_stb rfl ?_ | refine i_alloc rfl ?_ | refine i_box rfl rfl ?_ | refine i_nv rfl ?_ | (refine sp ?_ ?_ <;> try intro h) | fail)
          all_goals first
            | (refine e_lp (k + 1, i) ⟨by simp only; omega, h2, ?_, fun j x' hj hx' k' y' hk' hy' => h4 j x' hj hx' k' y' (by simp only at hk'; omega) hy'⟩ (by simp only; omega) ft
               intro j hj y' hy'
               by_cases e2 : j = k
               · subst e2; rw [hy] at hy'; cases hy'; exact mem_get hx
               · exact h3 j (by simp only at hj; omega) y' hy')
            | (exfalso; clear h3 h4 hs hp; simp at *; omega)
            | (exfalso; clear h3 h4 hs hp; simp at *; done)
        · have hnm : y ∉ s := fun hm => by
            obtain ⟨j, hj, e2⟩ := List.getElem_of_mem hm
            have hg : s[j]? = some y := by rw [← e2]; exact List.getElem?_eq_getElem hj
            by_cases c : j < i
            · have := h4 j y c hg k y (Nat.le_refl _) hy; omega
            · by_cases c2 : j = i
              · subst c2; rw [hx] at hg; cases hg; exact e rfl
              · have := ss_idx hs hx hg (by omega); omega
          repeat' (first | refine i_len rfl ?_ | refine i_s rfl ?_ | refine i_lenm rfl rfl rfl ?_ | refine sw ?_ | refine i_s0 rfl ?_ | refine i_gt rfl ?_ | refine i_gf rfl ?_ | refine i_gd rfl ?_ | refine c_t rfl ?_ | refine c_f rfl ?_ | refine jc rfl ?_ | refine ja rfl rfl ?_ | refine jb rfl rfl ?_ | refine jg rfl rfl ?_ | refine jf rfl rfl ?_ | refine jd rfl rfl ?_ | refine je rfl rfl ?_ | refine jh rfl rfl ?_ | refine i_stb rfl ?_ | refine i_alloc rfl ?_ | refine i_box rfl rfl ?_ | refine i_nv rfl ?_ | (refine sp ?_ ?_ <;> try intro h) | fail)
          all_goals first
            | (refine e_ret ⟨rfl, _, rfl, congrArg V.bool ?_⟩
               unfold inclB
               rw [List.all_eq_false]
               exact ⟨y, mem_get hy, by simpa using hnm⟩)
            | (exfalso; clear h3 h4 hs hp hnm; simp at *; omega)
            | (exfalso; clear h3 h4 hs hp hnm; simp at *; done)
    · have hnm : y ∉ s := fun hm => by
        obtain ⟨j, hj, e2⟩ := List.getElem_of_mem hm
        have hg : s[j]? = some y := by rw [← e2]; exact List.getElem?_eq_getElem hj
        have := h4 j y (by omega) hg k y (Nat.le_refl _) hy
        omega
      have hie : i = s.length := by omega
      repeat' (first | refine i_len rfl ?_ | refine i_s rfl ?_ | refine i_lenm rfl rfl rfl ?_ | refine sw ?_ | refine i_s0 rfl ?_ | refine i_gt rfl ?_ | refine i_gf rfl ?_ | refine i_gd rfl ?_ | refine c_t rfl ?_ | refine c_f rfl ?_ | refine jc rfl ?_ | refine ja rfl rfl ?_ | refine jb rfl rfl ?_ | refine jg rfl rfl ?_ | refine jf rfl rfl ?_ | refine jd rfl rfl ?_ | refine je rfl rfl ?_ | refine jh rfl rfl ?_ | refine i_stb rfl ?_ | refine i_alloc rfl ?_ | refine i_box rfl rfl ?_ | refine i_nv rfl ?_ | (refine sp ?_ ?_ <;> try intro h) | fail)
      all_goals first
        | (refine e_ret ⟨rfl, _, rfl, congrArg V.bool ?_⟩
           unfold inclB
           rw [List.all_eq_false]
           exact ⟨y, mem_get hy, by simpa using hnm⟩)
        | (exfalso; clear h3 h4 hs hp hnm; simp at *; omega)
        | (exfalso; clear h3 h4 hs hp hnm; simp at *; done)
  · have hge : ¬ k < part.length := by simpa using h
    repeat' (first | refine i_len rfl ?_ | refine i_s rfl ?_ | refine i_lenm rfl rfl rfl ?_ | refine sw ?_ | refine i_s0 rfl ?_ | refine i_gt rfl ?_ | refine i_gf rfl ?_ | refine i_gd rfl ?_ | refine c_t rfl ?_ | refine c_f rfl ?_ | refine jc rfl ?_ | refine ja rfl rfl ?_ | refine jb rfl rfl ?_ | refine jg rfl rfl ?_ | refine jf rfl rfl ?_ | refine jd rfl rfl ?_ | refine je rfl rfl ?_ | refine jh rfl rfl ?_ | refine i_stb rfl ?_ | refine i_alloc rfl ?_ | refine i_box rfl rfl ?_ | refine i_nv rfl ?_ | (refine sp ?_ ?_ <;> try intro h) | fail)
    refine e_ret ⟨rfl, _, rfl, congrArg V.bool ?_⟩
    unfold inclB
    rw [List.all_eq_true]
    intro y hy
    obtain ⟨j, hj, e⟩ := List.getElem_of_mem hy
    exact decide_eq_true (h3 j (by omega) y (by rw [← e]; exact List.getElem?_eq_getElem hj))
end Hm
end
section
namespace Hm
open Go
def keepT (t : STask) : List Int → List Int → List Int
  | _, [] => []
  | s, op :: r => match stepS t s op with
    | some s' => op :: keepT t s' r
    | none => keepT t s r
theorem keepT_sub (t : STask) : ∀ (r s : List Int), (keepT t s r).Sublist r
  | [], s => List.Sublist.refl _
  | op :: r, s => by
    simp only [keepT]
    cases h : stepS t s op with
    | some s' => exact (keepT_sub t r s').cons_cons op
    | none => exact (keepT_sub t r s).cons op
def omitL (t : STask) (plan : List Int) (i : Nat) : List Int := match endS t t.init (plan.take i) with
  | some s => plan.take i ++ keepT t s (plan.drop (i + 1))
  | none => plan.take i
theorem drop_split {l : List Int} {i : Nat} (h : i < l.length) : l = l.take i ++ l[i] :: l.drop (i + 1) := by
  rw [← List.drop_eq_getElem_cons h, List.take_append_drop]
theorem omitL_sub (t : STask) {plan : List Int} {i : Nat} (h : i < plan.length) : (omitL t plan i).Sublist plan := by
  have hs : (plan.take i ++ keepT t (((endS t t.init (plan.take i)).getD [])) (plan.drop (i + 1))).Sublist plan := by
    conv => rhs; rw [drop_split h]
    exact (List.Sublist.refl _).append ((keepT_sub t _ _).cons _)
  unfold omitL
  cases he : endS t t.init (plan.take i) with
  | some s => rw [he] at hs; exact hs
  | none => exact List.take_sublist _ _
theorem omitL_len (t : STask) {plan : List Int} {i : Nat} (h : i < plan.length) : (omitL t plan i).length < plan.length := by
  unfold omitL
  cases he : endS t t.init (plan.take i) with
  | some s =>
    have := (keepT_sub t (plan.drop (i + 1)) s).length_le
    simp at this ⊢
    omega
  | none => simp; omega
def redL (t : STask) (p : List Int) (i : Nat) : List Int :=
  if h : i < p.length then (if worksB t t.init (omitL t p i) = true then redL t (omitL t p i) i else redL t p (i + 1)) else p
termination_by p.length - i
decreasing_by
  · have := omitL_len t h; omega
  · omega
theorem redL_end {t : STask} {p : List Int} {i : Nat} (h : ¬ i < p.length) : redL t p i = p := by rw [redL, dif_neg h]
theorem redL_cut {t : STask} {p : List Int} {i : Nat} (h : i < p.length) (hw : worksB t t.init (omitL t p i) = true) : redL t p i = redL t (omitL t p i) i := by rw [redL, dif_pos h, if_pos hw]
theorem redL_next {t : STask} {p : List Int} {i : Nat} (h : i < p.length) (hw : worksB t t.init (omitL t p i) = false) : redL t p i = redL t p (i + 1) := by rw [redL, dif_pos h, if_neg (by simp [hw])]
theorem redL_ind (t : STask) (Q : List Int → Prop) (hQ : ∀ p i, i < p.length → Q p → worksB t t.init (omitL t p i) = true → Q (omitL t p i)) : ∀ (n : Nat) (p : List Int) (i : Nat), p.length - i ≤ n → Q p → Q (redL t p i)
  | 0, p, i, h, hp => by rw [redL_end (by omega)]; exact hp
  | n + 1, p, i, h, hp => by
    by_cases hi : i < p.length
    · cases hw : worksB t t.init (omitL t p i) with
      | true =>
        rw [redL_cut hi hw]
        have := omitL_len t hi
        exact redL_ind t Q hQ n _ i (by omega) (hQ p i hi hp hw)
      | false =>
        rw [redL_next hi hw]
        exact redL_ind t Q hQ n p (i + 1) (by omega) hp
    · rw [redL_end hi]; exact hp
theorem redL_sub (t : STask) (p : List Int) (i : Nat) : (redL t p i).Sublist p :=
  redL_ind t (fun q => q.Sublist p) (fun q j hj hq _ => (omitL_sub t hj).trans hq) _ p i (Nat.le_refl _) (List.Sublist.refl _)
theorem redL_works (t : STask) (p : List Int) (i : Nat) (h : worksB t t.init p = true) : worksB t t.init (redL t p i) = true :=
  redL_ind t (fun q => worksB t t.init q = true) (fun q j hj _ hw => hw) _ p i (Nat.le_refl _) h
theorem costS_sub {t : STask} (hv : SV t) {a b : List Int} (h : a.Sublist b) : costS t a ≤ costS t b := by
  induction h with
  | slnil => exact Int.le_refl _
  | cons x _ ih => have := costAtS_range hv x; simp only [costS]; omega
  | cons_cons x _ ih => simp only [costS]; omega
abbrev bent := W32 × Int
def bE (p : W32 × Int) : V := .agg [.sl .p ((facts p.1).map i64V), .int .i64 p.2]
def lbT (D : W32 → Int) (l : List W32) : List (W32 × Int) := (l.filter fun s => decide (0 < D s)).map fun s => (s, D s)
theorem lbT_snoc (D : W32 → Int) (l : List W32) (s : W32) : lbT D (l ++ [s]) = lbT D l ++ (if 0 < D s then [(s, D s)] else []) := by
  unfold lbT
  rw [List.filter_append, List.map_append]
  congr 1
  by_cases c : 0 < D s
  · rw [if_pos c, List.filter_cons, if_pos (by simpa using c)]; rfl
  · rw [if_neg c, List.filter_cons, if_neg (by simpa using c)]; rfl
theorem lbT_len (D : W32 → Int) (l : List W32) : (lbT D l).length ≤ l.length := by
  unfold lbT
  rw [List.length_map]
  exact List.length_filter_le _ _
def minS (D : W32 → Int) (n : Int) (e : Nat × Int × W32) : Int := if e.2.1 + D e.2.2 < n then e.2.1 + D e.2.2 else n
def leastF (w : Wd) (D : W32 → Int) (s : W32) : Int := if w.isGoal s = true then 0 else (w.steps s).foldl (minS D) INF
theorem foldl_min (D : W32 → Int) (d : Int) : ∀ (l : List (Nat × Int × W32)) (n : Int), d ≤ n → (∀ e ∈ l, d ≤ e.2.1 + D e.2.2) → d ≤ l.foldl (minS D) n
  | [], n, h, _ => h
  | e :: r, n, h, h2 => by
    refine foldl_min D d r (minS D n e) ?_ fun e he => h2 e (by simp [he])
    have := h2 e (by simp)
    unfold minS
    split <;> omega
theorem least_holds {w : Wd} {D : W32 → Int} (hD : ∀ s, Least w s (D s)) (hc : CostOk w) {s : W32} (h : 0 < D s) : D s ≤ leastF w D s := by
  have hg : ¬ w.isGoal s = true := fun hg => by
    have := (hD s).low 0 (.goal hg)
    omega
  unfold leastF
  rw [if_neg hg]
  refine foldl_min D (D s) _ INF (hD s).le fun e he => ?_
  rcases (hD e.2.2).att with h1 | h1
  · have := (hD s).le
    have := (step_cost hc he).1
    omega
  · exact (hD s).low _ (.step he h1)
theorem least_nn {w : Wd} {D : W32 → Int} (hD : ∀ s, Least w s (D s)) (hc : CostOk w) (s : W32) : 0 ≤ D s := by
  rcases (hD s).att with h | h
  · rw [h]; decide
  · exact way_nn hc h
structure TabOk (n : Int) (T : List (W32 × Int)) : Prop where
  len : T.length ≤ 2000
  set : ∀ p ∈ T, IsSet n (facts p.1)
  ord : T.Pairwise fun p q => wOrd p.1 q.1 < 0
  rng : ∀ p ∈ T, 1 ≤ p.2 ∧ p.2 ≤ INF
theorem TabOk.nd {n : Int} {T : List (W32 × Int)} (h : TabOk n T) : (T.map Prod.fst).Nodup := by
  refine List.pairwise_map.2 (h.ord.imp fun {a b} h e => ?_)
  rw [e, wOrd_zero.2 rfl] at h
  omega
theorem lbT_ok {t : STask} (hv : SV t) {D : W32 → Int} (hD : ∀ s, Least (wdOf t) s (D s)) {l : List W32} (hl : IsStates (wdOf t) l) : TabOk t.facts (lbT D l) := by
  obtain ⟨h1, h2, h3, h4⟩ := hl
  refine ⟨Nat.le_trans (lbT_len D l) h2, fun p hp => ?_, ?_, fun p hp => ?_⟩
  · obtain ⟨s, hs, rfl⟩ := List.mem_map.1 hp
    exact reach_facts hv ((h3 s).1 (List.mem_filter.1 hs).1)
  · unfold lbT
    refine List.pairwise_map.2 (List.Pairwise.sublist List.filter_sublist ?_)
    have h5 : l.Pairwise fun x y => ¬ wOrd y x < 0 ∧ x ≠ y := List.pairwise_and_iff.2 ⟨h4, h1⟩
    refine h5.imp fun {a b} h => ?_
    have e1 := wOrd_neg a b
    have e2 : wOrd a b ≠ 0 := fun e => h.2 (wOrd_zero.1 e)
    have := h.1
    show wOrd a b < 0
    omega
  · obtain ⟨s, hs, rfl⟩ := List.mem_map.1 hp
    have := of_decide_eq_true (List.mem_filter.1 hs).2
    exact ⟨by show 1 ≤ D s; omega, (hD s).le⟩
def tabV (T : List (W32 × Int)) (s : W32) : Int := ((T.find? fun p => p.1 == s).map Prod.snd).getD 0
theorem lbT_val {w : Wd} {D : W32 → Int} (hD : ∀ s, Least w s (D s)) (hc : CostOk w) {l : List W32} {s : W32} (hs : s ∈ l) : tabV (lbT D l) s = D s := by
  have h0 := least_nn hD hc s
  unfold tabV
  cases hf : (lbT D l).find? (fun p => p.1 == s) with
  | some p =>
    have h1 := List.find?_some hf
    have h2 := List.mem_of_find?_eq_some hf
    obtain ⟨x, hx, rfl⟩ := List.mem_map.1 h2
    have : x = s := by simpa using h1
    subst this
    rfl
  | none =>
    by_cases c : 0 < D s
    · exfalso
      have := List.find?_eq_none.1 hf (s, D s) (List.mem_map.2 ⟨s, List.mem_filter.2 ⟨hs, by simpa using c⟩, rfl⟩)
      simp at this
    · show 0 = D s
      omega
end Hm
end
section
namespace Hm
open Go
set_option maxRecDepth 100000
set_option maxHeartbeats 4000000
def c_slices_IndexFunc_BoundEntry : Cmd :=
 (qS [qc 4 0]
 (qT (qS [qm 6 0, qn 7 6, qc 8 0]
 (.block 0 (.loop (qS [qu 9 .lss [] 8 7]
 (qT (.cond (.t 9) .skip (.exit 0))
 (qT (.block 1 (qS [qm 10 8, qm 5 10]
 (qS [qm 11 1, qm 12 0, qm 13 5, qi 14 2 12 13, qL 15 2 14, qq 16 (.call .f (.t 11) [.t 15])]
 (.cond (.t 16) (.seq (.ops [qm 17 5, qm 4 17]) .ret) .skip))))
 (.ops [qv 18 .add [] 8 1, qm 8 18])))))))
 (.seq (.ops [qc 4 (-1)]) .ret)))
def r_slices_IndexFunc_BoundEntry : List RVar := [.tmp 4]
def n_slices_IndexFunc_BoundEntry : Nat := 19
theorem k_slices_IndexFunc_BoundEntry : chkFn Go.Proofs.Try.prog 55 n_slices_IndexFunc_BoundEntry r_slices_IndexFunc_BoundEntry c_slices_IndexFunc_BoundEntry = true := by kernel_rfl
theorem f_IndexFunc_BoundEntry (l : List (bent)) (p : bent → Bool) (fid : Nat) (caps : List V) (hl : l.length ≤ 140737488355328) (he : ∀ σ n, caps.map (er σ (n + 1)) = caps) (hc : closedL [] caps = true) (hp : ∀ t ∈ l, Fc Go.Proofs.Try.prog fid (bE t :: caps) (.bool (p t))) :
    Fc Go.Proofs.Try.prog 55 [.sl .p (l.map bE), .fn fid caps] (.int .i64 (fidx p l)) := by
  refine Fn.step mixed k_slices_IndexFunc_BoundEntry ?_
  repeat (first | refine i_len rfl ?_ | refine i_s rfl ?_ | refine i_lenm rfl rfl rfl ?_ | refine sw ?_ | refine i_s0 rfl ?_ | refine i_gt rfl ?_ | refine i_gf rfl ?_ | refine i_gd rfl ?_ | refine c_t rfl ?_ | refine c_f rfl ?_ | refine jc rfl ?_ | refine ja rfl rfl ?_ | refine jb rfl rfl ?_ | refine jg rfl rfl ?_ | refine jf rfl rfl ?_ | refine jd rfl rfl ?_ | refine je rfl rfl ?_ | refine jh rfl rfl ?_ | refine i_stb rfl ?_ | refine i_alloc rfl ?_ | refine i_box rfl rfl ?_ | refine i_nv rfl ?_)
  refine c_for l.length (fun k => [(0, .sl .p (l.map bE)), (1, .fn fid caps), (7, .int .i64 l.length), (8, .int .i64 k)]) (fun _ => []) (fun k => ∀ j, j < k → ∀ c, l[j]? = some c → p c = false) all_zero ?_ fun k hk hi => ?_
  · exact ⟨⟨rfl, rfl, rfl, rfl, trivial⟩, trivial, by simp [fitB, closedE, closedB, hc, closedSt, hasAll]⟩
  repeat (first | refine i_len rfl ?_ | refine i_s rfl ?_ | refine i_lenm rfl rfl rfl ?_ | refine sw ?_ | refine i_s0 rfl ?_ | refine i_gt rfl ?_ | refine i_gf rfl ?_ | refine i_gd rfl ?_ | refine c_t rfl ?_ | refine c_f rfl ?_ | refine jc rfl ?_ | refine ja rfl rfl ?_ | refine jb rfl rfl ?_ | refine jg rfl rfl ?_ | refine jf rfl rfl ?_ | refine jd rfl rfl ?_ | refine je rfl rfl ?_ | refine jh rfl rfl ?_ | refine i_stb rfl ?_ | refine i_alloc rfl ?_ | refine i_box rfl rfl ?_ | refine i_nv rfl ?_)
  refine c_cond rfl (fun h => ?_) (fun h => ?_)
  · have hlt : k < l.length := by simpa using h
    obtain ⟨c, hget⟩ := get_some hlt
    repeat (first | refine i_len rfl ?_ | refine i_s rfl ?_ | refine i_lenm rfl rfl rfl ?_ | refine sw ?_ | refine i_s0 rfl ?_ | refine i_gt rfl ?_ | refine i_gf rfl ?_ | refine i_gd rfl ?_ | refine c_t rfl ?_ | refine c_f rfl ?_ | refine jc rfl ?_ | refine ja rfl rfl ?_ | refine jb rfl rfl ?_ | refine jg rfl rfl ?_ | refine jf rfl rfl ?_ | refine jd rfl rfl ?_ | refine je rfl rfl ?_ | refine jh rfl rfl ?_ | refine i_stb rfl ?_ | refine i_alloc rfl ?_ | refine i_box rfl rfl ?_ | refine i_nv rfl ?_)
    refine i_f rfl (congrArg (bE c :: ·) (he _ 5)) (hp c (mem_get hget)) rfl ?_
    repeat' (first | refine i_len rfl ?_ | refine i_s rfl ?_ | refine i_lenm rfl rfl rfl ?_ | refine sw ?_ | refine i_s0 rfl ?_ | refine i_gt rfl ?_ | refine i_gf rfl ?_ | refine i_gd rfl ?_ | refine c_t rfl ?_ | refine c_f rfl ?_ | refine jc rfl ?_ | refine ja rfl rfl ?_ | refine jb rfl rfl ?_ | refine jg rfl rfl ?_ | refine jf rfl rfl ?_ | refine jd rfl rfl ?_ | refine je rfl rfl ?_ | refine jh rfl rfl ?_ | refine i_stb rfl ?_ | refine i_alloc rfl ?_ | refine i_box rfl rfl ?_ | refine i_nv rfl ?_ | (refine sp ?_ ?_ <;> try intro h) | fail)
    · refine e_ret ⟨rfl, _, rfl, congrArg (V.int .i64) (fidx_hit hi hget h)⟩
    · refine e_for hlt (all_succ hi fun c' hc' => ?_) ⟨⟨rfl, rfl, rfl, rfl, trivial⟩, trivial, by simp [fitB, closedE, closedB, hc, closedSt, hasAll]⟩
      rw [hget] at hc'; cases hc'; exact h
  · have hge : ¬ k < l.length := by simpa using h
    repeat' (first | refine i_len rfl ?_ | refine i_s rfl ?_ | refine i_lenm rfl rfl rfl ?_ | refine sw ?_ | refine i_s0 rfl ?_ | refine i_gt rfl ?_ | refine i_gf rfl ?_ | refine i_gd rfl ?_ | refine c_t rfl ?_ | refine c_f rfl ?_ | refine jc rfl ?_ | refine ja rfl rfl ?_ | refine jb rfl rfl ?_ | refine jg rfl rfl ?_ | refine jf rfl rfl ?_ | refine jd rfl rfl ?_ | refine je rfl rfl ?_ | refine jh rfl rfl ?_ | refine i_stb rfl ?_ | refine i_alloc rfl ?_ | refine i_box rfl rfl ?_ | refine i_nv rfl ?_ | (refine sp ?_ ?_ <;> try intro h) | fail)
    refine e_ret ⟨rfl, _, rfl, congrArg (V.int .i64) (fidx_none fun j hj => hi j (by omega))⟩
def c_slices_ContainsFunc_BoundEntry : Cmd :=
 (qS [qb 4 false]
 (.seq (.ops [qm 5 0, qm 6 1, qk 7 55 [5, 6], qv 8 .geq [] 7 0, qm 4 8]) .ret))
def r_slices_ContainsFunc_BoundEntry : List RVar := [.tmp 4]
def n_slices_ContainsFunc_BoundEntry : Nat := 9
theorem k_slices_ContainsFunc_BoundEntry : chkFn Go.Proofs.Try.prog 42 n_slices_ContainsFunc_BoundEntry r_slices_ContainsFunc_BoundEntry c_slices_ContainsFunc_BoundEntry = true := by kernel_rfl
theorem f_ContainsFunc_BoundEntry (l : List (bent)) (p : bent → Bool) (fid : Nat) (caps : List V) (hl : l.length ≤ 140737488355328) (he : ∀ σ n, caps.map (er σ (n + 1)) = caps) (hc : closedL [] caps = true) (hp : ∀ t ∈ l, Fc Go.Proofs.Try.prog fid (bE t :: caps) (.bool (p t))) :
    Fc Go.Proofs.Try.prog 42 [.sl .p (l.map bE), .fn fid caps] (.bool (l.any p)) := by
  refine Fn.step mixed k_slices_ContainsFunc_BoundEntry ?_
  repeat (first | refine i_len rfl ?_ | refine i_s rfl ?_ | refine i_lenm rfl rfl rfl ?_ | refine sw ?_ | refine i_s0 rfl ?_ | refine i_gt rfl ?_ | refine i_gf rfl ?_ | refine i_gd rfl ?_ | refine c_t rfl ?_ | refine c_f rfl ?_ | refine jc rfl ?_ | refine ja rfl rfl ?_ | refine jb rfl rfl ?_ | refine jg rfl rfl ?_ | refine jf rfl rfl ?_ | refine jd rfl rfl ?_ | refine je rfl rfl ?_ | refine jh rfl rfl ?_ | refine i_stb rfl ?_ | refine i_alloc rfl ?_ | refine i_box rfl rfl ?_ | refine i_nv rfl ?_)
  refine i_f rfl (congrArg (fun x => [V.sl .p (l.map bE), .fn fid x]) (he _ 4)) (f_IndexFunc_BoundEntry l p fid caps hl he hc hp) rfl ?_
  repeat' (first | refine i_len rfl ?_ | refine i_s rfl ?_ | refine i_lenm rfl rfl rfl ?_ | refine sw ?_ | refine i_s0 rfl ?_ | refine i_gt rfl ?_ | refine i_gf rfl ?_ | refine i_gd rfl ?_ | refine c_t rfl ?_ | refine c_f rfl ?_ | refine jc rfl ?_ | refine ja rfl rfl ?_ | refine jb rfl rfl ?_ | refine jg rfl rfl ?_ | refine jf rfl rfl ?_ | refine jd rfl rfl ?_ | refine je rfl rfl ?_ | refine jh rfl rfl ?_ | refine i_stb rfl ?_ | refine i_alloc rfl ?_ | refine i_box rfl rfl ?_ | refine i_nv rfl ?_ | (refine sp ?_ ?_ <;> try intro h) | fail)
  refine e_ret ⟨rfl, _, rfl, congrArg V.bool (fidx_any p l).symm⟩
end Hm
end
section
namespace Hm
open Go
mutual
def dv {H : Type} : DataW H → V
  | .lit (.bool b) => .bool b
  | .lit (.int k n) => .int k n
  | .lit (.string l) => .str l
  | .slice elems _ => .sl .p (dvL elems)
  | .agg parts => .agg (dvC parts)
  | .nil => .sl .p []
  | _ => .any
def dvL {H : Type} : List (DataW H) → List V
  | [] => []
  | d :: r => dv d :: dvL r
def dvC {H : Type} : List (DataW H) → List V
  | [] => []
  | d :: r => (dv d).cells ++ dvC r
end
theorem dvL_map {H : Type} : ∀ l : List (DataW H), dvL l = l.map dv
  | [] => rfl
  | d :: r => by simp only [dvL, List.map_cons, dvL_map r]
def lay (P : Program) : List Field → Nat → Option Nat
  | [], o => some o
  | f :: r, o => bif Nat.beq f.offset o then lay P r (o + P.cellsOf f.type) else none
def pl (P : Program) : Nat → TypeId → Bool
  | 0, _ => false
  | n + 1, t => match P.underlying t with
    | some .bool => true
    | some (.int _) => true
    | some .string => true
    | some (.slice e) => Nat.blt 0 (P.cellsOf e) && pl P n e
    | some (.struct fs) => (match lay P fs.toList 0 with
      | some m => Nat.beq m (P.cellsOf t)
      | none => false) && fs.toList.all fun f => pl P n f.type
    | some (.array len e) => Nat.beq (len * P.cellsOf e) (P.cellsOf t) && pl P n e
    | _ => false
def arrF (e : TypeId) (c i : Nat) : Field := { name := "", type := e, offset := i * c, embedded := false, tag := "", pkgPath := "", byteOffset := 0 }
theorem lay_arr {P : Program} {e : TypeId} : ∀ (len k : Nat), lay P ((List.range' k len).map (arrF e (P.cellsOf e))) (k * P.cellsOf e) = some ((k + len) * P.cellsOf e)
  | 0, k => rfl
  | len + 1, k => by
    simp only [List.range'_succ, List.map_cons, lay, arrF, Nat.beq_refl, cond_true]
    have := lay_arr (P := P) (e := e) len (k + 1)
    rw [Nat.succ_mul] at this
    rw [show k + (len + 1) = k + 1 + len from by omega]
    exact this
section
variable {H : Type} {enc : TypeId × Value → H} {P : Program} {w : World} {sp : Nat → Bool}
theorem fields_rep {S : Nat → Prop} {cs : List Value} : ∀ (fl : List Field) (ys : List (DataW H × List MemPlace)) (o m : Nat), lay P fl o = some m → m ≤ cs.length → ys.length = fl.length →
    (∀ (i : Nat) (f : Field) (y : DataW H × List MemPlace), fl[i]? = some f → ys[i]? = some y → ((cs.drop f.offset).take (P.cellsOf f.type)).length = (dv y.1).cells.length ∧
      ∀ (j : Nat) (v : V) (x : Value), (dv y.1).cells[j]? = some v → ((cs.drop f.offset).take (P.cellsOf f.type))[j]? = some x → RepP w S v x) →
    o ≤ m ∧ (dvC (ys.map (·.1))).length = m - o ∧ ∀ (j : Nat) (v : V) (x : Value), (dvC (ys.map (·.1)))[j]? = some v → cs[o + j]? = some x → RepP w S v x
  | [], [], o, m, hl, _, _, _ => by
    simp only [lay, Option.some.injEq] at hl
    subst hl
    exact ⟨Nat.le_refl _, by simp [dvC], fun j v x h => by simp [dvC] at h⟩
  | f :: fl, y :: ys, o, m, hl, hm, hlen, h => by
    simp only [lay] at hl
    cases hb : Nat.beq f.offset o with
    | false => rw [hb] at hl; cases hl
    | true =>
      rw [hb] at hl
      have ho := Nat.eq_of_beq_eq_true hb
      obtain ⟨h1, h2, h3⟩ := fields_rep fl ys (o + P.cellsOf f.type) m hl hm (by simpa using hlen) (fun i f y hf hy => h (i + 1) f y (by simpa using hf) (by simpa using hy))
      obtain ⟨k1, k2⟩ := h 0 f y rfl rfl
      rw [ho] at k1 k2
      have hk : (dv y.1).cells.length = P.cellsOf f.type := by
        rw [← k1, List.length_take, List.length_drop]; omega
      refine ⟨by omega, by simp only [List.map_cons, dvC, List.length_append, h2, hk]; omega, fun j v x hv hx => ?_⟩
      simp only [List.map_cons, dvC] at hv
      by_cases hj : j < P.cellsOf f.type
      · rw [List.getElem?_append_left (by omega)] at hv
        refine k2 j v x hv ?_
        rw [List.getElem?_take, if_pos hj, List.getElem?_drop]
        exact hx
      · rw [List.getElem?_append_right (by omega), hk] at hv
        exact h3 _ v x hv (by rw [show o + P.cellsOf f.type + (j - P.cellsOf f.type) = o + j from by omega]; exact hx)
  | [], _ :: _, _, _, _, _, hlen, _ => by simp at hlen
  | _ :: _, [], _, _, _, _, hlen, _ => by simp at hlen
theorem cells_get {w : World} {a : Addr} {n : Nat} {cs : List Value} (h : w.cells? 0 a n = some cs) : cs.length = n ∧ ∀ i, i < n → w.cell? (a.add i) = cs[i]? := by
  unfold World.cells? at h
  rw [if_pos (Nat.zero_le _)] at h
  exact ⟨by simpa using mapM_some_length h, fun i hi => mapM_some_get h i i (by simp [hi])⟩
theorem cell_lt {w : World} {a : Addr} {v : Value} (h : w.cell? a = some v) : a.block < w.heap.size ∧ a.spot = none := by
  unfold World.cell? at h
  split at h
  · rename_i c t fr hc
    refine ⟨(Array.getElem?_eq_some_iff.1 hc).1, ?_⟩
    cases hs : a.spot with
    | none => rfl
    | some _ => rw [hs] at h; simp at h
  · cases h
theorem trod_rep : ∀ (n : Nat) (t : TypeId) (fuel : Nat) (cs : List Value) (x : DataW H × List MemPlace), pl P n t = true → DataW.trod enc P w 0 sp true fuel t cs = some x →
    cs.length = (dv x.1).cells.length ∧ ∀ (i : Nat) (v : V) (y : Value), (dv x.1).cells[i]? = some v → cs[i]? = some y → RepP w (fun b => b < w.heap.size) v y
  | 0, t, fuel, cs, x, hp, _ => by cases hp
  | n + 1, t, fuel, cs, x, hp, h => by
    unfold pl at hp
    split at hp
    · rename_i ht
      obtain ⟨b, rfl, rfl⟩ := DataW.trod_bool ht h
      refine ⟨rfl, fun i v y hv hy => ?_⟩
      cases i with
      | zero => simp [dv, V.cells] at hv hy; subst hv hy; exact .bool b
      | succ i => simp at hy
    · rename_i k ht
      obtain ⟨m, rfl, rfl, _⟩ := DataW.trod_int ht h
      refine ⟨rfl, fun i v y hv hy => ?_⟩
      cases i with
      | zero => simp [dv, V.cells] at hv hy; subst hv hy; exact .int k m
      | succ i => simp at hy
    · rename_i ht
      obtain ⟨s, rfl, rfl, _⟩ := DataW.trod_string ht h
      refine ⟨rfl, fun i v y hv hy => ?_⟩
      cases i with
      | zero =>
        simp [dv, V.cells] at hv hy
        subst hv hy
        have := RepP.str (w := w) (S := fun b => b < w.heap.size) s.data.toList
        simpa using this
      | succ i => simp at hy
    · rename_i e ht
      simp only [Bool.and_eq_true] at hp
      obtain ⟨hc0, hpe⟩ := hp
      have hc : 0 < P.cellsOf e := by simpa [Nat.blt_eq] using hc0
      rcases Go.Deep.open_slice ht h with ⟨rfl, rfl⟩ | ⟨a, len, cap, m, q, D, Pl, rfl, _, hlc, _, hm, rfl, hcell⟩
      · refine ⟨rfl, fun i v y hv hy => ?_⟩
        cases i with
        | zero => simp [dv, V.cells] at hv hy; subst hv hy; exact .emp none 0
        | succ i => simp at hy
      · refine ⟨rfl, fun i v y hv hy => ?_⟩
        cases i with
        | succ i => simp at hy
        | zero =>
          simp only [dv, V.cells, List.getElem?_cons_zero, Option.some.injEq] at hv hy
          subst hv hy
          rw [dvL_map, List.map_map]
          cases len with
          | zero => exact .emp (some a) cap
          | succ len =>
            have hle : len + 1 ≤ m := by rw [hm]; split <;> omega
            have key : ∀ i, i < len + 1 → (∃ cs' : List Value, (∀ j, j < P.cellsOf e → w.cell? ((a.add (i * P.cellsOf e)).add j) = cs'[j]?) ∧ cs'.length = P.cellsOf e ∧ cs'.length = (dv (D i)).cells.length ∧
                ∀ (j : Nat) (v : V) (y : Value), (dv (D i)).cells[j]? = some v → cs'[j]? = some y → RepP w (fun b => b < w.heap.size) v y) := by
              intro i hi
              obtain ⟨cs', h1, h2⟩ := hcell i (by omega)
              obtain ⟨h3, h4⟩ := cells_get h1
              obtain ⟨h5, h6⟩ := trod_rep n e q cs' _ hpe h2
              exact ⟨cs', h4, h3, h5, h6⟩
            obtain ⟨cs0, k1, k2, _, _⟩ := key 0 (by omega)
            have k3 := k1 0 hc
            rw [List.getElem?_eq_getElem (by omega)] at k3
            obtain ⟨hblt, hspot⟩ := cell_lt k3
            simp only [Nat.zero_mul, Addr.add_zero'] at hblt hspot
            have hb : a.block < w.heap.size := hblt
            have hs : a.spot = none := hspot
            obtain ⟨b, off, spot⟩ := a
            simp only at hb hs
            subst hs
            have e1 : len + 1 = ((List.range (len + 1)).map (dv ∘ D)).length := by simp
            have goal : RepP w (fun b => b < w.heap.size) (.sl .p ((List.range (len + 1)).map (dv ∘ D))) (.slice (some ⟨b, off, none⟩) ((List.range (len + 1)).map (dv ∘ D)).length cap) := by
              refine .sl _ b off cap (P.cellsOf e) (fun i j => (w.cell? ⟨b, off + i * P.cellsOf e + j, none⟩).getD default) hb (by omega) (fun row hrow => ?_) (fun i j row v hr hv => ?_) (fun i j row v hr hv => ?_)
              · obtain ⟨i, hi, rfl⟩ := List.mem_map.1 hrow
                obtain ⟨cs', _, g1, g2, _⟩ := key i (List.mem_range.1 hi)
                show (dv (D i)).cells.length = _
                omega
              · rw [List.getElem?_map] at hr
                have hi : i < len + 1 := by
                  have := (List.getElem?_eq_some_iff.1 (Option.map_eq_some_iff.1 hr).choose_spec.1).1
                  simpa using this
                rw [List.getElem?_range hi] at hr
                simp only [Option.map_some, Option.some.injEq, Function.comp] at hr
                subst hr
                obtain ⟨cs', g0, g1, g2, g3⟩ := key i hi
                have hj := (List.getElem?_eq_some_iff.1 hv).1
                have := g0 j (by omega)
                simp only [Addr.add_lit] at this
                rw [this, List.getElem?_eq_getElem (by omega)]
                rfl
              · rw [List.getElem?_map] at hr
                have hi : i < len + 1 := by
                  have := (List.getElem?_eq_some_iff.1 (Option.map_eq_some_iff.1 hr).choose_spec.1).1
                  simpa using this
                rw [List.getElem?_range hi] at hr
                simp only [Option.map_some, Option.some.injEq, Function.comp] at hr
                subst hr
                obtain ⟨cs', g0, g1, g2, g3⟩ := key i hi
                have hj := (List.getElem?_eq_some_iff.1 hv).1
                have := g0 j (by omega)
                simp only [Addr.add_lit] at this
                rw [this, List.getElem?_eq_getElem (by omega)]
                exact g3 j v _ hv (by rw [List.getElem?_eq_getElem (by omega)]; rfl)
            rw [← e1] at goal
            exact goal
    · rename_i fs ht
      simp only [Bool.and_eq_true, List.all_eq_true] at hp
      obtain ⟨hlay, hall⟩ := hp
      split at hlay
      · rename_i m hm
        have hme := Nat.eq_of_beq_eq_true hlay
        obtain ⟨xs, q, _, rfl, hlen, hxl, hseg⟩ := DataW.trod_struct ht h
        obtain ⟨_, g1, g2⟩ := fields_rep (P := P) (w := w) (S := fun b => b < w.heap.size) (cs := cs) fs.toList xs 0 m hm (by omega) (by simpa using hxl) (fun i f y hf hy => by
          have hf' : fs[i]? = some f := by simpa using hf
          have := hseg i f hf'
          rw [hy] at this
          exact trod_rep n f.type q _ y (hall f (List.mem_of_getElem? hf)) this)
        refine ⟨by simp only [dv, V.cells, g1]; omega, fun i v y hv hy => g2 i v y (by simpa [dv, V.cells] using hv) (by simpa using hy)⟩
      · cases hlay
    · rename_i len e ht
      simp only [Bool.and_eq_true] at hp
      obtain ⟨hlay, hpe⟩ := hp
      have hme := Nat.eq_of_beq_eq_true hlay
      obtain ⟨xs, q, _, rfl, hlen, hxl, hseg⟩ := DataW.trod_array ht h
      have hla := lay_arr (P := P) (e := e) len 0
      rw [Nat.zero_mul, Nat.zero_add] at hla
      obtain ⟨_, g1, g2⟩ := fields_rep (P := P) (w := w) (S := fun b => b < w.heap.size) (cs := cs) _ xs 0 _ hla (by omega) (by simpa using hxl) (fun i f y hf hy => by
        have hi : i < len := by have := (List.getElem?_eq_some_iff.1 hy).1; omega
        rw [List.getElem?_map, List.getElem?_range' hi] at hf
        simp only [Option.map_some, Option.some.injEq, Nat.zero_add, Nat.one_mul] at hf
        subst hf
        have := hseg i hi
        rw [hy] at this
        exact trod_rep n e q _ y hpe this)
      refine ⟨by simp only [dv, V.cells, g1]; omega, fun i v y hv hy => g2 i v y (by simpa [dv, V.cells] using hv) (by simpa using hy)⟩
    · cases hp
theorem arg_rep {n base : Nat} {t : TypeId} {v : Value} {d : DataW H} {ps : List MemPlace} (hp : pl P n t = true) (hok : Value.okWide P w .any base t v) (h : DataW.Trod enc P w 0 sp true t v d ps) : RepP w (fun b => b < w.heap.size) (dv d) v := by
  obtain ⟨fuel, h⟩ := h
  obtain ⟨h1, h2⟩ := trod_rep n t fuel _ _ hp h
  cases n with
  | zero => cases hp
  | succ n =>
    unfold pl at hp
    split at hp
    · rename_i ht
      obtain ⟨b, e, e2⟩ := DataW.trod_bool ht h
      injection e2 with e2 _
      subst e2
      cases v <;> simp [Value.okWide, ht, Cell.okWide, Cell.ok] at hok
      simp [Value.cells] at e
      subst e
      exact .bool _
    · rename_i k ht
      obtain ⟨m, e, e2, _⟩ := DataW.trod_int ht h
      injection e2 with e2 _
      subst e2
      cases v <;> simp [Value.okWide, ht, Cell.okWide, Cell.ok] at hok
      simp [Value.cells] at e
      obtain ⟨rfl, rfl⟩ := e
      exact .int _ _
    · rename_i ht
      obtain ⟨s, e, e2, _⟩ := DataW.trod_string ht h
      injection e2 with e2 _
      subst e2
      cases v <;> simp [Value.okWide, ht, Cell.okWide, Cell.ok] at hok
      simp [Value.cells] at e
      subst e
      exact h2 0 _ _ rfl rfl
    · rename_i e ht
      have hv : v.cells = #[v] := by
        cases v <;> first | rfl | (simp [Value.okWide, ht, Cell.okWide, Cell.ok] at hok)
      have hd : (dv d).cells = [dv d] := by
        rcases Go.Deep.open_slice ht h with ⟨_, e2⟩ | ⟨_, _, _, _, _, _, _, _, _, _, _, _, e2, _⟩ <;> (injection e2 with e2 _; subst e2; rfl)
      exact h2 0 _ _ (by rw [hd]; rfl) (by rw [hv]; rfl)
    · rename_i fs ht
      simp only [Value.okWide, ht] at hok
      obtain ⟨cs, rfl, _, _⟩ := hok
      obtain ⟨xs, q, _, e2, _⟩ := DataW.trod_struct ht h
      injection e2 with e2 _
      subst e2
      have := RepP.agg (w := w) (S := fun b => b < w.heap.size) (dvC (xs.map (·.1))) cs.toList (by
        have := h1
        simp only [dv, V.cells, Value.cells] at this
        exact this.symm) (fun i v x hv hx => h2 i v x (by simpa [dv, V.cells] using hv) (by simpa [Value.cells] using hx))
      simpa [dv] using this
    · rename_i len e ht
      simp only [Value.okWide, ht] at hok
      obtain ⟨cs, rfl, _, _⟩ := hok
      obtain ⟨xs, q, _, e2, _⟩ := DataW.trod_array ht h
      injection e2 with e2 _
      subst e2
      have := RepP.agg (w := w) (S := fun b => b < w.heap.size) (dvC (xs.map (·.1))) cs.toList (by
        have := h1
        simp only [dv, V.cells, Value.cells] at this
        exact this.symm) (fun i v x hv hx => h2 i v x (by simpa [dv, V.cells] using hv) (by simpa [Value.cells] using hx))
      simpa [dv] using this
    · cases hp
theorem args_rep {n base : Nat} : ∀ (ts : List TypeId) (vs : List Value) (ds : List (DataW H)) (ps : List MemPlace), ts.all (pl P n) = true → (∀ (j : Nat) t v, ts[j]? = some t → vs[j]? = some v → Value.okWide P w .any base t v) →
    DataW.TrodAll enc P w 0 sp true ts vs ds ps → Reps (RepP w (fun b => b < w.heap.size)) (ds.map dv) vs
  | [], [], [], _, _, _, _ => ⟨rfl, fun i v x h => by simp at h⟩
  | t :: ts, v :: vs, d :: ds, ps, hp, hok, h => by
    obtain ⟨p, q, h1, h2, _⟩ := h
    simp only [List.all_cons, Bool.and_eq_true] at hp
    have ih := args_rep ts vs ds q hp.2 (fun j t v ht hv => hok (j + 1) t v (by simpa using ht) (by simpa using hv)) h2
    refine ⟨by simpa using ih.1, fun i u x hu hx => ?_⟩
    cases i with
    | zero =>
      simp at hu hx
      subst hu hx
      exact arg_rep hp.1 (hok 0 t v rfl rfl) h1
    | succ i => exact ih.2 i u x (by simpa using hu) (by simpa using hx)
  | [], _ :: _, _, _, _, _, h => by simp [DataW.TrodAll] at h
  | [], [], _ :: _, _, _, _, h => by simp [DataW.TrodAll] at h
  | _ :: _, [], _, _, _, _, h => by simp [DataW.TrodAll] at h
  | _ :: _, _ :: _, [], _, _, _, h => by simp [DataW.TrodAll] at h
def wt (P : Program) {H : Type} : Nat → TypeId → DataW H → Prop
  | 0, _, _ => False
  | n + 1, t, d => match P.underlying t with
    | some .bool => ∃ b, d = .lit (.bool b)
    | some (.int k) => ∃ m, d = .lit (.int k m) ∧ (Lit.int k m).wf = true
    | some .string => ∃ l, d = .lit (.string l) ∧ l.length ≤ reachBytes
    | some (.slice e) => d = .nil ∨ ∃ elems spare, d = .slice elems spare ∧ elems.length * P.bytesOf e ≤ reachBytes ∧ ∀ x ∈ elems, wt P n e x
    | some (.struct fs) => ∃ parts, d = .agg parts ∧ parts.length = fs.size ∧ ∀ (i : Nat) (f : Field) (p : DataW H), fs[i]? = some f → parts[i]? = some p → wt P n f.type p
    | some (.array len e) => ∃ parts, d = .agg parts ∧ parts.length = len ∧ ∀ x ∈ parts, wt P n e x
    | _ => True
theorem weightsAll_mem {e : TypeId} : ∀ {l : List (DataW H)} {x : DataW H}, x ∈ l → ∀ n ∈ x.weights P e, n ∈ DataW.weightsAll P e l
  | d :: r, x, hx, n, hn => by
    simp only [DataW.weightsAll, List.mem_append]
    rcases List.mem_cons.1 hx with rfl | hx
    · exact .inl hn
    · exact .inr (weightsAll_mem hx n hn)
theorem trod_wt : ∀ (fuel : Nat) (t : TypeId) (cs : List Value) (x : DataW H × List MemPlace), DataW.trod enc P w 0 sp true fuel t cs = some x → (∀ n ∈ x.1.weights P t, n ≤ reachBytes) → wt P fuel t x.1
  | 0, t, cs, x, h, _ => by simp [DataW.trod] at h
  | fuel + 1, t, cs, x, h, hw => by
    unfold wt
    split
    · rename_i ht
      obtain ⟨b, _, rfl⟩ := DataW.trod_bool ht h
      exact ⟨b, rfl⟩
    · rename_i k ht
      obtain ⟨m, _, rfl, hm⟩ := DataW.trod_int ht h
      exact ⟨m, rfl, hm⟩
    · rename_i ht
      obtain ⟨s, _, rfl, _⟩ := DataW.trod_string ht h
      exact ⟨_, rfl, hw _ (by simp [DataW.weights])⟩
    · rename_i e ht
      rcases DataW.trod_slice ht h with ⟨_, rfl⟩ | ⟨a, len, cap, elems, rest, n, hn, _, rfl, _, _, _, hlen, hel, _, _⟩
      · exact .inl rfl
      · injection hn with hn
        subst hn
        refine .inr ⟨_, _, rfl, ?_, fun y hy => ?_⟩
        · have := hw ((elems.length + rest.length) * P.bytesOf e) (by simp [DataW.weights, ht])
          simp only [List.length_map]
          exact Nat.le_trans (Nat.mul_le_mul_right _ (Nat.le_add_right _ _)) this
        · obtain ⟨z, hz, rfl⟩ := List.mem_map.1 hy
          obtain ⟨i, hi, ez⟩ := List.getElem_of_mem hz
          have := hel i (by omega)
          rw [List.getElem?_eq_getElem hi, ez] at this
          obtain ⟨cs', h1, h2⟩ := Option.bind_eq_some_iff.1 this
          refine trod_wt fuel e cs' z h2 fun n hn => hw n ?_
          simp only [DataW.weights, ht, List.mem_cons, List.mem_append]
          exact .inr (.inl (weightsAll_mem hy n hn))
    · rename_i fs ht
      obtain ⟨xs, n, hn, rfl, _, hxl, hseg⟩ := DataW.trod_struct ht h
      injection hn with hn
      subst hn
      refine ⟨_, rfl, by simpa using hxl, fun i f p hf hp => ?_⟩
      rw [List.getElem?_map] at hp
      obtain ⟨z, hz, rfl⟩ := Option.map_eq_some_iff.1 hp
      have := hseg i f hf
      rw [hz] at this
      refine trod_wt fuel f.type _ z this fun n hn => hw n ?_
      simp only [DataW.weights, ht]
      exact DataW.weights_mem_each (j := i) (by rw [List.getElem?_map]; simp [hf]) (by rw [List.getElem?_map, hz]; rfl) n hn
    · rename_i len e ht
      obtain ⟨xs, n, hn, rfl, _, hxl, hseg⟩ := DataW.trod_array ht h
      injection hn with hn
      subst hn
      refine ⟨_, rfl, by simpa using hxl, fun y hy => ?_⟩
      obtain ⟨z, hz, rfl⟩ := List.mem_map.1 hy
      obtain ⟨i, hi, ez⟩ := List.getElem_of_mem hz
      have := hseg i (by omega)
      rw [List.getElem?_eq_getElem hi, ez] at this
      refine trod_wt fuel e _ z this fun n hn => hw n ?_
      simp only [DataW.weights, ht]
      exact weightsAll_mem hy n hn
    · trivial
theorem args_wt : ∀ (ts : List TypeId) (vs : List Value) (ds : List (DataW H)) (ps : List MemPlace), DataW.TrodAll enc P w 0 sp true ts vs ds ps → (∀ n ∈ DataW.weightsEach P ts ds, n ≤ reachBytes) →
    ds.length = ts.length ∧ ∀ (j : Nat) t d, ts[j]? = some t → ds[j]? = some d → ∃ n, wt P n t d
  | [], [], [], _, _, _ => ⟨rfl, fun j t d h => by simp at h⟩
  | t :: ts, v :: vs, d :: ds, ps, h, hw => by
    obtain ⟨p, q, ⟨fuel, h1⟩, h2, _⟩ := h
    have ih := args_wt ts vs ds q h2 (fun n hn => hw n (by simp only [DataW.weightsEach, List.mem_append]; exact .inr hn))
    refine ⟨by simpa using ih.1, fun j t' d' ht hd => ?_⟩
    cases j with
    | zero =>
      simp at ht hd
      subst ht hd
      exact ⟨fuel, trod_wt fuel t _ _ h1 fun n hn => hw n (by simp only [DataW.weightsEach, List.mem_append]; exact .inl hn)⟩
    | succ j => exact ih.2 j t' d' (by simpa using ht) (by simpa using hd)
  | [], _ :: _, _, _, h, _ => by simp [DataW.TrodAll] at h
  | [], [], _ :: _, _, h, _ => by simp [DataW.TrodAll] at h
  | _ :: _, [], _, _, h, _ => by simp [DataW.TrodAll] at h
  | _ :: _, _ :: _, [], _, h, _ => by simp [DataW.TrodAll] at h
end
section
variable {H : Type} {enc : TypeId × Value → H} {P : Program}
theorem below_all (hl : laidOutB P = true) {W W' : World} (hb : Go.RowKit.Below W.heap.size W W') : ∀ (ts : List TypeId) (vs : List Value) (ds : List (DataW H)) (ps : List MemPlace), (ts.all fun t => P.readableRec t && decide (t < P.types.size)) = true → (∀ x ∈ ps, x.block < W.heap.size) →
    DataW.TrodAll enc P W 0 (fun _ => true) true ts vs ds ps → DataW.TrodAll enc P W' 0 (fun b => decide (b < W.heap.size)) true ts vs ds ps
  | [], [], [], _, _, _, h => h
  | t :: ts, v :: vs, d :: ds, ps, hr, hlt, h => by
    obtain ⟨p, q, h1, h2, rfl⟩ := h
    simp only [List.all_cons, Bool.and_eq_true] at hr
    exact ⟨p, q, Go.RowKit.Below.trod hl hr.1.1 (of_decide_eq_true hr.1.2) h1 hb (fun x hx => hlt x (by simp [hx])), below_all hl hb ts vs ds q hr.2 (fun x hx => hlt x (by simp [hx])) h2, rfl⟩
  | [], _ :: _, _, _, _, _, h => by simp [DataW.TrodAll] at h
  | [], [], _ :: _, _, _, _, h => by simp [DataW.TrodAll] at h
  | _ :: _, [], _, _, _, _, h => by simp [DataW.TrodAll] at h
  | _ :: _, _ :: _, [], _, _, _, h => by simp [DataW.TrodAll] at h
end
theorem law_call {C : Checked} {f : FuncId} {fn : Func} {s : ChangeSpec} {H : Type} {enc : TypeId × Value → H} {tb : TypeId} {n : Nat}
    (hvars : s.vars = []) (hs : ∀ ds : List (DataW H), ds.length = fn.params.toList.length → (s.fn H (ds ++ [])).results = [.lit (.bool true)] ∧ (s.fn H (ds ++ [])).args = ds ∧ (s.fn H (ds ++ [])).vars = [])
    (hlaid : laidOutB C.prog = true) (hp : (fn.params.toList.all (pl C.prog n)) = true) (hr : (fn.params.toList.all fun t => C.prog.readableRec t && decide (t < C.prog.types.size)) = true)
    (hres : fn.resultTypes = #[tb]) (htb : C.prog.underlying tb = some .bool)
    (hc : ∀ ds : List (DataW H), ds.length = fn.params.toList.length → (∀ (j : Nat) t d, fn.params.toList[j]? = some t → ds[j]? = some d → ∃ n, wt C.prog n t d) → Fc C.prog f (ds.map dv) (.bool true))
    (W : World) (base : Nat) (args : Array Value) (ds gs : List (DataW H)) (before : List MemPlace)
    (hval : ∀ (j : Nat) t v, fn.params[j]? = some t → args[j]? = some v → Value.okWide C.prog W .any base t v)
    (hW : DataW.Whole enc C.prog fn.params.toList s.vars false W args.toList ds gs before)
    (hsz : (DataW.weightsEach C.prog (fn.params.toList ++ s.plain.varTypes C.prog) (ds ++ gs)).all (· ≤ reachBytes) = true)
    (hgl : ∀ p ∈ glb, ∃ (cs : List Value) (e : TypeId) (fr : Nat × Nat), W.heap[p.1]? = some (.cells cs.toArray e fr) ∧ p.2 cs) :
    Calls C.prog f args W fun e W' => ∃ v, e = .returned v ∧ s.post enc C.prog fn false true false false W args v W' := by
  have hW' := hW
  obtain ⟨p, q, hA, hV, hbe, hfz, hnd⟩ := hW
  rw [hvars] at hV
  have hg : gs = [] ∧ q = [] := by
    cases gs with
    | nil => exact ⟨rfl, by simpa [DataW.TrodVars] using hV⟩
    | cons g gs => simp [DataW.TrodVars] at hV
  obtain ⟨rfl, rfl⟩ := hg
  have hw : ∀ n ∈ DataW.weightsEach C.prog fn.params.toList ds, n ≤ reachBytes := by
    intro n hn
    have h1 := List.all_eq_true.1 hsz n
    have hlen : ds.length = fn.params.toList.length := by
      have : ∀ (ts : List TypeId) (vs : List Value) (ds : List (DataW H)) (ps : List MemPlace), DataW.TrodAll enc C.prog W 0 (fun _ => true) true ts vs ds ps → ds.length = ts.length := by
        intro ts
        induction ts with
        | nil => intro vs ds ps h; cases vs <;> cases ds <;> simp [DataW.TrodAll] at h ⊢
        | cons t ts ih =>
          intro vs ds ps h
          cases vs <;> cases ds <;> simp [DataW.TrodAll] at h ⊢
          obtain ⟨p, _, q, h2, _⟩ := h
          exact ih _ _ _ h2
      exact this _ _ _ _ hA
    have h2 : n ∈ DataW.weightsEach C.prog (fn.params.toList ++ s.plain.varTypes C.prog) (ds ++ []) := by
      have : ∀ (ts us : List TypeId) (ds : List (DataW H)), ds.length = ts.length → ∀ n ∈ DataW.weightsEach C.prog ts ds, n ∈ DataW.weightsEach C.prog (ts ++ us) ds := by
        intro ts
        induction ts with
        | nil => intro us ds h n hn; simp [DataW.weightsEach] at hn
        | cons t ts ih =>
          intro us ds h n hn
          cases ds with
          | nil => simp at h
          | cons d ds =>
            simp only [List.cons_append, DataW.weightsEach, List.mem_append] at hn ⊢
            rcases hn with hn | hn
            · exact .inl hn
            · exact .inr (ih us ds (by simpa using h) n hn)
      rw [List.append_nil]
      exact this _ _ _ hlen n hn
    exact of_decide_eq_true (h1 h2)
  obtain ⟨hdl, hwt⟩ := args_wt _ _ _ _ hA hw
  have hrep := args_rep (n := n) (base := base) _ _ _ _ hp (fun j t v ht hv => hval j t v (by simpa using ht) (by simpa using hv)) hA
  obtain ⟨_, hcall⟩ := (hc ds hdl hwt).out
  have hcw := callsIn_wide.1 (hcall W (fun b => b < W.heap.size) args.toList (fun b h => h) (fun p hp => by
    obtain ⟨cs, e, fr, h1, h2⟩ := hgl p hp
    exact ⟨(Array.getElem?_eq_some_iff.1 h1).1, cs, e, fr, h1, h2⟩) hrep)
  simp only [Array.toArray_toList] at hcw
  refine hcw.mono fun e W' ⟨x', S', he, hx, _, _, hgrow⟩ => ?_
  subst he
  cases hx
  have hb : Go.RowKit.Below W.heap.size W W' := ⟨hgrow.os, hgrow.tape, hgrow.output.1, hgrow.size, fun k hk => hgrow.same k hk⟩
  obtain ⟨s1, s2, s3⟩ := hs ds hdl
  refine ⟨_, rfl, ds, [], before, [], p, [], hW', ?_, ?_, ?_, ?_, fun h => by cases h⟩
  · rw [s1, hres]
    refine ⟨[], [], ⟨1, ?_⟩, rfl, rfl⟩
    unfold DataW.trod
    rw [htb]
    rfl
  · rw [s2]
    have hlt : ∀ x ∈ p, x.block < W.heap.size := fun x hx => hW'.lt x (by rw [hbe]; simp [hx])
    exact below_all hlaid hb _ _ _ _ hr hlt hA
  · rw [s3, hvars]; rfl
  · exact hb.frame _
theorem law_lift {C : Checked} {os : Os} {f : FuncId} {fn : Func} {s : ChangeSpec} {H : Type} {enc : TypeId × Value → H} {tb : TypeId} {n : Nat}
    (own : ownKnob C.prog.godebug = none) (started : os.Started) (noInit : C.prog.inits.idxOf? f = none) (hfn : C.prog.funcs[f]? = some fn)
    (witness : ∃ (w : World) (tape : Tape) (i : Input), w.os = os ∧ (w.forCall tape i).Shaped C.prog ∧ i.vars = [] ∧ Input.okWide C.prog (w.forCall tape i) .any w.heap.size f i ∧
      s.pre6 enc C.prog fn [] false (w.forCall tape i).memory i.args ∧ (({} : Assume)).holds C.prog (lone (Frame.enter C.prog f i.args .normal) [] (w.forCall tape i)))
    (hvars : s.vars = []) (hs : ∀ ds : List (DataW H), ds.length = fn.params.toList.length → (s.fn H (ds ++ [])).results = [.lit (.bool true)] ∧ (s.fn H (ds ++ [])).args = ds ∧ (s.fn H (ds ++ [])).vars = [])
    (hlaid : laidOutB C.prog = true) (hp : (fn.params.toList.all (pl C.prog n)) = true) (hr : (fn.params.toList.all fun t => C.prog.readableRec t && decide (t < C.prog.types.size)) = true)
    (hres : fn.resultTypes = #[tb]) (htb : C.prog.underlying tb = some .bool)
    (hglb : glb = [])
    (hc : ∀ ds : List (DataW H), ds.length = fn.params.toList.length → (∀ (j : Nat) t d, fn.params.toList[j]? = some t → ds[j]? = some d → ∃ n, wt C.prog n t d) → Fc C.prog f (ds.map dv) (.bool true)) :
    ReturnsInHanded {} C os f .any (s.pre6 enc C.prog fn [] false) (s.post enc C.prog fn false true false false) := by
  refine returnsInHanded_of_change_sized own started noInit hfn witness ?_
  intro W base args ds gs before hval hW _ hsz _
  exact law_call hvars hs hlaid hp hr hres htb hc W base args ds gs before hval hW hsz (fun p hp => by rw [hglb] at hp; cases hp)
end Hm
namespace Hm
open Go
section
variable {H : Type} {P : Program}
def wtE (P : Program) {H : Type} (n : Nat) : List TypeId → List (DataW H) → Prop
  | [], [] => True
  | t :: ts, d :: ds => wt P n t d ∧ wtE P n ts ds
  | _, _ => False
theorem wtE_of {n : Nat} : ∀ (ts : List TypeId) (ds : List (DataW H)), ds.length = ts.length → (∀ (i : Nat) (t : TypeId) (d : DataW H), ts[i]? = some t → ds[i]? = some d → wt P n t d) → wtE P n ts ds
  | [], [], _, _ => trivial
  | t :: ts, d :: ds, hl, h => ⟨h 0 t d rfl rfl, wtE_of ts ds (by simpa using hl) fun i t d h1 h2 => h (i + 1) t d (by simpa using h1) (by simpa using h2)⟩
  | [], _ :: _, hl, _ => by simp at hl
  | _ :: _, [], hl, _ => by simp at hl
theorem wt_st {n : Nat} {t : TypeId} {d : DataW H} {fs : Array Field} (ht : P.underlying t = some (.struct fs)) (h : wt P n t d) : ∃ parts m, d = .agg parts ∧ wtE P m (fs.toList.map (·.type)) parts := by
  cases n with
  | zero => exact h.elim
  | succ n =>
    simp only [wt, ht] at h
    obtain ⟨parts, rfl, hl, h⟩ := h
    refine ⟨parts, n, rfl, wtE_of _ _ (by simpa using hl) fun i t d h1 h2 => ?_⟩
    rw [List.getElem?_map] at h1
    obtain ⟨f, hf, rfl⟩ := Option.map_eq_some_iff.1 h1
    exact h i f d (by simpa using hf) h2
theorem wt_int {n : Nat} {t : TypeId} {d : DataW H} (ht : P.underlying t = some (.int .i64)) (h : wt P n t d) : ∃ m, d = .lit (.int .i64 m) ∧ InR .i64 m := by
  cases n with
  | zero => exact h.elim
  | succ n =>
    simp only [wt, ht] at h
    obtain ⟨m, rfl, h⟩ := h
    refine ⟨m, rfl, ?_⟩
    simpa [Lit.wf, IntKind.min, IntKind.max, IntKind.signed, IntKind.bits, InR] using h
theorem ex_map {α : Type} {f : α → V} {Q : α → Prop} : ∀ (ds : List (DataW H)), (∀ d ∈ ds, ∃ a, dv d = f a ∧ Q a) → ∃ l : List α, dvL ds = l.map f ∧ l.length = ds.length ∧ ∀ a ∈ l, Q a
  | [], _ => ⟨[], rfl, rfl, fun a h => by cases h⟩
  | d :: ds, h => by
    obtain ⟨a, h1, h2⟩ := h d (by simp)
    obtain ⟨l, h3, h4, h5⟩ := ex_map ds fun x hx => h x (by simp [hx])
    refine ⟨a :: l, by simp only [dvL, List.map_cons, h1, h3], by simp [h4], fun b hb => ?_⟩
    rcases List.mem_cons.1 hb with rfl | hb
    · exact h2
    · exact h5 b hb
theorem wt_sl {α : Type} {f : α → V} {Q : α → Prop} {t e : TypeId} (ht : P.underlying t = some (.slice e)) (he : ∀ (n : Nat) (d : DataW H), wt P n e d → ∃ a, dv d = f a ∧ Q a) {n : Nat} {d : DataW H} (h : wt P n t d) :
    ∃ l : List α, dv d = .sl .p (l.map f) ∧ l.length * P.bytesOf e ≤ 140737488351232 ∧ ∀ a ∈ l, Q a := by
  cases n with
  | zero => exact h.elim
  | succ n =>
    simp only [wt, ht] at h
    rcases h with rfl | ⟨elems, spare, rfl, hl, h⟩
    · exact ⟨[], rfl, by simp, fun a h => by cases h⟩
    · obtain ⟨l, h1, h2, h3⟩ := ex_map elems fun x hx => he n x (h x hx)
      exact ⟨l, by simp only [dv, h1], by rw [h2]; exact hl, h3⟩
end
theorem in_int {H : Type} {n : Nat} {d : DataW H} (h : wt Go.Proofs.Try.prog n 3 d) : ∃ m, dv d = .int .i64 m ∧ InR .i64 m := by
  obtain ⟨m, rfl, hm⟩ := wt_int Go.Proofs.Try.underlying3 h
  exact ⟨m, rfl, hm⟩
theorem by_int : Program.bytesOf Go.Proofs.Try.prog 3 = 8 := by kernel_rfl
theorem in_Int1 {H : Type} (n : Nat) (d : DataW H) (h : wt Go.Proofs.Try.prog n 3 d) : ∃ m, dv d = i64V m ∧ InR .i64 m := in_int h
theorem in_Ints {H : Type} {n : Nat} {d : DataW H} (h : wt Go.Proofs.Try.prog n 22 d) : ∃ l : List Int, dv d = .sl .p (l.map i64V) ∧ l.length ≤ 17592186044416 := by
  obtain ⟨l, h1, h2, h3⟩ := wt_sl Go.Proofs.Try.underlying22 in_Int1 h
  rw [by_int] at h2
  exact ⟨l, h1, by omega⟩
theorem by_SOp : Program.bytesOf Go.Proofs.Try.prog 65 = 80 := by kernel_rfl
theorem in_SOp {H : Type} (n : Nat) (d : DataW H) (h : wt Go.Proofs.Try.prog n 65 d) : ∃ t : SOp, dv d = soV t ∧ t.pre.length ≤ 17592186044416 ∧ t.add.length ≤ 17592186044416 ∧ t.del.length ≤ 17592186044416 := by
  obtain ⟨parts, m, rfl, hp⟩ := wt_st Go.Proofs.Try.underlying65 h
  match parts, hp with
  | [d0, d1, d2, d3], hp =>
    obtain ⟨h0, h1, h2, h3, _⟩ := hp
    obtain ⟨l0, e0, b0⟩ := in_Ints h0
    obtain ⟨l1, e1, b1⟩ := in_Ints h1
    obtain ⟨l2, e2, b2⟩ := in_Ints h2
    obtain ⟨k, rfl, hk⟩ := wt_int Go.Proofs.Try.underlying3 h3
    refine ⟨⟨l0, l1, l2, k⟩, ?_, b0, b1, b2⟩
    simp only [dv, dvC, V.cells, e0, e1, e2, List.append_nil, soV, List.cons_append, List.nil_append]
theorem in_SOps {H : Type} {n : Nat} {d : DataW H} (h : wt Go.Proofs.Try.prog n 23 d) : ∃ l : List SOp, dv d = .sl .p (l.map soV) ∧ l.length ≤ 17592186044416 ∧ ∀ t ∈ l, t.pre.length ≤ 17592186044416 ∧ t.add.length ≤ 17592186044416 ∧ t.del.length ≤ 17592186044416 := by
  obtain ⟨l, h1, h2, h3⟩ := wt_sl Go.Proofs.Try.underlying23 in_SOp h
  rw [by_SOp] at h2
  exact ⟨l, h1, by omega, h3⟩
theorem in_STask {H : Type} {n : Nat} {d : DataW H} (h : wt Go.Proofs.Try.prog n 25 d) : ∃ t : STask, dv d = skV t ∧ SkOk t := by
  obtain ⟨parts, m, rfl, hp⟩ := wt_st Go.Proofs.Try.underlying25 h
  match parts, hp with
  | [d0, d1, d2, d3], hp =>
    obtain ⟨h0, h1, h2, h3, _⟩ := hp
    obtain ⟨k, rfl, hk⟩ := wt_int Go.Proofs.Try.underlying3 h0
    obtain ⟨l1, e1, b1⟩ := in_Ints h1
    obtain ⟨l2, e2, b2⟩ := in_Ints h2
    obtain ⟨l3, e3, b3, b4⟩ := in_SOps h3
    refine ⟨⟨k, l1, l2, l3⟩, ?_, ?_⟩
    · simp only [dv, dvC, V.cells, e1, e2, e3, List.append_nil, skV, List.cons_append, List.nil_append]
    · exact ⟨Nat.le_trans b1 (by decide), Nat.le_trans b2 (by decide), Nat.le_trans b3 (by decide), fun o ho => ⟨Nat.le_trans (b4 o ho).1 (by decide), Nat.le_trans (b4 o ho).2.1 (by decide), Nat.le_trans (b4 o ho).2.2 (by decide)⟩⟩
end Hm
end
