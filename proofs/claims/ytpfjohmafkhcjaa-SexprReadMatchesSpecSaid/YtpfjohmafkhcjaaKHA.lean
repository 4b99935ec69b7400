/- Part KHA of the proof. -/
import Derived.Test.YtpfjohmafkhcjaaKPA
import Derived.Shelf.Small.Strs
import Derived.Lib.IndexLaws
import Derived.Shelf.Strings.Builder1
set_option linter.unusedVariables false
set_option linter.unusedSimpArgs false
section
namespace Go.Proofs
open Go.Shelf
def Try.ix_ren : Go.Shelf.Ren := ⟨fun | 137 => 22 | 217 => 26 | 266 => 28 | _ => 0, fun | 3 => 3 | 5 => 5 | 9 => 9 | _ => 0, fun x => x⟩
theorem Try.ix_lays : Lays.n137 Try.prog Try.ix_ren :=
  { mixed := by kernel_rfl,
    f137 := Try.func22.trans (congrArg some (by kernel_rfl)),
    f217 := Try.func26.trans (congrArg some (by kernel_rfl)),
    f266 := Try.func28.trans (congrArg some (by kernel_rfl)),
    t3 := Try.underlying3, a3 := Try.isAgg3, z3 := Try.sizeOf3, v3 := Try.zeroValue3,
    t5 := Try.underlying5, a5 := Try.isAgg5, z5 := Try.sizeOf5, v5 := Try.zeroValue5,
    t9 := Try.underlying9, a9 := Try.isAgg9, z9 := Try.sizeOf9, v9 := Try.zeroValue9 }
end Go.Proofs
namespace Hm
open Go
set_option maxRecDepth 100000
set_option maxHeartbeats 4000000
theorem u8leX (c : UInt8) : c.toNat ≤ 255 := by have := c.toNat_lt; omega
theorem ix_mem (s : List UInt8) (c : UInt8) : decide (Lib.indexByte s c ≥ 0) = decide (c ∈ s) := by
  have h1 := Lib.indexByte_ge s c
  rw [decide_eq_decide]
  constructor
  · intro h
    have := (Lib.indexByte_some (o := (Lib.indexByte s c).toNat) (l := s) (c := c) (by omega)).1
    exact List.mem_of_getElem? this
  · intro h
    obtain ⟨k, hk⟩ := List.getElem?_of_mem h
    by_cases e : Lib.indexByte s c = -1
    · exact absurd hk (Lib.indexByte_none e k)
    · omega
theorem f_strings_IndexByte (s : List UInt8) (c : UInt8) : Fc Go.Proofs.Try.prog 22 [.str s, .int .u8 c.toNat] (.int .i64 (Lib.indexByte s c)) := ⟨⟨by kernel_rfl, fun w S xs hS _ hxs => by
  obtain ⟨hl, hr⟩ := hxs
  match xs, hl with
  | [x, y], _ =>
    have h0 := hr 0 _ x rfl rfl
    have h1 := hr 1 _ y rfl rfl
    cases h0
    cases h1
    refine ((callsIn_wide (n := 0)).2 (Go.Proofs.Any.strings_IndexByte Go.Proofs.Try.ix_lays ⟨s.toArray⟩ (c.toNat : Int) w)).mono fun e w' he => ?_
    obtain ⟨rfl, rfl⟩ := he
    refine ⟨_, S, rfl, ?_, fun b h => .inl h, hS, ⟨Nat.le_refl _, rfl, rfl, Out.refl _, fun _ _ => rfl⟩⟩
    have e1 : ((c.toNat : Int).toNat.toUInt8) = c := by simp
    rw [e1]
    exact .int _ _⟩⟩
def c_sexpr_isSymbolByte : Cmd :=
 (qS [qb 2 false]
 (.seq (.ops [qm 3 0, qq 4 (.bin .geq false [] (.t 3) (.c (.int .u8 97))), qm 5 4, qg 6 5 true (.mov (.t 0)), qg 7 5 true (.bin .leq false [] (.t 6) (.c (.int .u8 122))), qq 8 (.pick (.t 5) (.t 7) (.c (.bool false))), qm 9 8, qg 10 9 false (.mov (.t 0)), qg 11 9 false (.bin .geq false [] (.t 10) (.c (.int .u8 65))), qg 12 9 false (.mov (.t 11)), qg 13 12 true (.mov (.t 0)), qg 14 12 true (.bin .leq false [] (.t 13) (.c (.int .u8 90))), qg 15 9 false (.pick (.t 12) (.t 14) (.c (.bool false))), qq 16 (.pick (.t 9) (.c (.bool true)) (.t 15)), qm 17 16, qg 18 17 false (.mov (.t 0)), qg 19 17 false (.bin .geq false [] (.t 18) (.c (.int .u8 48))), qg 20 17 false (.mov (.t 19)), qg 21 20 true (.mov (.t 0)), qg 22 20 true (.bin .leq false [] (.t 21) (.c (.int .u8 57))), qg 23 17 false (.pick (.t 20) (.t 22) (.c (.bool false))), qq 24 (.pick (.t 17) (.c (.bool true)) (.t 23)), qm 25 24, qg 26 25 false (.mov (.t 0)), qg 27 25 false (.call .f (.c (.fn 22 [])) [.c (.str [45, 95, 63, 58, 61, 60, 62, 43, 42, 47, 46]), .t 26]), qg 28 25 false (.bin .geq false [] (.t 27) (.c (.int .i64 0))), qq 29 (.pick (.t 25) (.c (.bool true)) (.t 28)), qm 2 29]) .ret))
def r_sexpr_isSymbolByte : List RVar := [.tmp 2]
def n_sexpr_isSymbolByte : Nat := 30
theorem k_sexpr_isSymbolByte : chkFn Go.Proofs.Try.prog 20 n_sexpr_isSymbolByte r_sexpr_isSymbolByte c_sexpr_isSymbolByte = true := by kernel_rfl
theorem f_sexpr_isSymbolByte (c : UInt8) : Fc Go.Proofs.Try.prog 20 [.int .u8 c.toNat] (.bool (symB c)) := by
  have hI := f_strings_IndexByte others c
  have hm := ix_mem others c
  generalize Lib.indexByte others c = ix at *
  have he : symB c = ((decide (97 ≤ c.toNat) && decide (c.toNat ≤ 122)) || (decide (65 ≤ c.toNat) && decide (c.toNat ≤ 90)) || (decide (48 ≤ c.toNat) && decide (c.toNat ≤ 57)) || decide (ix ≥ 0)) := by rw [hm]; rfl
  rw [he]
  clear hm he
  generalize c.toNat = n at *
  refine Fn.step mixed k_sexpr_isSymbolByte ?_
  repeat' (first | refine i_len rfl ?_ | refine i_s rfl ?_ | refine i_lenm rfl rfl rfl ?_ | refine sw ?_ | refine i_s0 rfl ?_ | refine i_gt rfl ?_ | refine i_gf rfl ?_ | refine i_gd rfl ?_ | refine c_t rfl ?_ | refine c_f rfl ?_ | refine jc rfl ?_ | refine ja rfl rfl ?_ | refine jb rfl rfl ?_ | refine jg rfl rfl ?_ | refine jf rfl rfl ?_ | refine jd rfl rfl ?_ | refine je rfl rfl ?_ | refine jh rfl rfl ?_ | refine i_stb rfl ?_ | refine i_alloc rfl ?_ | refine i_box rfl rfl ?_ | refine i_nv rfl ?_ | (refine sp ?_ ?_ <;> try intro h) | refine sf rfl rfl hI ?_ | fail)
  all_goals first
    | (refine e_ret ⟨rfl, _, rfl, congrArg V.bool ?_⟩; first | rfl | (clear hI; simp at *; omega) | (clear hI; simp at *; grind))
    | (exfalso; clear hI; simp at *; omega)
def c_sexpr_IsSymbol : Cmd :=
 (qS [qb 2 false]
 (qT (qS [qm 4 0, qq 5 (.len true (.t 4)), qc 6 0]
 (.block 0 (.loop (qS [qu 7 .lss [] 6 5]
 (qT (.cond (.t 7) .skip (.exit 0))
 (qT (.block 1 (qS [qm 8 6, qm 3 8]
 (qS [qm 9 0, qm 10 3, qq 11 (.index (.t 9) (.t 10)), qk 12 20 [11], qq 13 (.not (.t 12))]
 (.cond (.t 13) (.seq (.ops [qb 2 false]) .ret) .skip))))
 (.ops [qv 14 .add [] 6 1, qm 6 14])))))))
 (.seq (.ops [qm 15 0, qq 16 (.len true (.t 15)), qv 17 .geq [] 16 1, qm 18 17, qg 19 18 true (.mov (.t 0)), qg 20 18 true (.len true (.t 19)), qg 21 18 true (.bin .leq false [] (.t 20) (.c (.int .i64 12))), qq 22 (.pick (.t 18) (.t 21) (.c (.bool false))), qm 2 22]) .ret)))
def r_sexpr_IsSymbol : List RVar := [.tmp 2]
def n_sexpr_IsSymbol : Nat := 23
theorem k_sexpr_IsSymbol : chkFn Go.Proofs.Try.prog 25 n_sexpr_IsSymbol r_sexpr_IsSymbol c_sexpr_IsSymbol = true := by kernel_rfl
theorem symbolB_all {s : List UInt8} (h : ∀ j, j < s.length → ∀ c, s[j]? = some c → symB c = true) : symbolB s = (decide (1 ≤ s.length) && decide (s.length ≤ 12)) := by
  have : s.all symB = true := by
    rw [List.all_eq_true]
    intro x hx
    obtain ⟨i, hi, e⟩ := List.getElem_of_mem hx
    exact h i hi x (by rw [← e]; exact List.getElem?_eq_getElem hi)
  unfold symbolB
  rw [this, Bool.true_and]
theorem symbolB_bad {s : List UInt8} {c : UInt8} (hc : c ∈ s) (h : symB c = false) : symbolB s = false := by
  have : s.all symB = false := by
    rw [List.all_eq_false]
    exact ⟨c, hc, by simp [h]⟩
  unfold symbolB
  rw [this, Bool.false_and]
theorem f_sexpr_IsSymbol (s : List UInt8) (hl : s.length ≤ 140737488355328) : Fc Go.Proofs.Try.prog 25 [.str s] (.bool (symbolB s)) := by
  refine Fn.step mixed k_sexpr_IsSymbol ?_
  repeat (first | refine i_len rfl ?_ | refine i_s rfl ?_ | refine i_lenm rfl rfl rfl ?_ | refine sw ?_ | refine i_s0 rfl ?_ | refine i_gt rfl ?_ | refine i_gf rfl ?_ | refine i_gd rfl ?_ | refine c_t rfl ?_ | refine c_f rfl ?_ | refine jc rfl ?_ | refine ja rfl rfl ?_ | refine jb rfl rfl ?_ | refine jg rfl rfl ?_ | refine jf rfl rfl ?_ | refine jd rfl rfl ?_ | refine je rfl rfl ?_ | refine jh rfl rfl ?_ | refine i_stb rfl ?_ | refine i_alloc rfl ?_ | refine i_box rfl rfl ?_ | refine i_nv rfl ?_)
  refine c_for s.length (fun k => [(0, .str s), (5, .int .i64 s.length), (6, .int .i64 k)]) (fun _ => []) (fun k => ∀ j, j < k → ∀ c, s[j]? = some c → symB c = true) all_zero ft fun k hk hi => ?_
  repeat (first | refine i_len rfl ?_ | refine i_s rfl ?_ | refine i_lenm rfl rfl rfl ?_ | refine sw ?_ | refine i_s0 rfl ?_ | refine i_gt rfl ?_ | refine i_gf rfl ?_ | refine i_gd rfl ?_ | refine c_t rfl ?_ | refine c_f rfl ?_ | refine jc rfl ?_ | refine ja rfl rfl ?_ | refine jb rfl rfl ?_ | refine jg rfl rfl ?_ | refine jf rfl rfl ?_ | refine jd rfl rfl ?_ | refine je rfl rfl ?_ | refine jh rfl rfl ?_ | refine i_stb rfl ?_ | refine i_alloc rfl ?_ | refine i_box rfl rfl ?_ | refine i_nv rfl ?_)
  refine c_cond rfl (fun h => ?_) (fun h => ?_)
  · have hlt : k < s.length := by simpa using h
    obtain ⟨c, hc⟩ := get_some hlt
    have hF := f_sexpr_isSymbolByte c
    cases hs : symB c with
    | true =>
      rw [hs] at hF
      have next := all_succ hi fun c' hc' => by
        rw [hc] at hc'; injection hc' with hc'; rw [← hc']; exact hs
      clear hi h
      repeat' (first | refine i_len rfl ?_ | refine i_s rfl ?_ | refine i_lenm rfl rfl rfl ?_ | refine sw ?_ | refine i_s0 rfl ?_ | refine i_gt rfl ?_ | refine i_gf rfl ?_ | refine i_gd rfl ?_ | refine c_t rfl ?_ | refine c_f rfl ?_ | refine jc rfl ?_ | refine ja rfl rfl ?_ | refine jb rfl rfl ?_ | refine jg rfl rfl ?_ | refine jf rfl rfl ?_ | refine jd rfl rfl ?_ | refine je rfl rfl ?_ | refine jh rfl rfl ?_ | refine i_stb rfl ?_ | refine i_alloc rfl ?_ | refine i_box rfl rfl ?_ | refine i_nv rfl ?_ | (refine sp ?_ ?_ <;> try intro h) | refine sf rfl rfl hF ?_ | fail)
      exact e_for hlt next ft
    | false =>
      rw [hs] at hF
      have hb := symbolB_bad (mem_get hc) hs
      clear hi h
      repeat' (first | refine i_len rfl ?_ | refine i_s rfl ?_ | refine i_lenm rfl rfl rfl ?_ | refine sw ?_ | refine i_s0 rfl ?_ | refine i_gt rfl ?_ | refine i_gf rfl ?_ | refine i_gd rfl ?_ | refine c_t rfl ?_ | refine c_f rfl ?_ | refine jc rfl ?_ | refine ja rfl rfl ?_ | refine jb rfl rfl ?_ | refine jg rfl rfl ?_ | refine jf rfl rfl ?_ | refine jd rfl rfl ?_ | refine je rfl rfl ?_ | refine jh rfl rfl ?_ | refine i_stb rfl ?_ | refine i_alloc rfl ?_ | refine i_box rfl rfl ?_ | refine i_nv rfl ?_ | (refine sp ?_ ?_ <;> try intro h) | refine sf rfl rfl hF ?_ | fail)
      exact e_ret ⟨rfl, _, rfl, congrArg V.bool hb⟩
  · have hge : k = s.length := by have : ¬ k < s.length := by simpa using h
                                  omega
    subst hge
    rw [symbolB_all hi]
    clear hi h
    repeat' (first | refine i_len rfl ?_ | refine i_s rfl ?_ | refine i_lenm rfl rfl rfl ?_ | refine sw ?_ | refine i_s0 rfl ?_ | refine i_gt rfl ?_ | refine i_gf rfl ?_ | refine i_gd rfl ?_ | refine c_t rfl ?_ | refine c_f rfl ?_ | refine jc rfl ?_ | refine ja rfl rfl ?_ | refine jb rfl rfl ?_ | refine jg rfl rfl ?_ | refine jf rfl rfl ?_ | refine jd rfl rfl ?_ | refine je rfl rfl ?_ | refine jh rfl rfl ?_ | refine i_stb rfl ?_ | refine i_alloc rfl ?_ | refine i_box rfl rfl ?_ | refine i_nv rfl ?_ | (refine sp ?_ ?_ <;> try intro h) | fail)
    all_goals refine e_ret ⟨rfl, _, rfl, congrArg V.bool ?_⟩
    all_goals first
      | (have h9 := of_decide_eq_true h; rw [decide_eq_true (show 1 ≤ s.length by omega), Bool.true_and]; exact decide_eq_decide.2 (by omega))
      | (have h9 := of_decide_eq_false h; rw [decide_eq_false (show ¬ 1 ≤ s.length by omega)]; rfl)
def c_R1_SymbolByte : Cmd :=
 (qS [qb 2 false]
 (qS [qm 6 0, qq 7 (.conv .i64 (.t 6)), qm 3 7]
 (qT (qS [qm 8 3, qq 9 (.call .f (.c (.fn 23 [])) [.t 8, .c (.int .i64 97), .c (.int .i64 122)]), qm 10 9, qg 11 10 false (.mov (.t 3)), qg 12 10 false (.call .f (.c (.fn 23 [])) [.t 11, .c (.int .i64 65), .c (.int .i64 90)]), qq 13 (.pick (.t 10) (.c (.bool true)) (.t 12)), qm 14 13, qg 15 14 false (.mov (.t 3)), qg 16 14 false (.call .f (.c (.fn 23 [])) [.t 15, .c (.int .i64 48), .c (.int .i64 57)]), qq 17 (.pick (.t 14) (.c (.bool true)) (.t 16))]
 (.cond (.t 17) (.seq (.ops [qb 2 true]) .ret) .skip))
 (qS [qq 4 (.mov (.c (.str [45, 95, 63, 58, 61, 60, 62, 43, 42, 47, 46])))]
 (qT (qS [qc 5 0]
 (.block 0 (.loop (qT (qS [qm 18 5, qm 19 4, qq 20 (.len true (.t 19)), qu 21 .lss [] 18 20]
 (.cond (.t 21) .skip (.exit 0)))
 (qT (.block 1 (qS [qm 24 4, qm 25 5, qq 26 (.index (.t 24) (.t 25)), qm 27 0, qu 28 .eql [.i] 26 27]
 (.cond (.t 28) (.seq (.ops [qb 2 true]) .ret) .skip)))
 (.ops [qm 22 5, qv 23 .add [] 22 1, qm 5 23]))))))
 (.seq (.ops [qb 2 false]) .ret))))))
def r_R1_SymbolByte : List RVar := [.tmp 2]
def n_R1_SymbolByte : Nat := 29
theorem k_R1_SymbolByte : chkFn Go.Proofs.Try.prog 13 n_R1_SymbolByte r_R1_SymbolByte c_R1_SymbolByte = true := by kernel_rfl
theorem and_dec (n lo hi : Nat) : (decide (lo ≤ n) && decide (n ≤ hi)) = (decide ((lo : Int) ≤ (n : Int)) && decide ((n : Int) ≤ (hi : Int))) := by
  congr 1 <;> exact decide_eq_decide.2 (by omega)
theorem others_get (k : Nat) (h : k < 11) : ∃ c, others[k]? = some c := get_some h
theorem f_R1_SymbolByte (c : UInt8) : Fc Go.Proofs.Try.prog 13 [.int .u8 c.toNat] (.bool (symB c)) := by
  have h1 := f_R1_In c.toNat 97 122
  have h2 := f_R1_In c.toNat 65 90
  have h3 := f_R1_In c.toNat 48 57
  have hu := u8leX c
  have hs : symB c = ((decide ((97 : Int) ≤ c.toNat) && decide ((c.toNat : Int) ≤ 122)) || (decide ((65 : Int) ≤ c.toNat) && decide ((c.toNat : Int) ≤ 90)) || (decide ((48 : Int) ≤ c.toNat) && decide ((c.toNat : Int) ≤ 57)) || decide (c ∈ others)) := by
    unfold symB
    rw [and_dec _ 97 122, and_dec _ 65 90, and_dec _ 48 57]
    rfl
  rw [hs]
  generalize (decide ((97 : Int) ≤ c.toNat) && decide ((c.toNat : Int) ≤ 122)) = b1 at *
  generalize (decide ((65 : Int) ≤ c.toNat) && decide ((c.toNat : Int) ≤ 90)) = b2 at *
  generalize (decide ((48 : Int) ≤ c.toNat) && decide ((c.toNat : Int) ≤ 57)) = b3 at *
  clear hs
  cases hb : (b1 || b2 || b3) with
  | true =>
    rw [Bool.true_or]
    refine Fn.step mixed k_R1_SymbolByte ?_
    repeat' (first | refine i_len rfl ?_ | refine i_s rfl ?_ | refine i_lenm rfl rfl rfl ?_ | refine sw ?_ | refine i_s0 rfl ?_ | refine i_gt rfl ?_ | refine i_gf rfl ?_ | refine i_gd rfl ?_ | refine c_t rfl ?_ | refine c_f rfl ?_ | refine jc rfl ?_ | refine ja rfl rfl ?_ | refine jb rfl rfl ?_ | refine jg rfl rfl ?_ | refine jf rfl rfl ?_ | refine jd rfl rfl ?_ | refine je rfl rfl ?_ | refine jh rfl rfl ?_ | refine i_stb rfl ?_ | refine i_alloc rfl ?_ | refine i_box rfl rfl ?_ | refine i_nv rfl ?_ | (refine sp ?_ ?_ <;> try intro h) | refine sf rfl rfl h1 ?_ | refine sf rfl rfl h2 ?_ | refine sf rfl rfl h3 ?_ | fail)
    all_goals first
      | exact e_ret ⟨rfl, _, rfl, rfl⟩
      | (exfalso; clear h1 h2 h3; simp_all; done)
  | false =>
    simp only [Bool.or_eq_false_iff] at hb
    obtain ⟨⟨rfl, rfl⟩, rfl⟩ := hb
    rw [Bool.false_or]
    refine Fn.step mixed k_R1_SymbolByte ?_
    repeat' (first | refine i_len rfl ?_ | refine i_s rfl ?_ | refine i_lenm rfl rfl rfl ?_ | refine sw ?_ | refine i_s0 rfl ?_ | refine i_gt rfl ?_ | refine i_gf rfl ?_ | refine i_gd rfl ?_ | refine c_t rfl ?_ | refine c_f rfl ?_ | refine jc rfl ?_ | refine ja rfl rfl ?_ | refine jb rfl rfl ?_ | refine jg rfl rfl ?_ | refine jf rfl rfl ?_ | refine jd rfl rfl ?_ | refine je rfl rfl ?_ | refine jh rfl rfl ?_ | refine i_stb rfl ?_ | refine i_alloc rfl ?_ | refine i_box rfl rfl ?_ | refine i_nv rfl ?_ | (refine sp ?_ ?_ <;> try intro h) | refine sf rfl rfl h1 ?_ | refine sf rfl rfl h2 ?_ | refine sf rfl rfl h3 ?_ | fail)
    refine c_for 11 (fun k => [(0, .int .u8 c.toNat), (4, .str others), (5, .int .i64 k)]) (fun _ => []) (fun k => ∀ j, j < k → ∀ d, others[j]? = some d → d ≠ c) all_zero ft fun k hk hi => ?_
    clear h1 h2 h3
    repeat (first | refine i_len rfl ?_ | refine i_s rfl ?_ | refine i_lenm rfl rfl rfl ?_ | refine sw ?_ | refine i_s0 rfl ?_ | refine i_gt rfl ?_ | refine i_gf rfl ?_ | refine i_gd rfl ?_ | refine c_t rfl ?_ | refine c_f rfl ?_ | refine jc rfl ?_ | refine ja rfl rfl ?_ | refine jb rfl rfl ?_ | refine jg rfl rfl ?_ | refine jf rfl rfl ?_ | refine jd rfl rfl ?_ | refine je rfl rfl ?_ | refine jh rfl rfl ?_ | refine i_stb rfl ?_ | refine i_alloc rfl ?_ | refine i_box rfl rfl ?_ | refine i_nv rfl ?_)
    refine c_cond rfl (fun h => ?_) (fun h => ?_)
    · have hlt : k < 11 := by have : (k : Int) < 11 := by simpa [others] using h
                              omega
      obtain ⟨d, hd⟩ := others_get k hlt
      clear h
      repeat' (first | refine i_len rfl ?_ | refine i_s rfl ?_ | refine i_lenm rfl rfl rfl ?_ | refine sw ?_ | refine i_s0 rfl ?_ | refine i_gt rfl ?_ | refine i_gf rfl ?_ | refine i_gd rfl ?_ | refine c_t rfl ?_ | refine c_f rfl ?_ | refine jc rfl ?_ | refine ja rfl rfl ?_ | refine jb rfl rfl ?_ | refine jg rfl rfl ?_ | refine jf rfl rfl ?_ | refine jd rfl rfl ?_ | refine je rfl rfl ?_ | refine jh rfl rfl ?_ | refine i_stb rfl ?_ | refine i_alloc rfl ?_ | refine i_box rfl rfl ?_ | refine i_nv rfl ?_ | (refine sp ?_ ?_ <;> try intro h) | fail)
      · refine e_ret ⟨rfl, _, rfl, congrArg V.bool ?_⟩
        have e0 : (d.toNat : Int) = c.toNat := by simpa using h
        have e : d = c := UInt8.toNat_inj.1 (by omega)
        subst e
        exact decide_eq_true (mem_get hd)
      · refine e_for hlt (all_succ hi fun d' hd' e => ?_) ft
        rw [hd] at hd'
        injection hd' with hd'
        subst hd' e
        simp at h
    · have hge : k = 11 := by have : ¬ (k : Int) < 11 := by simpa [others] using h
                              omega
      subst hge
      clear h
      repeat' (first | refine i_len rfl ?_ | refine i_s rfl ?_ | refine i_lenm rfl rfl rfl ?_ | refine sw ?_ | refine i_s0 rfl ?_ | refine i_gt rfl ?_ | refine i_gf rfl ?_ | refine i_gd rfl ?_ | refine c_t rfl ?_ | refine c_f rfl ?_ | refine jc rfl ?_ | refine ja rfl rfl ?_ | refine jb rfl rfl ?_ | refine jg rfl rfl ?_ | refine jf rfl rfl ?_ | refine jd rfl rfl ?_ | refine je rfl rfl ?_ | refine jh rfl rfl ?_ | refine i_stb rfl ?_ | refine i_alloc rfl ?_ | refine i_box rfl rfl ?_ | refine i_nv rfl ?_ | (refine sp ?_ ?_ <;> try intro h) | fail)
      refine e_ret ⟨rfl, _, rfl, congrArg V.bool ?_⟩
      refine decide_eq_false fun hm => ?_
      obtain ⟨i, hi2, e⟩ := List.getElem_of_mem hm
      exact hi i hi2 c (by rw [← e]; exact List.getElem?_eq_getElem hi2) rfl
def c_sexpr_shape : Cmd :=
 (qS [qx 1 1216066 2 0, qc 2 0]
 (qT (.block 0 (qS [qf 4 0 1, ql 5 1 4, qq 6 (.bin .eql false [.s] (.t 5) (.c (.str []))), qm 3 6]
 (.cond (.t 3) (.seq (.ops [qc 2 0]) .ret) (qS [qf 8 0 1, ql 9 1 8, qk 10 25 [9], qq 11 (.not (.t 10)), qm 7 11]
 (.cond (.t 7) (.seq (.ops [qc 2 12]) .ret) (qS [qf 13 1 1, ql 14 1 13, qn 15 14, qv 16 .gtr [] 15 0, qm 12 16]
 (.cond (.t 12) (.seq (.ops [qc 2 5]) .ret) .skip)))))))
 (.seq (.ops [qc 2 0]) .ret)))
def r_sexpr_shape : List RVar := [.tmp 2]
def n_sexpr_shape : Nat := 17
theorem k_sexpr_shape : chkFn Go.Proofs.Try.prog 19 n_sexpr_shape r_sexpr_shape c_sexpr_shape = true := by kernel_rfl
theorem f_sexpr_shape (n : Sx) (h1 : n.sym.length ≤ 140737488355328) (h2 : n.ch.length ≤ 140737488355328) : Fc Go.Proofs.Try.prog 19 [sxV n] (.int .i64 (shapeC n)) := by
  have hS := f_sexpr_IsSymbol n.sym h1
  unfold shapeC
  refine Fn.step mixed k_sexpr_shape ?_
  generalize hb : symbolB n.sym = b at *
  by_cases c1 : n.sym = []
  · rw [if_pos c1]
    repeat' (first | refine i_len rfl ?_ | refine i_s rfl ?_ | refine i_lenm rfl rfl rfl ?_ | refine sw ?_ | refine i_s0 rfl ?_ | refine i_gt rfl ?_ | refine i_gf rfl ?_ | refine i_gd rfl ?_ | refine c_t rfl ?_ | refine c_f rfl ?_ | refine jc rfl ?_ | refine ja rfl rfl ?_ | refine jb rfl rfl ?_ | refine jg rfl rfl ?_ | refine jf rfl rfl ?_ | refine jd rfl rfl ?_ | refine je rfl rfl ?_ | refine jh rfl rfl ?_ | refine i_stb rfl ?_ | refine i_alloc rfl ?_ | refine i_box rfl rfl ?_ | refine i_nv rfl ?_ | (refine sp ?_ ?_ <;> try intro h) | refine sf rfl rfl hS ?_ | fail)
    all_goals first
      | exact e_ret ⟨rfl, _, rfl, rfl⟩
      | (exfalso; clear hS; simp_all; done)
  · rw [if_neg c1]
    have c1' : (n.sym == []) = false := by simpa using c1
    cases b with
    | false =>
      rw [if_pos rfl]
      repeat' (first | refine i_len rfl ?_ | refine i_s rfl ?_ | refine i_lenm rfl rfl rfl ?_ | refine sw ?_ | refine i_s0 rfl ?_ | refine i_gt rfl ?_ | refine i_gf rfl ?_ | refine i_gd rfl ?_ | refine c_t rfl ?_ | refine c_f rfl ?_ | refine jc rfl ?_ | refine ja rfl rfl ?_ | refine jb rfl rfl ?_ | refine jg rfl rfl ?_ | refine jf rfl rfl ?_ | refine jd rfl rfl ?_ | refine je rfl rfl ?_ | refine jh rfl rfl ?_ | refine i_stb rfl ?_ | refine i_alloc rfl ?_ | refine i_box rfl rfl ?_ | refine i_nv rfl ?_ | (refine sp ?_ ?_ <;> try intro h) | refine sf rfl rfl hS ?_ | fail)
      all_goals first
        | exact e_ret ⟨rfl, _, rfl, rfl⟩
        | (exfalso; clear hS; simp_all; done)
    | true =>
      rw [if_neg (by simp)]
      by_cases c2 : n.ch ≠ []
      · have hp := List.length_pos_iff.2 c2
        rw [if_pos c2]
        repeat' (first | refine i_len rfl ?_ | refine i_s rfl ?_ | refine i_lenm rfl rfl rfl ?_ | refine sw ?_ | refine i_s0 rfl ?_ | refine i_gt rfl ?_ | refine i_gf rfl ?_ | refine i_gd rfl ?_ | refine c_t rfl ?_ | refine c_f rfl ?_ | refine jc rfl ?_ | refine ja rfl rfl ?_ | refine jb rfl rfl ?_ | refine jg rfl rfl ?_ | refine jf rfl rfl ?_ | refine jd rfl rfl ?_ | refine je rfl rfl ?_ | refine jh rfl rfl ?_ | refine i_stb rfl ?_ | refine i_alloc rfl ?_ | refine i_box rfl rfl ?_ | refine i_nv rfl ?_ | (refine sp ?_ ?_ <;> try intro h) | refine sf rfl rfl hS ?_ | fail)
        all_goals first
          | exact e_ret ⟨rfl, _, rfl, rfl⟩
          | (exfalso; clear hS; simp_all; done)
          | (exfalso; clear hS; simp at *; omega)
      · rw [if_neg c2]
        have c3 : n.ch = [] := by simpa using c2
        repeat' (first | refine i_len rfl ?_ | refine i_s rfl ?_ | refine i_lenm rfl rfl rfl ?_ | refine sw ?_ | refine i_s0 rfl ?_ | refine i_gt rfl ?_ | refine i_gf rfl ?_ | refine i_gd rfl ?_ | refine c_t rfl ?_ | refine c_f rfl ?_ | refine jc rfl ?_ | refine ja rfl rfl ?_ | refine jb rfl rfl ?_ | refine jg rfl rfl ?_ | refine jf rfl rfl ?_ | refine jd rfl rfl ?_ | refine je rfl rfl ?_ | refine jh rfl rfl ?_ | refine i_stb rfl ?_ | refine i_alloc rfl ?_ | refine i_box rfl rfl ?_ | refine i_nv rfl ?_ | (refine sp ?_ ?_ <;> try intro h) | refine sf rfl rfl hS ?_ | fail)
        all_goals first
          | exact e_ret ⟨rfl, _, rfl, rfl⟩
          | (exfalso; clear hS; simp_all; done)
end Hm
end
section
namespace Hm
open Go
set_option maxRecDepth 100000
set_option maxHeartbeats 4000000
def fsL (l : List Sx) (i n : Nat) : List Int := (List.range n).map fun (j : Nat) => if j < i then fst_ l j else 0
def dpL (l : List Sx) (i : Nat) (d : Int) (n : Nat) : List Int := (List.range n).map fun (j : Nat) => if j < i then (dp l j : Int) else if j = i then d else 0
theorem fsL_len (l : List Sx) (i n : Nat) : (fsL l i n).length = n := by simp [fsL]
theorem dpL_len (l : List Sx) (i : Nat) (d : Int) (n : Nat) : (dpL l i d n).length = n := by simp [dpL]
theorem fsL_get (l : List Sx) {i n j : Nat} (h : j < n) : (fsL l i n)[j]? = some (if j < i then fst_ l j else 0) := by
  unfold fsL
  rw [List.getElem?_map, List.getElem?_range h]; rfl
theorem dpL_get (l : List Sx) {i n j : Nat} (d : Int) (h : j < n) : (dpL l i d n)[j]? = some (if j < i then (dp l j : Int) else if j = i then d else 0) := by
  unfold dpL
  rw [List.getElem?_map, List.getElem?_range h]; rfl
theorem fsL_set (l : List Sx) {i n : Nat} (h : i < n) : (fsL l i n).set i (fst_ l i) = fsL l (i + 1) n := by
  apply List.ext_getElem?
  intro j
  by_cases hj : j < n
  · rw [List.getElem?_set, fsL_get l hj, fsL_get l hj]
    by_cases e : i = j
    · subst e; simp [fsL_len, h]
    · rw [if_neg e]
      congr 1
      by_cases c : j < i
      · rw [if_pos c, if_pos (by omega)]
      · rw [if_neg c, if_neg (by omega)]
  · rw [List.getElem?_eq_none (by simp [fsL_len]; omega), List.getElem?_eq_none (by rw [fsL_len]; omega)]
theorem dpL_set (l : List Sx) {i n : Nat} (d e : Int) (h : i < n) : (dpL l i d n).set i e = dpL l i e n := by
  apply List.ext_getElem?
  intro j
  by_cases hj : j < n
  · rw [List.getElem?_set, dpL_get l d hj, dpL_get l e hj]
    by_cases q : i = j
    · subst q; simp [dpL_len, h]
    · rw [if_neg q]
      congr 1
      by_cases c : j < i
      · rw [if_pos c, if_pos c]
      · rw [if_neg c, if_neg c, if_neg (fun e => q e.symm), if_neg (fun e => q e.symm)]
  · rw [List.getElem?_eq_none (by simp [dpL_len]; omega), List.getElem?_eq_none (by rw [dpL_len]; omega)]
theorem dpL_next (l : List Sx) {i n : Nat} : dpL l i (dp l i) n = dpL l (i + 1) 0 n := by
  unfold dpL
  refine List.map_congr_left fun j _ => ?_
  by_cases c : j < i
  · rw [if_pos c, if_pos (by omega)]
  · rw [if_neg c]
    by_cases e : j = i
    · subst e; rw [if_pos rfl, if_pos (by omega)]
    · rw [if_neg e, if_neg (by omega)]
      split <;> rfl
theorem fsL_zero (l : List Sx) (n : Nat) : (fsL l 0 n).map i64V = List.replicate n (.int .i64 0) := by
  apply List.ext_getElem?
  intro j
  by_cases hj : j < n
  · rw [List.getElem?_map, fsL_get l hj, List.getElem?_replicate, if_pos hj]; rfl
  · rw [List.getElem?_eq_none (by simp [fsL_len]; omega), List.getElem?_eq_none (by simp; omega)]
theorem dpL_zero (l : List Sx) (n : Nat) : (dpL l 0 0 n).map i64V = List.replicate n (.int .i64 0) := by
  apply List.ext_getElem?
  intro j
  by_cases hj : j < n
  · rw [List.getElem?_map, dpL_get l 0 hj, List.getElem?_replicate, if_pos hj]
    simp [i64V]
  · rw [List.getElem?_eq_none (by simp [dpL_len]; omega), List.getElem?_eq_none (by simp; omega)]
theorem sx_hit {l : List Sx} {i : Nat} {f : Flt} (h0 : ¬ (l.length = 0 ∨ l.length > 300)) (hi : i < l.length) (hp : ∀ j, j < i → nodeBad l j = none) (hf : nodeBad l i = some f) : sxFault l = f := by
  unfold sxFault
  rw [if_neg h0, scan0_hit hp hi hf]
theorem sx_all {l : List Sx} (h0 : ¬ (l.length = 0 ∨ l.length > 300)) (hp : ∀ j, j < l.length → nodeBad l j = none) : sxFault l = if sz l (l.length - 1) ≠ l.length then ⟨5, -1⟩ else okF := by
  unfold sxFault
  rw [if_neg h0, scan0_none hp]
theorem okTo_of {l : List Sx} {i : Nat} (hp : ∀ j, j < i → nodeBad l j = none) : okTo l i := fun j hj x hx => (nodeBad_none hx).1 (hp j hj)
theorem chTo_succ {l : List Sx} {i : Nat} {x : Sx} (h : okTo l i) (hx : l[i]? = some x) {e : Int} (he : chn l i x.ch.reverse = some e) : chTo l (i + 1) := fun j hj y hy => by
  by_cases c : j < i
  · exact h.chs j c y hy
  · have : j = i := by omega
    subst this
    rw [hx] at hy
    cases hy
    exact ⟨e, he⟩
theorem len0 {n : Nat} (h : ((n : Int) == 0) = true) : n = 0 := by have : (n : Int) = 0 := by simpa using h
                                                                   omega
def c_sexpr_Validate : Cmd :=
 (qS [qq 2 (.alloc 640130 (.agg [.int .i64 0, .int .i64 0]))]
 (qT (qS [qm 11 0, qn 12 11, qv 13 .eql [.i] 12 0, qm 14 13, qg 15 14 false (.mov (.t 0)), qg 16 14 false (.len false (.t 15)), qg 17 14 false (.bin .gtr false [] (.t 16) (.c (.int .i64 300))), qq 18 (.pick (.t 14) (.c (.bool true)) (.t 17))]
 (.cond (.t 18) (.seq (.ops [qq 19 (.build [.int .i64 0, .int .i64 0] [(0 , 1 , .c (.int .i64 2)), (1 , 1 , .c (.int .i64 (-1)))]), qs 2 2 19]) .ret) .skip))
 (qS [qm 20 0, qn 21 20, qq 22 (.mkSl 641409 1 8 (.int .i64 0) (.t 21) (.t 21)), qm 3 22]
 (qS [qm 23 0, qn 24 23, qq 25 (.mkSl 641601 1 8 (.int .i64 0) (.t 24) (.t 24)), qm 4 25]
 (qT (qS [qm 26 0, qn 27 26, qc 28 0]
 (.block 0 (.loop (qS [qu 29 .lss [] 28 27]
 (qT (.cond (.t 29) .skip (.exit 0))
 (qT (.block 1 (qS [qm 30 28, qi 31 2 26 28, qL 32 2 31, qq 6 (.alloc 640386 (.agg [.str [], .sl .nil []])), qm 5 30, qs 2 6 32]
 (qT (qS [qL 33 2 6, qk 34 19 [33], qm 7 34]
 (qS [qm 35 7, qv 36 .neq [.i] 35 0]
 (.cond (.t 36) (.seq (.ops [qm 37 7, qm 38 5, qq 39 (.build [.int .i64 0, .int .i64 0] [(0 , 1 , .t 37), (1 , 1 , .t 38)]), qs 2 2 39]) .ret) .skip)))
 (qS [qm 40 5, qm 8 40]
 (qT (qS [qf 41 1 6, ql 42 1 41, qn 43 42, qv 44 .sub [] 43 1, qm 9 44]
 (.block 2 (.loop (qT (qS [qm 45 9, qv 46 .geq [] 45 0]
 (.cond (.t 46) .skip (.exit 2)))
 (qT (.block 3 (qS [qf 49 1 6, ql 50 1 49, qm 51 9, qi 52 1 50 51, ql 53 1 52, qm 10 53]
 (qT (qS [qm 54 10, qv 55 .lss [] 54 0, qm 56 55, qg 57 56 false (.mov (.t 10)), qg 58 56 false (.mov (.t 8)), qg 59 56 false (.bin .sub false [] (.t 58) (.c (.int .i64 1))), qg 60 56 false (.bin .neq false [.i] (.t 57) (.t 59)), qq 61 (.pick (.t 56) (.c (.bool true)) (.t 60))]
 (.cond (.t 61) (.seq (.ops [qm 62 5, qq 63 (.build [.int .i64 0, .int .i64 0] [(0 , 1 , .c (.int .i64 5)), (1 , 1 , .t 62)]), qs 2 2 63]) .ret) .skip))
 (qS [qm 64 3, qm 65 10, qi 66 1 64 65, ql 67 1 66, qm 8 67]
 (.ops [qm 68 4, qm 69 5, qm 70 4, qm 71 5, qi 72 1 70 71, ql 73 1 72, qm 74 4, qm 75 10, qi 76 1 74 75, ql 77 1 76, qq 78 (.max (.t 73) (.t 77)), qi 79 1 68 69, qs 1 79 78])))))
 (.ops [qm 47 9, qv 48 .sub [] 47 1, qm 9 48]))))))
 (qS [qm 80 3, qm 81 5, qm 82 8, qi 83 1 80 81, qs 1 83 82]
 (qS [qm 84 4, qm 85 5, qi 86 1 84 85, ql 87 1 86, qv 88 .add [] 87 1, qi 89 1 84 85, qs 1 89 88]
 (qS [qm 90 4, qm 91 5, qi 92 1 90 91, ql 93 1 92, qv 94 .gtr [] 93 12]
 (.cond (.t 94) (.seq (.ops [qm 95 5, qq 96 (.build [.int .i64 0, .int .i64 0] [(0 , 1 , .c (.int .i64 10)), (1 , 1 , .t 95)]), qs 2 2 96]) .ret) .skip)))))))))
 (.ops [qv 97 .add [] 28 1, qm 28 97])))))))
 (qT (qS [qm 98 3, qm 99 0, qn 100 99, qv 101 .sub [] 100 1, qi 102 1 98 101, ql 103 1 102, qv 104 .neq [.i] 103 0]
 (.cond (.t 104) (.seq (.ops [qq 105 (.build [.int .i64 0, .int .i64 0] [(0 , 1 , .c (.int .i64 5)), (1 , 1 , .c (.int .i64 (-1)))]), qs 2 2 105]) .ret) .skip))
 (.seq (.ops [qq 106 (.build [.int .i64 0, .int .i64 0] []), qs 2 2 106]) .ret)))))))
def r_sexpr_Validate : List RVar := [.cell true 2 2]
def n_sexpr_Validate : Nat := 107
theorem k_sexpr_Validate : chkFn Go.Proofs.Try.prog 10 n_sexpr_Validate r_sexpr_Validate c_sexpr_Validate = true := by kernel_rfl
theorem f_sexpr_Validate (l : List Sx) (ho : SxsOk l) : Fc Go.Proofs.Try.prog 10 [.sl .p (l.map sxV)] (ftV (sxFault l)) := by
  by_cases hb : l.length = 0 ∨ l.length > 300
  · have e : sxFault l = ⟨2, -1⟩ := by unfold sxFault; rw [if_pos hb]
    rw [e]
    refine Fn.step mixed k_sexpr_Validate ?_
    repeat' (first | refine i_len rfl ?_ | refine i_s rfl ?_ | refine i_lenm rfl rfl rfl ?_ | refine sw ?_ | refine i_s0 rfl ?_ | refine i_gt rfl ?_ | refine i_gf rfl ?_ | refine i_gd rfl ?_ | refine c_t rfl ?_ | refine c_f rfl ?_ | refine jc rfl ?_ | refine ja rfl rfl ?_ | refine jb rfl rfl ?_ | refine jg rfl rfl ?_ | refine jf rfl rfl ?_ | refine jd rfl rfl ?_ | refine je rfl rfl ?_ | refine jh rfl rfl ?_ | refine i_stb rfl ?_ | refine i_alloc rfl ?_ | refine i_box rfl rfl ?_ | refine i_nv rfl ?_ | (refine sp ?_ ?_ <;> try intro h) | fail)
    all_goals first
      | exact e_ret ⟨rfl, _, rfl, rfl⟩
      | (exfalso; have h1 := of_decide_eq_false h; rename_i h0; have h2 : ¬ (l.length : Int) = 0 := (by simpa using h0); omega)
  have hl : 1 ≤ l.length ∧ l.length ≤ 300 := by omega
  have hol := ho.len
  refine Fn.step mixed k_sexpr_Validate ?_
  repeat' (first | refine i_len rfl ?_ | refine i_s rfl ?_ | refine i_lenm rfl rfl rfl ?_ | refine sw ?_ | refine i_s0 rfl ?_ | refine i_gt rfl ?_ | refine i_gf rfl ?_ | refine i_gd rfl ?_ | refine c_t rfl ?_ | refine c_f rfl ?_ | refine jc rfl ?_ | refine ja rfl rfl ?_ | refine jb rfl rfl ?_ | refine jg rfl rfl ?_ | refine jf rfl rfl ?_ | refine jd rfl rfl ?_ | refine je rfl rfl ?_ | refine jh rfl rfl ?_ | refine i_stb rfl ?_ | refine i_alloc rfl ?_ | refine i_box rfl rfl ?_ | refine i_nv rfl ?_ | (refine sp ?_ ?_ <;> try intro h) | fail)
  all_goals first
    | exact absurd (len0 h) (by omega)
    | (exfalso; have := of_decide_eq_true h; omega)
    | skip
  refine i_mks rfl rfl rfl (by omega) (by omega) (by omega) (by omega) rfl ?_
  repeat (first | refine i_len rfl ?_ | refine i_s rfl ?_ | refine i_lenm rfl rfl rfl ?_ | refine sw ?_ | refine i_s0 rfl ?_ | refine i_gt rfl ?_ | refine i_gf rfl ?_ | refine i_gd rfl ?_ | refine c_t rfl ?_ | refine c_f rfl ?_ | refine jc rfl ?_ | refine ja rfl rfl ?_ | refine jb rfl rfl ?_ | refine jg rfl rfl ?_ | refine jf rfl rfl ?_ | refine jd rfl rfl ?_ | refine je rfl rfl ?_ | refine jh rfl rfl ?_ | refine i_stb rfl ?_ | refine i_alloc rfl ?_ | refine i_box rfl rfl ?_ | refine i_nv rfl ?_)
  refine i_mks rfl rfl rfl (by omega) (by omega) (by omega) (by omega) rfl ?_
  repeat (first | refine i_len rfl ?_ | refine i_s rfl ?_ | refine i_lenm rfl rfl rfl ?_ | refine sw ?_ | refine i_s0 rfl ?_ | refine i_gt rfl ?_ | refine i_gf rfl ?_ | refine i_gd rfl ?_ | refine c_t rfl ?_ | refine c_f rfl ?_ | refine jc rfl ?_ | refine ja rfl rfl ?_ | refine jb rfl rfl ?_ | refine jg rfl rfl ?_ | refine jf rfl rfl ?_ | refine jd rfl rfl ?_ | refine je rfl rfl ?_ | refine jh rfl rfl ?_ | refine i_stb rfl ?_ | refine i_alloc rfl ?_ | refine i_box rfl rfl ?_ | refine i_nv rfl ?_)
  refine c_for l.length (fun i => [(0, .sl .p (l.map sxV)), (2, .bptr 640130 0), (3, .msl 641409 0 0 l.length), (4, .msl 641601 0 0 l.length), (26, .sl .p (l.map sxV)), (27, .int .i64 l.length), (28, .int .i64 i)])
    (fun i => [(640130, .box (.agg [.int .i64 0, .int .i64 0])), (641409, .arr 0 ((fsL l i l.length).map i64V)), (641601, .arr 0 ((dpL l i 0 l.length).map i64V))]) (fun i => ∀ j, j < i → nodeBad l j = none) all_zero
    ⟨⟨rfl, rfl, rfl, rfl, rfl, rfl, rfl, trivial⟩, ⟨rfl, by rw [fsL_zero]; rfl, by rw [dpL_zero]; rfl, trivial⟩, rfl⟩ fun i hi hp => ?_
  have hfl := fsL_len l i l.length
  have hok := okTo_of hp
  repeat (first | refine i_len rfl ?_ | refine i_s rfl ?_ | refine i_lenm rfl rfl rfl ?_ | refine sw ?_ | refine i_s0 rfl ?_ | refine i_gt rfl ?_ | refine i_gf rfl ?_ | refine i_gd rfl ?_ | refine c_t rfl ?_ | refine c_f rfl ?_ | refine jc rfl ?_ | refine ja rfl rfl ?_ | refine jb rfl rfl ?_ | refine jg rfl rfl ?_ | refine jf rfl rfl ?_ | refine jd rfl rfl ?_ | refine je rfl rfl ?_ | refine jh rfl rfl ?_ | refine i_stb rfl ?_ | refine i_alloc rfl ?_ | refine i_box rfl rfl ?_ | refine i_nv rfl ?_)
  refine c_cond rfl (fun h => ?_) (fun h => ?_)
  · have hlt : i < l.length := by simpa using h
    obtain ⟨x, hx⟩ := get_some hlt
    obtain ⟨b1, b2⟩ := ho.e x (mem_get hx)
    have hS := f_sexpr_shape x b1 b2
    clear h
    by_cases hsh : shapeC x ≠ 0
    · have hbad : nodeBad l i = some ⟨shapeC x, i⟩ := by unfold nodeBad; rw [hx]; simp only; rw [if_pos hsh]
      rw [sx_hit hb hlt hp hbad]
      generalize shapeC x = e at *
      clear hp hok hbad ho
      repeat' (first | refine i_len rfl ?_ | refine i_s rfl ?_ | refine i_lenm rfl rfl rfl ?_ | refine sw ?_ | refine i_s0 rfl ?_ | refine i_gt rfl ?_ | refine i_gf rfl ?_ | refine i_gd rfl ?_ | refine c_t rfl ?_ | refine c_f rfl ?_ | refine jc rfl ?_ | refine ja rfl rfl ?_ | refine jb rfl rfl ?_ | refine jg rfl rfl ?_ | refine jf rfl rfl ?_ | refine jd rfl rfl ?_ | refine je rfl rfl ?_ | refine jh rfl rfl ?_ | refine i_stb rfl ?_ | refine i_alloc rfl ?_ | refine i_box rfl rfl ?_ | refine i_nv rfl ?_ | (refine sp ?_ ?_ <;> try intro h) | refine sf rfl rfl hS ?_ | fail)
      all_goals first
        | exact e_ret ⟨rfl, _, rfl, rfl⟩
        | (exfalso; have h9 : e = 0 := (by simpa using h); exact hsh h9)
    have hsh0 : shapeC x = 0 := by simpa using hsh
    rw [hsh0] at hS
    have hcl : x.ch.reverse.length = x.ch.length := List.length_reverse
    repeat (first | refine i_len rfl ?_ | refine i_s rfl ?_ | refine i_lenm rfl rfl rfl ?_ | refine sw ?_ | refine i_s0 rfl ?_ | refine i_gt rfl ?_ | refine i_gf rfl ?_ | refine i_gd rfl ?_ | refine c_t rfl ?_ | refine c_f rfl ?_ | refine jc rfl ?_ | refine ja rfl rfl ?_ | refine jb rfl rfl ?_ | refine jg rfl rfl ?_ | refine jf rfl rfl ?_ | refine jd rfl rfl ?_ | refine je rfl rfl ?_ | refine jh rfl rfl ?_ | refine i_stb rfl ?_ | refine i_alloc rfl ?_ | refine i_box rfl rfl ?_ | refine i_nv rfl ?_ | refine sf rfl rfl hS ?_)
    refine c_for x.ch.length (fun k => [(0, .sl .p (l.map sxV)), (2, .bptr 640130 0), (3, .msl 641409 0 0 l.length), (4, .msl 641601 0 0 l.length), (5, .int .i64 i), (6, .bptr 640386 0), (8, .int .i64 ((i : Int) - sumN (sz l) (x.ch.reverse.take k))), (9, .int .i64 ((x.ch.length : Int) - 1 - k)), (26, .sl .p (l.map sxV)), (27, .int .i64 l.length), (28, .int .i64 i)])
      (fun k => [(640130, .box (.agg [.int .i64 0, .int .i64 0])), (641409, .arr 0 ((fsL l i l.length).map i64V)), (641601, .arr 0 ((dpL l i (maxN (dp l) (x.ch.reverse.take k)) l.length).map i64V)), (640386, .box (sxV x))])
      (fun k => chn l i (x.ch.reverse.take k) = some ((i : Int) - sumN (sz l) (x.ch.reverse.take k))) (by simp [chn, sumN])
      ⟨⟨rfl, rfl, rfl, rfl, rfl, rfl, ?_, ?_, rfl, rfl, rfl, trivial⟩, ⟨rfl, rfl, rfl, rfl, trivial⟩, rfl⟩ fun k hk hc => ?_
    · show V.int _ _ = V.int _ _
      simp [sumN]
    · show V.int _ _ = V.int _ _
      simp
    have hmt := maxN_take (dp l) x.ch.reverse k
    have hst := sumN_take (sz l) x.ch.reverse k
    have hrl : (x.ch.reverse.take k).length = k := by rw [List.length_take]; omega
    clear hS
    repeat (first | refine i_len rfl ?_ | refine i_s rfl ?_ | refine i_lenm rfl rfl rfl ?_ | refine sw ?_ | refine i_s0 rfl ?_ | refine i_gt rfl ?_ | refine i_gf rfl ?_ | refine i_gd rfl ?_ | refine c_t rfl ?_ | refine c_f rfl ?_ | refine jc rfl ?_ | refine ja rfl rfl ?_ | refine jb rfl rfl ?_ | refine jg rfl rfl ?_ | refine jf rfl rfl ?_ | refine jd rfl rfl ?_ | refine je rfl rfl ?_ | refine jh rfl rfl ?_ | refine i_stb rfl ?_ | refine i_alloc rfl ?_ | refine i_box rfl rfl ?_ | refine i_nv rfl ?_)
    refine c_cond rfl (fun h => ?_) (fun h => ?_)
    · have hkl : k < x.ch.length := by have := of_decide_eq_true h; omega
      obtain ⟨c, hcr⟩ := get_some (l := x.ch.reverse) (k := k) (by omega)
      have hcx : x.ch[((x.ch.length : Int) - 1 - k).toNat]? = some c := by
        rw [List.getElem?_reverse hkl] at hcr
        rw [show ((x.ch.length : Int) - 1 - k).toNat = x.ch.length - 1 - k from by omega]; exact hcr
      have hk0 : (0 : Int) ≤ (x.ch.length : Int) - 1 - k := by omega
      have hsn := chn_snoc (l := l) (x.ch.reverse.take k) i c
      rw [← take_succ_get hcr, hc] at hsn
      simp only at hsn
      have hS1 : sumN (sz l) (x.ch.reverse.take (k + 1)) = sumN (sz l) (x.ch.reverse.take k) + sz l c.toNat := by rw [take_succ_get hcr, sumN_snoc]
      have hM1 : maxN (dp l) (x.ch.reverse.take (k + 1)) = max (maxN (dp l) (x.ch.reverse.take k)) (dp l c.toNat) := by rw [take_succ_get hcr, maxN_snoc]
      have hsb : (sumN (sz l) (x.ch.reverse.take k) : Int) ≤ 400 := by have := chn_nn hok.chs _ _ _ (by omega) (Int.le_refl _) hc; omega
      clear h
      by_cases hbd : c < 0 ∨ c ≠ (i : Int) - sumN (sz l) (x.ch.reverse.take k) - 1
      · rw [if_pos hbd] at hsn
        have hno : chn l i x.ch.reverse = none := by
          have := chn_none (l := l) (x.ch.reverse.take (k + 1)) (x.ch.reverse.drop (k + 1)) i hsn
          rwa [List.take_append_drop] at this
        have hbad : nodeBad l i = some ⟨5, i⟩ := by unfold nodeBad; rw [hx]; simp only; rw [if_neg hsh, hno]; rfl
        rw [sx_hit hb hlt hp hbad]
        clear hp hok hbad ho hsn hc hno
        generalize sumN (sz l) (x.ch.reverse.take k) = S at *
        repeat' (first | refine i_len rfl ?_ | refine i_s rfl ?_ | refine i_lenm rfl rfl rfl ?_ | refine sw ?_ | refine i_s0 rfl ?_ | refine i_gt rfl ?_ | refine i_gf rfl ?_ | refine i_gd rfl ?_ | refine c_t rfl ?_ | refine c_f rfl ?_ | refine jc rfl ?_ | refine ja rfl rfl ?_ | refine jb rfl rfl ?_ | refine jg rfl rfl ?_ | refine jf rfl rfl ?_ | refine jd rfl rfl ?_ | refine je rfl rfl ?_ | refine jh rfl rfl ?_ | refine i_stb rfl ?_ | refine i_alloc rfl ?_ | refine i_box rfl rfl ?_ | refine i_nv rfl ?_ | (refine sp ?_ ?_ <;> try intro h) | fail)
        all_goals first
          | exact e_ret ⟨rfl, _, rfl, rfl⟩
          | (exfalso; simp at *; omega)
      · rw [if_neg hbd] at hsn
        simp only [not_or, Decidable.not_not] at hbd
        obtain ⟨hc0, hc1⟩ := hbd
        have hc0' : 0 ≤ c := by omega
        have hci : c < i := by omega
        have hg1 : ((fsL l i l.length).map i64V)[0 + c.toNat]? = some (i64V (fst_ l c.toNat)) := by rw [Nat.zero_add, List.getElem?_map, fsL_get l (by omega), if_pos (by omega)]; rfl
        have hg2 : ((dpL l i (maxN (dp l) (x.ch.reverse.take k)) l.length).map i64V)[0 + ((i : Nat) : Int).toNat]? = some (i64V (maxN (dp l) (x.ch.reverse.take k))) := by
          rw [Nat.zero_add, show ((i : Nat) : Int).toNat = i from rfl, List.getElem?_map, dpL_get l _ hlt, if_neg (by omega), if_pos rfl]; rfl
        have hg3 : ((dpL l i (maxN (dp l) (x.ch.reverse.take k)) l.length).map i64V)[0 + c.toNat]? = some (i64V (dp l c.toNat)) := by rw [Nat.zero_add, List.getElem?_map, dpL_get l _ (by omega), if_pos (by omega)]; rfl
        have hds := dpL_set l (n := l.length) (maxN (dp l) (x.ch.reverse.take k)) (maxN (dp l) (x.ch.reverse.take (k + 1))) hlt
        have hdl := dpL_len l i (maxN (dp l) (x.ch.reverse.take k)) l.length
        clear hp hok ho hc
        generalize hSg : sumN (sz l) (x.ch.reverse.take k) = S at *
        generalize hMg : maxN (dp l) (x.ch.reverse.take k) = M at *
        repeat' (first | refine i_len rfl ?_ | refine i_s rfl ?_ | refine i_lenm rfl rfl rfl ?_ | refine sw ?_ | refine i_s0 rfl ?_ | refine i_gt rfl ?_ | refine i_gf rfl ?_ | refine i_gd rfl ?_ | refine c_t rfl ?_ | refine c_f rfl ?_ | refine jc rfl ?_ | refine ja rfl rfl ?_ | refine jb rfl rfl ?_ | refine jg rfl rfl ?_ | refine jf rfl rfl ?_ | refine jd rfl rfl ?_ | refine je rfl rfl ?_ | refine jh rfl rfl ?_ | refine i_stb rfl ?_ | refine i_alloc rfl ?_ | refine i_box rfl rfl ?_ | refine i_nv rfl ?_ | (refine sp ?_ ?_ <;> try intro h) | fail)
        all_goals first
          | (exfalso; simp at *; omega)
          | skip
        refine i_ima rfl rfl rfl rfl (by omega) (by omega) rfl ?_
        refine i_ldp rfl rfl rfl hg1 rfl ?_
        repeat (first | refine i_len rfl ?_ | refine i_s rfl ?_ | refine i_lenm rfl rfl rfl ?_ | refine sw ?_ | refine i_s0 rfl ?_ | refine i_gt rfl ?_ | refine i_gf rfl ?_ | refine i_gd rfl ?_ | refine c_t rfl ?_ | refine c_f rfl ?_ | refine jc rfl ?_ | refine ja rfl rfl ?_ | refine jb rfl rfl ?_ | refine jg rfl rfl ?_ | refine jf rfl rfl ?_ | refine jd rfl rfl ?_ | refine je rfl rfl ?_ | refine jh rfl rfl ?_ | refine i_stb rfl ?_ | refine i_alloc rfl ?_ | refine i_box rfl rfl ?_ | refine i_nv rfl ?_)
        refine i_ima rfl rfl rfl rfl (by omega) (by omega) rfl ?_
        refine i_ldp rfl rfl rfl hg2 rfl ?_
        repeat (first | refine i_len rfl ?_ | refine i_s rfl ?_ | refine i_lenm rfl rfl rfl ?_ | refine sw ?_ | refine i_s0 rfl ?_ | refine i_gt rfl ?_ | refine i_gf rfl ?_ | refine i_gd rfl ?_ | refine c_t rfl ?_ | refine c_f rfl ?_ | refine jc rfl ?_ | refine ja rfl rfl ?_ | refine jb rfl rfl ?_ | refine jg rfl rfl ?_ | refine jf rfl rfl ?_ | refine jd rfl rfl ?_ | refine je rfl rfl ?_ | refine jh rfl rfl ?_ | refine i_stb rfl ?_ | refine i_alloc rfl ?_ | refine i_box rfl rfl ?_ | refine i_nv rfl ?_)
        refine i_ima rfl rfl rfl rfl (by omega) (by omega) rfl ?_
        refine i_ldp rfl rfl rfl hg3 rfl ?_
        repeat (first | refine i_len rfl ?_ | refine i_s rfl ?_ | refine i_lenm rfl rfl rfl ?_ | refine sw ?_ | refine i_s0 rfl ?_ | refine i_gt rfl ?_ | refine i_gf rfl ?_ | refine i_gd rfl ?_ | refine c_t rfl ?_ | refine c_f rfl ?_ | refine jc rfl ?_ | refine ja rfl rfl ?_ | refine jb rfl rfl ?_ | refine jg rfl rfl ?_ | refine jf rfl rfl ?_ | refine jd rfl rfl ?_ | refine je rfl rfl ?_ | refine jh rfl rfl ?_ | refine i_stb rfl ?_ | refine i_alloc rfl ?_ | refine i_box rfl rfl ?_ | refine i_nv rfl ?_)
        refine i_max rfl rfl rfl ?_
        refine i_ima rfl rfl rfl rfl (by omega) (by omega) rfl ?_
        refine i_sti rfl rfl rfl rfl rfl (by rw [hdl]; omega) ?_
        repeat (first | refine i_len rfl ?_ | refine i_s rfl ?_ | refine i_lenm rfl rfl rfl ?_ | refine sw ?_ | refine i_s0 rfl ?_ | refine i_gt rfl ?_ | refine i_gf rfl ?_ | refine i_gd rfl ?_ | refine c_t rfl ?_ | refine c_f rfl ?_ | refine jc rfl ?_ | refine ja rfl rfl ?_ | refine jb rfl rfl ?_ | refine jg rfl rfl ?_ | refine jf rfl rfl ?_ | refine jd rfl rfl ?_ | refine je rfl rfl ?_ | refine jh rfl rfl ?_ | refine i_stb rfl ?_ | refine i_alloc rfl ?_ | refine i_box rfl rfl ?_ | refine i_nv rfl ?_)
        refine e_for hkl (by rw [hsn, hS1]; congr 1; omega) ⟨⟨rfl, rfl, rfl, rfl, rfl, rfl, ?_, ?_, rfl, rfl, rfl, trivial⟩, ⟨rfl, rfl, ?_, rfl, trivial⟩, rfl⟩
        · show V.int _ _ = V.int _ _
          congr 1
          rw [hS1]
          unfold fst_
          omega
        · show V.int _ _ = V.int _ _
          congr 1
          omega
        · have hmx : ((max M (dp l c.toNat) : Nat) : Int) = if (dp l c.toNat : Int) > (M : Int) then (dp l c.toNat : Int) else (M : Int) := by split <;> omega
          refine congrArg (Blk.arr 0) ?_
          rw [Nat.zero_add, show ((i : Nat) : Int).toNat = i from rfl, ← hmx, ← hM1]
          exact congrArg (List.map i64V) hds
    · have hkl : k = x.ch.length := by have := of_decide_eq_false h; omega
      subst hkl
      rw [show x.ch.reverse.take x.ch.length = x.ch.reverse from by rw [← hcl, List.take_length]] at *
      rw [sumN_rev, maxN_rev] at *
      have hch1 := chTo_succ hok hx hc
      have hlow := hch1.low
      have hsz := sz_eq hlow
      have hdp := dp_eq hlow
      have hle := sz_leC i (i + 1) hch1 (by omega)
      have hdle := dp_le i (i + 1) hlow (by omega)
      rw [chL_get hx] at hsz hdp
      have hat : (i : Int) - (sumN (sz l) x.ch : Nat) = fst_ l i := by unfold fst_; omega
      rw [hat]
      have hfs := fsL_set l (n := l.length) hlt
      have hds := dpL_set l (n := l.length) (maxN (dp l) x.ch : Nat) (dp l i) hlt
      have hdl := dpL_len l i ((maxN (dp l) x.ch : Nat) : Int) l.length
      have hdl2 := dpL_len l i (dp l i) l.length
      have hg2 : ((dpL l i (maxN (dp l) x.ch : Nat) l.length).map i64V)[0 + ((i : Nat) : Int).toNat]? = some (i64V (maxN (dp l) x.ch : Nat)) := by
        rw [Nat.zero_add, show ((i : Nat) : Int).toNat = i from rfl, List.getElem?_map, dpL_get l _ hlt, if_neg (by omega), if_pos rfl]; rfl
      have hg3 : ((dpL l i (dp l i) l.length).map i64V)[0 + ((i : Nat) : Int).toNat]? = some (i64V (dp l i)) := by
        rw [Nat.zero_add, show ((i : Nat) : Int).toNat = i from rfl, List.getElem?_map, dpL_get l _ hlt, if_neg (by omega), if_pos rfl]; rfl
      clear h
      repeat (first | refine i_len rfl ?_ | refine i_s rfl ?_ | refine i_lenm rfl rfl rfl ?_ | refine sw ?_ | refine i_s0 rfl ?_ | refine i_gt rfl ?_ | refine i_gf rfl ?_ | refine i_gd rfl ?_ | refine c_t rfl ?_ | refine c_f rfl ?_ | refine jc rfl ?_ | refine ja rfl rfl ?_ | refine jb rfl rfl ?_ | refine jg rfl rfl ?_ | refine jf rfl rfl ?_ | refine jd rfl rfl ?_ | refine je rfl rfl ?_ | refine jh rfl rfl ?_ | refine i_stb rfl ?_ | refine i_alloc rfl ?_ | refine i_box rfl rfl ?_ | refine i_nv rfl ?_)
      refine i_ima rfl rfl rfl rfl (by omega) (by omega) rfl ?_
      refine i_sti rfl rfl rfl rfl rfl (by rw [hfl]; omega) ?_
      rw [show (0 : Nat) + ((i : Nat) : Int).toNat = i from Nat.zero_add i, hfs]
      repeat (first | refine i_len rfl ?_ | refine i_s rfl ?_ | refine i_lenm rfl rfl rfl ?_ | refine sw ?_ | refine i_s0 rfl ?_ | refine i_gt rfl ?_ | refine i_gf rfl ?_ | refine i_gd rfl ?_ | refine c_t rfl ?_ | refine c_f rfl ?_ | refine jc rfl ?_ | refine ja rfl rfl ?_ | refine jb rfl rfl ?_ | refine jg rfl rfl ?_ | refine jf rfl rfl ?_ | refine jd rfl rfl ?_ | refine je rfl rfl ?_ | refine jh rfl rfl ?_ | refine i_stb rfl ?_ | refine i_alloc rfl ?_ | refine i_box rfl rfl ?_ | refine i_nv rfl ?_)
      refine i_ima rfl rfl rfl rfl (by omega) (by omega) rfl ?_
      refine i_ldp rfl rfl rfl hg2 rfl ?_
      repeat (first | refine i_len rfl ?_ | refine i_s rfl ?_ | refine i_lenm rfl rfl rfl ?_ | refine sw ?_ | refine i_s0 rfl ?_ | refine i_gt rfl ?_ | refine i_gf rfl ?_ | refine i_gd rfl ?_ | refine c_t rfl ?_ | refine c_f rfl ?_ | refine jc rfl ?_ | refine ja rfl rfl ?_ | refine jb rfl rfl ?_ | refine jg rfl rfl ?_ | refine jf rfl rfl ?_ | refine jd rfl rfl ?_ | refine je rfl rfl ?_ | refine jh rfl rfl ?_ | refine i_stb rfl ?_ | refine i_alloc rfl ?_ | refine i_box rfl rfl ?_ | refine i_nv rfl ?_)
      refine i_ima rfl rfl rfl rfl (by omega) (by omega) rfl ?_
      refine i_sti rfl rfl rfl rfl rfl (by rw [hdl]; omega) ?_
      rw [show (0 : Nat) + ((i : Nat) : Int).toNat = i from Nat.zero_add i, show ((maxN (dp l) x.ch : Nat) : Int) + 1 = (dp l i : Int) from by omega, hds]
      repeat (first | refine i_len rfl ?_ | refine i_s rfl ?_ | refine i_lenm rfl rfl rfl ?_ | refine sw ?_ | refine i_s0 rfl ?_ | refine i_gt rfl ?_ | refine i_gf rfl ?_ | refine i_gd rfl ?_ | refine c_t rfl ?_ | refine c_f rfl ?_ | refine jc rfl ?_ | refine ja rfl rfl ?_ | refine jb rfl rfl ?_ | refine jg rfl rfl ?_ | refine jf rfl rfl ?_ | refine jd rfl rfl ?_ | refine je rfl rfl ?_ | refine jh rfl rfl ?_ | refine i_stb rfl ?_ | refine i_alloc rfl ?_ | refine i_box rfl rfl ?_ | refine i_nv rfl ?_)
      refine i_ima rfl rfl rfl rfl (by omega) (by omega) rfl ?_
      refine i_ldp rfl rfl rfl hg3 rfl ?_
      repeat (first | refine i_len rfl ?_ | refine i_s rfl ?_ | refine i_lenm rfl rfl rfl ?_ | refine sw ?_ | refine i_s0 rfl ?_ | refine i_gt rfl ?_ | refine i_gf rfl ?_ | refine i_gd rfl ?_ | refine c_t rfl ?_ | refine c_f rfl ?_ | refine jc rfl ?_ | refine ja rfl rfl ?_ | refine jb rfl rfl ?_ | refine jg rfl rfl ?_ | refine jf rfl rfl ?_ | refine jd rfl rfl ?_ | refine je rfl rfl ?_ | refine jh rfl rfl ?_ | refine i_stb rfl ?_ | refine i_alloc rfl ?_ | refine i_box rfl rfl ?_ | refine i_nv rfl ?_)
      refine c_cond rfl (fun h => ?_) (fun h => ?_)
      · have hd12 : dp l i > 12 := by have := of_decide_eq_true h; omega
        have hbad : nodeBad l i = some ⟨10, i⟩ := by unfold nodeBad; rw [hx]; simp only; rw [if_neg hsh, hc, if_neg (by simp), if_pos hd12]
        rw [sx_hit hb hlt hp hbad]
        clear hp hok hbad ho
        repeat' (first | refine i_len rfl ?_ | refine i_s rfl ?_ | refine i_lenm rfl rfl rfl ?_ | refine sw ?_ | refine i_s0 rfl ?_ | refine i_gt rfl ?_ | refine i_gf rfl ?_ | refine i_gd rfl ?_ | refine c_t rfl ?_ | refine c_f rfl ?_ | refine jc rfl ?_ | refine ja rfl rfl ?_ | refine jb rfl rfl ?_ | refine jg rfl rfl ?_ | refine jf rfl rfl ?_ | refine jd rfl rfl ?_ | refine je rfl rfl ?_ | refine jh rfl rfl ?_ | refine i_stb rfl ?_ | refine i_alloc rfl ?_ | refine i_box rfl rfl ?_ | refine i_nv rfl ?_ | (refine sp ?_ ?_ <;> try intro h) | fail)
        exact e_ret ⟨rfl, _, rfl, rfl⟩
      · have hd12 : dp l i ≤ 12 := by have := of_decide_eq_false h; omega
        have hgood : nodeBad l i = none := (nodeBad_none hx).2 ⟨hsh0, ⟨_, hc⟩, hd12⟩
        have hnx := dpL_next l (i := i) (n := l.length)
        clear h
        repeat (first | refine i_len rfl ?_ | refine i_s rfl ?_ | refine i_lenm rfl rfl rfl ?_ | refine sw ?_ | refine i_s0 rfl ?_ | refine i_gt rfl ?_ | refine i_gf rfl ?_ | refine i_gd rfl ?_ | refine c_t rfl ?_ | refine c_f rfl ?_ | refine jc rfl ?_ | refine ja rfl rfl ?_ | refine jb rfl rfl ?_ | refine jg rfl rfl ?_ | refine jf rfl rfl ?_ | refine jd rfl rfl ?_ | refine je rfl rfl ?_ | refine jh rfl rfl ?_ | refine i_stb rfl ?_ | refine i_alloc rfl ?_ | refine i_box rfl rfl ?_ | refine i_nv rfl ?_)
        refine e_for hlt (all_succ hp hgood) ⟨⟨rfl, rfl, rfl, rfl, rfl, rfl, rfl, trivial⟩, ⟨rfl, rfl, ?_, trivial⟩, rfl⟩
        rw [← hnx]; rfl
  · have hge : i = l.length := by have : ¬ i < l.length := by simpa using h
                                  omega
    subst hge
    rw [sx_all hb hp]
    have hok2 := hok
    have hle := sz_leC (l.length - 1) l.length hok.chs (by omega)
    have hg : ((fsL l l.length l.length).map i64V)[0 + ((l.length : Int) - 1).toNat]? = some (i64V (fst_ l (l.length - 1))) := by
      rw [Nat.zero_add, show ((l.length : Int) - 1).toNat = l.length - 1 from by omega, List.getElem?_map, fsL_get l (by omega), if_pos (by omega)]; rfl
    clear h hp hok hok2
    repeat (first | refine i_len rfl ?_ | refine i_s rfl ?_ | refine i_lenm rfl rfl rfl ?_ | refine sw ?_ | refine i_s0 rfl ?_ | refine i_gt rfl ?_ | refine i_gf rfl ?_ | refine i_gd rfl ?_ | refine c_t rfl ?_ | refine c_f rfl ?_ | refine jc rfl ?_ | refine ja rfl rfl ?_ | refine jb rfl rfl ?_ | refine jg rfl rfl ?_ | refine jf rfl rfl ?_ | refine jd rfl rfl ?_ | refine je rfl rfl ?_ | refine jh rfl rfl ?_ | refine i_stb rfl ?_ | refine i_alloc rfl ?_ | refine i_box rfl rfl ?_ | refine i_nv rfl ?_)
    refine i_ima rfl rfl rfl rfl (by omega) (by omega) rfl ?_
    refine i_ldp rfl rfl rfl hg rfl ?_
    have hf : fst_ l (l.length - 1) = (l.length : Int) - sz l (l.length - 1) := by unfold fst_; omega
    rw [hf]
    repeat' (first | refine i_len rfl ?_ | refine i_s rfl ?_ | refine i_lenm rfl rfl rfl ?_ | refine sw ?_ | refine i_s0 rfl ?_ | refine i_gt rfl ?_ | refine i_gf rfl ?_ | refine i_gd rfl ?_ | refine c_t rfl ?_ | refine c_f rfl ?_ | refine jc rfl ?_ | refine ja rfl rfl ?_ | refine jb rfl rfl ?_ | refine jg rfl rfl ?_ | refine jf rfl rfl ?_ | refine jd rfl rfl ?_ | refine je rfl rfl ?_ | refine jh rfl rfl ?_ | refine i_stb rfl ?_ | refine i_alloc rfl ?_ | refine i_box rfl rfl ?_ | refine i_nv rfl ?_ | (refine sp ?_ ?_ <;> try intro h) | fail)
    · have h1 : sz l (l.length - 1) ≠ l.length := fun e => by rw [e] at h; simp at h
      rw [if_pos h1]
      exact e_ret ⟨rfl, _, rfl, rfl⟩
    · have h1 : ¬ sz l (l.length - 1) ≠ l.length := by have : (l.length : Int) - sz l (l.length - 1) = 0 := by simpa using h
                                                       omega
      rw [if_neg h1]
      exact e_ret ⟨rfl, _, rfl, rfl⟩
end Hm
end
section
namespace Go.Proofs
open Go.Shelf Go.RowKit
variable {P : Program} {ρ : Ren}
set_option maxHeartbeats 1000000 in
set_option maxRecDepth 100000 in
theorem Builder_String_row (L : Lays.n169 P ρ) (X : Builder.Extra P ρ) (b g cap : Nat) (p : Value) (cur : Array Value) (l : List UInt8) (w : World) (h0 : l ≠ []) (hbk : w.heap[b]? = some (.cells #[p, .slice (some ⟨g, 0, none⟩) l.length cap] (ρ.t 72) (0, 0)))
    (hg : w.heap[g]? = some (.cells cur (ρ.t 5) (0, 0))) (hc : cap ≠ 0) (hle : l.length ≤ cur.size) (h63 : l.length ≤ 9223372036854775807) (hcell : ∀ (j : Nat) (x : UInt8), l[j]? = some x → w.cell? ⟨g, j, none⟩ = some (.int .u8 x.toNat)) :
    Calls P (ρ.f 169) #[.pointer (some ⟨b, 0, none⟩)] w fun e w' => e = .returned (.string ⟨l.toArray⟩) ∧ w' = w.drew.freeze ⟨g, 0, none⟩ l.length := by
  have c1 : w.drew.cell? ⟨b, 1, none⟩ = some (.slice (some ⟨g, 0, none⟩) l.length cap) := by
    have : w.drew.heap[b]? = some (.cells #[p, .slice (some ⟨g, 0, none⟩) l.length cap] (ρ.t 72) (0, 0)) := hbk
    rw [Lib.cell_of_heap this]; rfl
  have hSD : (Builtin.unsafeSliceData_ #[(ρ.t 37)] (ρ.t 127) #[.slice (some ⟨g, 0, none⟩) l.length cap]).run P w.drew = .ok (.pointer (some ⟨g, 0, none⟩)) w.drew :=
    Lib.run_unsafeSliceData_row _ _ _ _ _ _ hc
  have hUS : (Builtin.unsafeString_ #[(ρ.t 127), (ρ.t 3)] (ρ.t 9) #[.pointer (some ⟨g, 0, none⟩), .int .i64 l.length]).run P w.drew = .ok (.string ⟨l.toArray⟩) (w.drew.freeze ⟨g, 0, none⟩ l.length) := by
    refine Lib.run_unsafeString_row w.drew (ρ.t 127) (ρ.t 3) (ρ.t 9) (ρ.t 5) L.t127 X.cellsByte g cur.size (by have hg' : w.drew.heap[g]? = some (.cells cur (ρ.t 5) (0, 0)) := hg; simp [World.shape?, hg']) l h0 hle h63 ?_
    intro j x hx
    have := hcell j x hx
    by_cases hj : j = 0
    · subst hj
      simpa [Addr.add] using this
    · simpa [Addr.add, hj] using this
  have mixed := L.mixed
  have t72 := L.t72; have a72 := L.a72; have z72 := L.z72; have v72 := L.v72; have u72 := run_underlying L.t72
  have t70 := L.t70; have a70 := L.a70; have z70 := L.z70; have v70 := L.v70; have u70 := run_underlying L.t70
  have t37 := L.t37; have a37 := L.a37; have z37 := L.z37; have v37 := L.v37; have u37 := run_underlying L.t37
  have t127 := L.t127; have a127 := L.a127; have z127 := L.z127; have v127 := L.v127; have u127 := run_underlying L.t127
  have t3 := L.t3; have a3 := L.a3; have z3 := L.z3; have v3 := L.v3; have u3 := run_underlying L.t3
  have t9 := L.t9; have a9 := L.a9; have z9 := L.z9; have v9 := L.v9; have u9 := run_underlying L.t9
  have t5 := X.t5; have a5 := X.a5; have z5 := X.z5; have v5 := X.v5; have u5 := run_underlying X.t5
  go_enter L.f169, Body.n169_ntmps ρ
  go_wp2
  go_region_o
  all_goals (go_wp2; go_ret; exact ⟨rfl, rfl⟩)
end Go.Proofs
namespace Hm
open Go
set_option maxRecDepth 100000
def u8V (c : UInt8) : V := .int .u8 c.toNat
theorem ups_id {σ : Store} {nm : Nat} {b : Blk} (h : σ nm = b) : ups σ nm b = σ := by
  funext k
  unfold ups
  cases hb : Nat.beq k nm with
  | true => have := Nat.eq_of_beq_eq_true hb; subst this; exact h.symm
  | false => rfl
theorem setCell_row (w : World) (b j : Nat) (c : Array Value) (e : TypeId) (fr : Nat × Nat) (v : Value) (hb : w.heap[b]? = some (.cells c e fr)) : w.setCell ⟨b, j, none⟩ v = w.setRow b (c.setIfInBounds j v) := by
  unfold World.setCell World.setRow
  congr 1
  apply Array.ext_getElem?
  intro k
  simp only [Array.getElem?_modify]
  by_cases hk : b = k
  · subst hk
    simp [hb]
  · simp [hk]
theorem freeze_facts (w : World) (b n : Nat) (c : Array Value) (e : TypeId) (h0 : n ≠ 0) (hb : w.heap[b]? = some (.cells c e (0, 0))) :
    (w.drew.freeze ⟨b, 0, none⟩ n).heap.size = w.heap.size ∧ (w.drew.freeze ⟨b, 0, none⟩ n).os = w.os ∧ (w.drew.freeze ⟨b, 0, none⟩ n).tape = w.tape ∧ Out w (w.drew.freeze ⟨b, 0, none⟩ n) ∧
      (∀ k, k ≠ b → (w.drew.freeze ⟨b, 0, none⟩ n).heap[k]? = w.heap[k]?) ∧ (w.drew.freeze ⟨b, 0, none⟩ n).heap[b]? = some (.cells c e (0, 0 + n)) := by
  unfold World.freeze
  rw [if_neg h0]
  refine ⟨(by show (w.heap.modify b _).size = _; exact Array.size_modify), rfl, rfl, ⟨rfl, fun _ => Nat.le_succ _⟩, fun k hk => ?_, ?_⟩
  · show (w.heap.modify b _)[k]? = _
    rw [Array.getElem?_modify, if_neg (fun e => hk e.symm)]
  · show (w.heap.modify b _)[b]? = _
    rw [Array.getElem?_modify, if_pos rfl, hb]
    rfl
theorem ct_copyCheck {G : Type} {P : Program} {H : HT G} {ρ : Shelf.Ren} (L : Go.Proofs.Lays.n240 P ρ) (X : Go.Proofs.Builder.X72 P ρ) (nm : Nat) (p buf : V) {pn : List Nat} {σ : Store} {g : G} (hty : nm / 1099511627776 = ρ.t 72 + 1)
    (hσ : σ nm = .box (.agg [p, buf])) (hp : p = .nilptr ∨ p = .bptr nm 0) (hpn : ∀ nm', nm' ∉ pn → σ nm' = .unused) :
    CT P H (ρ.f 240) [.bptr nm 0] pn σ g fun v σ' g' => v = .tup [] ∧ σ' = ups σ nm (.box (.agg [.bptr nm 0, buf])) ∧ g' = g := by
  refine ⟨by simp only [callable, L.f240]; rfl, fun J lc hst hM hH w S F θ xs hs hargs => ?_⟩
  obtain ⟨hlen, hrep⟩ := hargs
  match xs, hlen with
  | [x], _ =>
  have hx := hrep 0 _ x rfl rfl
  have hn : σ nm ≠ .unused := by rw [hσ]; intro h; cases h
  obtain ⟨b, m, hθ, rfl⟩ : ∃ b m, θ nm = some (b, m) ∧ x = .pointer (some ⟨b, 0, none⟩) := by
    cases hx with
    | pure h => cases h
    | bptr _ _ _ _ _ h => exact h _ hσ
  have hblk := hs.hblk nm
  rw [hσ] at hblk
  obtain ⟨b', c, e, hθ', hb, ⟨hsz, hte⟩, hcell⟩ := hblk
  rw [hθ] at hθ'
  injection hθ' with hθ'
  injection hθ' with e1 e2
  subst e1
  have hte' : e = ρ.t 72 := by
    rcases hte with h | h
    · exact absurd (hty.symm.trans h) (Nat.succ_ne_zero _)
    · exact Nat.succ.inj (h.symm.trans hty)
  subst hte'
  have hsz2 : c.size = 2 := hsz
  obtain ⟨y0, hy0, hr0⟩ := hcell 0 p rfl
  obtain ⟨y1, hy1, hr1⟩ := hcell 1 buf rfl
  have hc0 : w.cell? ⟨b, 0, none⟩ = some y0 := by simp [World.cell?, hb, hy0]
  rcases hp with rfl | rfl
  ·
    have hy : y0 = .pointer none := by
      cases hr0 with
      | pure h => cases h; rfl
    subst hy
    have hcall := (callsIn_wide (n := 0)).2 (Go.Proofs.Any.Builder_copyCheck_fresh L X b w hc0 (by simp [World.shape?, hb, hsz2]) (by simp [World.frozen?, hb]))
    refine hcall.mono fun en w' he' => ?_
    obtain ⟨rfl, rfl⟩ := he'
    rw [setCell_row w b 0 c (ρ.t 72) (0, 0) _ hb]
    have hl : (σ nm).live := live_box hσ
    have hcs : (c.setIfInBounds 0 (Value.pointer (some ⟨b, 0, none⟩))).size = c.size := by simp
    have hfr := Fr.write hs nm b m c (c.setIfInBounds 0 (Value.pointer (some ⟨b, 0, none⟩))) (ρ.t 72) (.box (.agg [.bptr nm 0, buf])) hl hθ hb hcs (by rw [hσ]; exact ⟨_, rfl⟩)
    have hst2 := St.write hst hs nm b m (c.setIfInBounds 0 (Value.pointer (some ⟨b, 0, none⟩))) (.box (.agg [.bptr nm 0, buf])) hl hθ hfr (by
      refine ⟨b, _, ρ.t 72, by rw [hθ]; exact congrArg (fun q => some (b, q)) e2, setRow_heap w b c _ _ _ hb, ⟨by rw [hcs]; exact hsz, hte⟩, fun j v hj => ?_⟩
      match j, hj with
      | 0, hj =>
        cases hj
        refine ⟨.pointer (some ⟨b, 0, none⟩), ?_, .bptr nm 0 _ rfl (by rw [upt_self]; intro h; cases h) fun row _ => ⟨b, m, hθ, rfl⟩⟩
        rw [Array.getElem?_setIfInBounds_self_of_lt (by omega)]
      | 1, hj =>
        cases hj
        refine ⟨y1, ?_, hr1.fr hfr hs⟩
        rw [Array.getElem?_setIfInBounds_ne (by omega)]
        exact hy1)
    exact ⟨.tup [], _, _, g, S, F, θ, rfl, ⟨rfl, rfl, rfl⟩, hst2, .pure (.tup [] [] rfl fun i v x h1 h2 => by simp at h1), hfr, fun nm' hnm => by
      have h5 : nm' ≠ nm := fun h => by rw [h] at hnm; exact hn (hpn nm hnm)
      rw [upt_ne σ _ h5]
      exact hpn nm' hnm⟩
  · have hy : y0 = .pointer (some ⟨b, 0, none⟩) := by
      cases hr0 with
      | pure h => cases h
      | bptr _ _ _ _ _ h =>
        obtain ⟨b2, m2, h1, h2⟩ := h _ hσ
        rw [hθ] at h1
        injection h1 with h1
        injection h1 with h1 _
        subst h1
        exact h2
    subst hy
    have hcall := (callsIn_wide (n := 0)).2 (Go.Proofs.Any.Builder_copyCheck_used L X b w hc0)
    refine hcall.mono fun en w' he' => ?_
    obtain ⟨rfl, rfl⟩ := he'
    exact ⟨.tup [], _, σ, g, S, F, θ, rfl, ⟨rfl, (ups_id hσ).symm, rfl⟩, hs, .pure (.tup [] [] rfl fun i v x h1 h2 => by simp at h1), Fr.refl _ _ _ _ _, hpn⟩
theorem ct_String {G : Type} {P : Program} {H : HT G} {ρ : Shelf.Ren} (L : Go.Proofs.Lays.n169 P ρ) (X : Go.Proofs.Builder.Extra P ρ) (nm vn : Nat) (p : V) (s : List UInt8) {pn : List Nat} {σ : Store} {g : G} (hne : s ≠ []) (h63 : s.length ≤ 9223372036854775807)
    (hty : nm / 1099511627776 = ρ.t 72 + 1) (htv : vn / 1099511627776 = ρ.t 5 + 1) (hwd : wd vn = 1) (hσ : σ nm = .box (.agg [p, .sl (.own vn) (s.map u8V)])) (hv : σ vn = .vec s.length) (hpn : ∀ nm', nm' ∉ pn → σ nm' = .unused) :
    CT P H (ρ.f 169) [.bptr nm 0] pn σ g fun v σ' g' => v = .str s ∧ σ' = ups (ups σ vn .dead) nm .dead ∧ g' = g := by
  refine ⟨by simp only [callable, L.f169]; rfl, fun J lc hst hM hH w S F θ xs hs hargs => ?_⟩
  obtain ⟨hlen, hrep⟩ := hargs
  match xs, hlen with
  | [x], _ =>
  have hx := hrep 0 _ x rfl rfl
  have hn : σ nm ≠ .unused := by rw [hσ]; intro h; cases h
  have hnv : nm ≠ vn := fun h => by rw [h, hv] at hσ; cases hσ
  obtain ⟨b, m, hθ, rfl⟩ : ∃ b m, θ nm = some (b, m) ∧ x = .pointer (some ⟨b, 0, none⟩) := by
    cases hx with
    | pure h => cases h
    | bptr _ _ _ _ _ h => exact h _ hσ
  have hblk := hs.hblk nm
  rw [hσ] at hblk
  obtain ⟨b', c, e, hθ', hb, ⟨hsz, hte⟩, hcell⟩ := hblk
  rw [hθ] at hθ'
  injection hθ' with hθ'
  injection hθ' with e1 e2
  subst e1
  have hte' : e = ρ.t 72 := by
    rcases hte with h | h
    · exact absurd (hty.symm.trans h) (Nat.succ_ne_zero _)
    · exact Nat.succ.inj (h.symm.trans hty)
  subst hte'
  have hsz2 : c.size = 2 := hsz
  obtain ⟨y0, hy0, hr0⟩ := hcell 0 p rfl
  obtain ⟨y1, hy1, hr1⟩ := hcell 1 _ rfl
  have hrow : c = #[y0, y1] := by
    apply Array.ext_getElem?
    intro k
    match k with
    | 0 => rw [hy0]; rfl
    | 1 => rw [hy1]; rfl
    | k + 2 => rw [Array.getElem?_eq_none (by omega), Array.getElem?_eq_none (by simp)]
  generalize hL : s.map u8V = L at hr1
  cases hr1 with
  | pure h => cases h
  | ownemp _ a hn0 => exact absurd (List.map_eq_nil_iff.1 hL) hne
  | own _ _ b2 off cap m2 ys hn2 hb2 hcap2 hw2 hc2 hr2 hf2 =>
    subst hL
    obtain ⟨hk1, hk2⟩ := hf2 _ hv
    obtain ⟨hθ2, rfl, hco⟩ := hk2 (by simp)
    have hblk2 := hs.hblk vn
    rw [hv] at hblk2
    rcases hblk2 with ⟨h1, _⟩ | ⟨b3, m3, cur, e3, hθ3, hb3, hm3, hk3, ht3⟩
    · rw [hθ2] at h1; cases h1
    rw [hθ2] at hθ3
    injection hθ3 with hθ3
    injection hθ3 with q1 q2
    subst q1 q2
    have hte3 : e3 = ρ.t 5 := by
      rcases ht3 with h | h
      · exact absurd (htv.symm.trans h) (Nat.succ_ne_zero _)
      · exact Nat.succ.inj (h.symm.trans htv)
    subst hte3
    rw [hwd] at hm3
    subst hm3
    have hsl : (s.map u8V).length = s.length := by simp
    have hpos : 0 < s.length := List.length_pos_iff.2 hne
    rw [hsl] at hy1 hcap2
    have hcell2 : ∀ (j : Nat) (x : UInt8), s[j]? = some x → w.cell? ⟨b2, j, none⟩ = some (.int .u8 x.toNat) := by
      intro j x hj
      have h1 := hc2 j 0 (u8V x) (u8V x) (by rw [List.getElem?_map, hj]; rfl) rfl
      have h2 : RepP w S (.int .u8 x.toNat) (ys j 0) := hr2 j 0 (u8V x) (u8V x) (by rw [List.getElem?_map, hj]; rfl) rfl
      generalize ys j 0 = y at h1 h2
      cases h2
      have h3 : (0 + j * 1 + 0 : Nat) = j := by omega
      rw [h3] at h1
      exact h1
    have hcall := (callsIn_wide (n := 0)).2 (Go.Proofs.Builder_String_row L X b b2 cap y0 cur s w hne (by rw [hb, hrow, hsl]) hb3 (by omega) (by omega) h63 hcell2)
    refine hcall.mono fun en w' he' => ?_
    obtain ⟨rfl, rfl⟩ := he'
    have hlv := live_vec hv
    have hlb := live_box hσ
    obtain ⟨f1, f2, f3, f4, f5, f6⟩ := freeze_facts w b2 s.length cur (ρ.t 5) (by omega) hb3
    generalize w.drew.freeze ⟨b2, 0, none⟩ s.length = w' at f1 f2 f3 f4 f5 f6 ⊢
    have hs1 := St.freeze hst hs vn hlv
    have hfr1 : Fr w S F θ σ w _ F θ (ups σ vn .dead) := Fr.freeze vn hlv
    have hlb1 : (ups σ vn .dead nm).live := by rw [upt_ne σ _ hnv]; exact hlb
    have hs2 := St.freeze hst hs1 nm hlb1
    have hfr2 := hfr1.trans hs1 (Fr.freeze nm hlb1)
    have hs2l : ∀ k, (ups (ups σ vn .dead) nm .dead k).live → k ≠ nm ∧ k ≠ vn ∧ (σ k).live := fun k hk => by
      by_cases e1 : k = nm
      · subst e1; rw [upt_self] at hk; exact hk.elim
      · rw [upt_ne _ _ e1] at hk
        by_cases e2 : k = vn
        · subst e2; rw [upt_self] at hk; exact hk.elim
        · rw [upt_ne _ _ e2] at hk; exact ⟨e1, e2, hk⟩
    have hnl : ¬ LiveB θ (ups (ups σ vn .dead) nm .dead) b2 := fun ⟨k, mk, h1, h2⟩ => by
      obtain ⟨_, h3, h4⟩ := hs2l k h1
      exact h3 (hs.hinj k vn b2 mk 1 h4 hlv h2 hθ2)
    have hLb2 : LiveB θ σ b2 := ⟨vn, 1, hlv, hθ2⟩
    have hfr : Fr w S F θ σ w' (fun q => (S q ∨ ∃ m, θ vn = some (q, m)) ∨ ∃ m, θ nm = some (q, m)) F θ (ups (ups σ vn .dead) nm .dead) := { hfr2 with
      size := by omega
      os := f2
      tape := f3
      output := f4
      same := fun k hk hl hF => f5 k fun e => hl (by rw [e]; exact hLb2)
      sized := fun k c0 e0 fr h => by
        by_cases ek : k = b2
        · subst ek
          rw [hb3] at h
          injection h with h
          injection h with h1 h2 h3
          subst h1 h2 h3
          exact ⟨cur, _, f6, rfl, .inr ⟨.inl (.inr ⟨1, hθ2⟩), hnl⟩⟩
        · exact ⟨c0, fr, by rw [f5 k ek]; exact h, rfl, .inl rfl⟩
      vecs := fun k q b0 m0 h1 h2 j hj => by
        by_cases ek : b0 = b2
        · subst ek
          simp [World.cell?, f6, hb3]
        · exact cell_of_heap (f5 b0 ek) }
    refine ⟨.str s, .string ⟨s.toArray⟩, ups (ups σ vn .dead) nm .dead, g, _, F, θ, rfl, ⟨rfl, rfl, rfl⟩, ⟨fun q hq => by rw [f1]; exact hs2.hS q hq, fun k => ?_, fun k k' b0 m0 m1 h1 h2 h3 h4 => hs.hinj k k' b0 m0 m1 (hs2l k h1).2.2 (hs2l k' h2).2.2 h3 h4, hs2.hliveS, fun q hq => by rw [f1]; exact hs2.hF q hq, ?_⟩, .pure (.str s), hfr, fun k hk => ?_⟩
    · by_cases e1 : k = nm
      · subst e1; rw [upt_self]; trivial
      · by_cases e2 : k = vn
        · subst e2; rw [upt_ne _ _ e1, upt_self]; trivial
        · exact BlkOk.later hs hfr k (by rw [upt_ne _ _ e1, upt_ne _ _ e2]) rfl fun b0 m0 h1 h2 => f5 b0 fun e => e2 (hs.hinj k vn b0 m0 1 h1 hlv h2 (by rw [e]; exact hθ2))
    · exact hst.2 g w S F w' _ hs.hJ hs.hS (fun q hq => (hs.hF q hq).1) (fun q hq => f5 q fun e => by
        subst e
        rcases hq with hq | hq
        · exact hs.hliveS q hLb2 hq
        · exact (hs.hF q hq).2.2 hLb2) hfr.smono hfr.size f2 f3 f4 (fun q hq => ⟨by rw [f1]; exact hs2.hS q hq, fun hf => (hs2.hF q hf).2.1 hq⟩) hfr.sizedS
    · have h5 : k ≠ nm := fun h => by rw [h] at hk; exact hn (hpn nm hk)
      have h6 : k ≠ vn := fun h => by rw [h] at hk; have := hpn vn hk; rw [this] at hv; cases hv
      rw [upt_ne _ _ h5, upt_ne _ _ h6]
      exact hpn k hk
end Hm
end
section
namespace Go.Proofs
open Go.Shelf
def Try.bl_ren : Go.Shelf.Ren := ⟨fun | 240 => 24 | 276 => 27 | 169 => 18 | _ => 0,
  fun | 0 => 0 | 3 => 3 | 4 => 4 | 5 => 5 | 9 => 9 | 20 => 20 | 37 => 45 | 70 => 44 | 72 => 47 | 127 => 61 | 164 => 62 | _ => 0, fun x => x⟩
theorem Try.bl_240 : Lays.n240 Try.prog Try.bl_ren :=
  { mixed := by kernel_rfl,
    f240 := Try.func24.trans (congrArg some (by kernel_rfl)),
    f276 := Try.func27.trans (congrArg some (by kernel_rfl)),
    t0 := Try.underlying0, a0 := Try.isAgg0, z0 := Try.sizeOf0, v0 := Try.zeroValue0,
    t4 := Try.underlying4, a4 := Try.isAgg4, z4 := Try.sizeOf4, v4 := Try.zeroValue4,
    t9 := Try.underlying9, a9 := Try.isAgg9, z9 := Try.sizeOf9, v9 := Try.zeroValue9,
    t20 := Try.underlying20, a20 := Try.isAgg20, z20 := Try.sizeOf20, v20 := Try.zeroValue20,
    t70 := Try.underlying44, a70 := Try.isAgg44, z70 := Try.sizeOf44, v70 := Try.zeroValue44,
    t72 := Try.underlying47, a72 := Try.isAgg47, z72 := Try.sizeOf47, v72 := Try.zeroValue47,
    t164 := Try.underlying62, a164 := Try.isAgg62, z164 := Try.sizeOf62, v164 := Try.zeroValue62 }
theorem Try.bl_169 : Lays.n169 Try.prog Try.bl_ren :=
  { mixed := by kernel_rfl,
    f169 := Try.func18.trans (congrArg some (by kernel_rfl)),
    t0 := Try.underlying0, a0 := Try.isAgg0, z0 := Try.sizeOf0, v0 := Try.zeroValue0,
    t3 := Try.underlying3, a3 := Try.isAgg3, z3 := Try.sizeOf3, v3 := Try.zeroValue3,
    t9 := Try.underlying9, a9 := Try.isAgg9, z9 := Try.sizeOf9, v9 := Try.zeroValue9,
    t37 := Try.underlying45, a37 := Try.isAgg45, z37 := Try.sizeOf45, v37 := Try.zeroValue45,
    t70 := Try.underlying44, a70 := Try.isAgg44, z70 := Try.sizeOf44, v70 := Try.zeroValue44,
    t72 := Try.underlying47, a72 := Try.isAgg47, z72 := Try.sizeOf47, v72 := Try.zeroValue47,
    t127 := Try.underlying61, a127 := Try.isAgg61, z127 := Try.sizeOf61, v127 := Try.zeroValue61 }
theorem Try.bl_x : Builder.Extra Try.prog Try.bl_ren :=
  { sizeBuilder := by kernel_rfl, liesBuilder := by kernel_rfl, t5 := Try.underlying5, a5 := Try.isAgg5, z5 := Try.sizeOf5, v5 := Try.zeroValue5,
    infoByte := by kernel_rfl, cellsByte := by kernel_rfl, sizeByte := by kernel_rfl, neB5 := by decide }
end Go.Proofs
namespace Hm
open Go
set_option maxRecDepth 100000
set_option maxHeartbeats 4000000
section
variable {G : Type} {P : Program} {H : HT G} {pn : List Nat} {Q : Exit → Env → Store → G → Prop} {fs : List (Frm G)} {ρ : Env} {σ : Store} {g : G} {r : List GItem} {d : Nat}
theorem i_apps {l s : List UInt8} {bytes et nm k : Nat} {x y : Opd} (hx : ev ρ x = .sl (.own nm) (l.map u8V)) (hy : ev ρ y = .str s) (hs : σ nm = .vec k) (hk : l.length = k) (hw : (Nat.beq (wd nm) 1 && tyOkB nm et) = true)
    (h1 : (k + s.length) * bytes ≤ 140737488355328) (h2 : k + s.length ≤ 140737488355328)
    (h : WI P H pn Q fs r (upd ρ d (.sl (.own nm) ((l ++ s).map u8V))) (ups σ nm (.vec (k + s.length))) g) : WI P H pn Q fs (.op (some d) none (.append 1 bytes et x y) :: r) ρ σ g := i_out (by
  have e : (s.map fun c => V.int .u8 c.toNat).length = s.length := by simp
  simp only [AWop, hx, hy, srcR, hs, e]
  refine ⟨by simpa using hk, hw, fun row hrow => ?_, h1, h2, ?_⟩
  · obtain ⟨c, _, rfl⟩ := List.mem_map.1 hrow
    exact ⟨rfl, rfl⟩
  · rw [List.map_append] at h
    exact h.out)
end
def bldS (p : V) (s : List UInt8) : List (Nat × Blk) := [(52776558645570, .box (.agg [p, .sl (.own 6597070281921) (s.map u8V)])), (6597070281921, .vec s.length)]
def bldN : V := .bptr 52776558645570 0
theorem bld_eq {σ : Store} {p : V} {s : List UInt8} (h1 : σ 52776558645570 = .box (.agg [p, .sl (.own 6597070281921) (s.map u8V)])) (h2 : σ 6597070281921 = .vec s.length)
    (hpn : ∀ nm, σ nm ≠ .unused → nm ∈ [52776558645570, 6597070281921]) : σ = stOf (bldS p s) := by
  funext k
  simp only [stOf, bldS]
  cases e1 : Nat.beq k 52776558645570 with
  | true => rw [Nat.eq_of_beq_eq_true e1]; exact h1
  | false =>
    cases e2 : Nat.beq k 6597070281921 with
    | true => rw [Nat.eq_of_beq_eq_true e2]; exact h2
    | false =>
      refine Classical.byContradiction fun h => ?_
      have := hpn k h
      simp only [List.mem_cons, List.not_mem_nil, or_false] at this
      rcases this with rfl | rfl
      · rw [Nat.beq_refl] at e1; cases e1
      · rw [Nat.beq_refl] at e2; cases e2
theorem ct_cc {G : Type} {H : HT G} (p : V) (hp : p = .nilptr ∨ p = bldN) (s : List UInt8) (σ : Store) (hσ : σ = stOf (bldS p s)) (g : G) : Cc Go.Proofs.Try.prog H 24 [bldN] [52776558645570, 6597070281921] σ g fun r σ' g' => r = .tup [] ∧ σ' = stOf (bldS bldN s) ∧ g' = g := by
  subst hσ
  refine Cc_mono (fun v σ' g' h => ?_) ⟨ct_copyCheck (ρ := Go.Proofs.Try.bl_ren) Go.Proofs.Try.bl_240 Go.Proofs.Try.bl_x.toX72 52776558645570 p (.sl (.own 6597070281921) (s.map u8V)) (by decide +kernel) rfl hp (fun nm h => Classical.byContradiction fun h' => h (stOf_mem (bldS p s) nm h'))⟩
  obtain ⟨rfl, rfl, rfl⟩ := h
  refine ⟨rfl, ?_, rfl⟩
  funext k
  simp only [ups, stOf, bldS, bldN]
  cases Nat.beq k 52776558645570 <;> rfl
def c_strings_Builder_WriteByte : Cmd :=
 (qS [qq 4 (.mov (.c (.any)))]
 (qS [qm 5 0, qq 6 (.call (.s [52776558645570, 6597070281921]) (.c (.fn 24 [])) [.t 5])]
 (qS [qm 7 0, qm 8 0, qq 9 (.nilck (.t 8)), qf 10 1 9, ql 11 1 10, qm 12 1, qq 13 (.bsl 1 [.t 12]), qq 14 (.append 1 1 5 (.t 11) (.t 13)), qq 15 (.nilck (.t 7)), qf 16 1 15, qs 1 16 14]
 (.seq (.ops [qq 4 (.mov (.c (.any)))]) .ret))))
def r_strings_Builder_WriteByte : List RVar := [.tmp 4]
def n_strings_Builder_WriteByte : Nat := 17
theorem k_strings_Builder_WriteByte : chkFn Go.Proofs.Try.prog 17 n_strings_Builder_WriteByte r_strings_Builder_WriteByte c_strings_Builder_WriteByte = true := by kernel_rfl
theorem ct_WriteByte {G : Type} {H : HT G} (p : V) (hp : p = .nilptr ∨ p = bldN) (s : List UInt8) (c : UInt8) (hl : s.length ≤ 1000000) (σ : Store) (hσ : σ = stOf (bldS p s)) (g : G) :
    Cc Go.Proofs.Try.prog H 17 [bldN, u8V c] [52776558645570, 6597070281921] σ g fun r σ' g' => r = .any ∧ σ' = stOf (bldS bldN (s ++ [c])) ∧ g' = g := by
  subst hσ
  rcases hp with rfl | rfl
  all_goals
    refine CT.step _ mixed k_strings_Builder_WriteByte (fun nm h => stOf_mem (bldS _ s) nm h) fun hM => ?_
    repeat (first | refine i_len rfl ?_ | refine i_s rfl ?_ | refine i_lenm rfl rfl rfl ?_ | refine sw ?_ | refine i_s0 rfl ?_ | refine i_gt rfl ?_ | refine i_gf rfl ?_ | refine i_gd rfl ?_ | refine c_t rfl ?_ | refine c_f rfl ?_ | refine jc rfl ?_ | refine ja rfl rfl ?_ | refine jb rfl rfl ?_ | refine jg rfl rfl ?_ | refine jf rfl rfl ?_ | refine jd rfl rfl ?_ | refine je rfl rfl ?_ | refine jh rfl rfl ?_ | refine i_stb rfl ?_ | refine i_alloc rfl ?_ | refine i_box rfl rfl ?_ | refine i_nv rfl ?_)
    refine i_c rfl rfl rfl (ct_cc _ (by first | exact .inl rfl | exact .inr rfl) s _ (bld_eq rfl rfl fun nm h => restr_mem nm h) g) ?_
    rintro _ _ _ ⟨rfl, rfl, rfl⟩
    repeat (first | refine i_len rfl ?_ | refine i_s rfl ?_ | refine i_lenm rfl rfl rfl ?_ | refine sw ?_ | refine i_s0 rfl ?_ | refine i_gt rfl ?_ | refine i_gf rfl ?_ | refine i_gd rfl ?_ | refine c_t rfl ?_ | refine c_f rfl ?_ | refine jc rfl ?_ | refine ja rfl rfl ?_ | refine jb rfl rfl ?_ | refine jg rfl rfl ?_ | refine jf rfl rfl ?_ | refine jd rfl rfl ?_ | refine je rfl rfl ?_ | refine jh rfl rfl ?_ | refine i_stb rfl ?_ | refine i_alloc rfl ?_ | refine i_box rfl rfl ?_ | refine i_nv rfl ?_)
    refine i_appM rfl rfl rfl rfl rfl (by omega) (by omega) ?_
    repeat (first | refine i_len rfl ?_ | refine i_s rfl ?_ | refine i_lenm rfl rfl rfl ?_ | refine sw ?_ | refine i_s0 rfl ?_ | refine i_gt rfl ?_ | refine i_gf rfl ?_ | refine i_gd rfl ?_ | refine c_t rfl ?_ | refine c_f rfl ?_ | refine jc rfl ?_ | refine ja rfl rfl ?_ | refine jb rfl rfl ?_ | refine jg rfl rfl ?_ | refine jf rfl rfl ?_ | refine jd rfl rfl ?_ | refine je rfl rfl ?_ | refine jh rfl rfl ?_ | refine i_stb rfl ?_ | refine i_alloc rfl ?_ | refine i_box rfl rfl ?_ | refine i_nv rfl ?_)
    refine e_ret ⟨rfl, _, rfl, rfl, rfl, rfl, ?_, rfl⟩
    refine bld_eq rfl ?_ fun nm h => restr_mem nm h
    rw [List.length_append]
    rfl
def c_strings_Builder_WriteString : Cmd :=
 (qS [qc 4 0, qq 5 (.mov (.c (.any)))]
 (qS [qm 6 0, qq 7 (.call (.s [52776558645570, 6597070281921]) (.c (.fn 24 [])) [.t 6])]
 (qS [qm 8 0, qm 9 0, qq 10 (.nilck (.t 9)), qf 11 1 10, ql 12 1 11, qm 13 1, qq 14 (.append 1 1 5 (.t 12) (.t 13)), qq 15 (.nilck (.t 8)), qf 16 1 15, qs 1 16 14]
 (.seq (.ops [qm 17 1, qq 18 (.len true (.t 17)), qm 4 18, qq 5 (.mov (.c (.any)))]) .ret))))
def r_strings_Builder_WriteString : List RVar := [.tmp 4, .tmp 5]
def n_strings_Builder_WriteString : Nat := 19
theorem k_strings_Builder_WriteString : chkFn Go.Proofs.Try.prog 16 n_strings_Builder_WriteString r_strings_Builder_WriteString c_strings_Builder_WriteString = true := by kernel_rfl
theorem ct_WriteString {G : Type} {H : HT G} (p : V) (hp : p = .nilptr ∨ p = bldN) (s c : List UInt8) (hl : s.length ≤ 1000000) (hc : c.length ≤ 1000000) (σ : Store) (hσ : σ = stOf (bldS p s)) (g : G) :
    Cc Go.Proofs.Try.prog H 16 [bldN, .str c] [52776558645570, 6597070281921] σ g fun r σ' g' => r = .tup [.int .i64 c.length, .any] ∧ σ' = stOf (bldS bldN (s ++ c)) ∧ g' = g := by
  subst hσ
  rcases hp with rfl | rfl
  all_goals
    refine CT.step _ mixed k_strings_Builder_WriteString (fun nm h => stOf_mem (bldS _ s) nm h) fun hM => ?_
    repeat (first | refine i_len rfl ?_ | refine i_s rfl ?_ | refine i_lenm rfl rfl rfl ?_ | refine sw ?_ | refine i_s0 rfl ?_ | refine i_gt rfl ?_ | refine i_gf rfl ?_ | refine i_gd rfl ?_ | refine c_t rfl ?_ | refine c_f rfl ?_ | refine jc rfl ?_ | refine ja rfl rfl ?_ | refine jb rfl rfl ?_ | refine jg rfl rfl ?_ | refine jf rfl rfl ?_ | refine jd rfl rfl ?_ | refine je rfl rfl ?_ | refine jh rfl rfl ?_ | refine i_stb rfl ?_ | refine i_alloc rfl ?_ | refine i_box rfl rfl ?_ | refine i_nv rfl ?_)
    refine i_c rfl rfl rfl (ct_cc _ (by first | exact .inl rfl | exact .inr rfl) s _ (bld_eq rfl rfl fun nm h => restr_mem nm h) g) ?_
    rintro _ _ _ ⟨rfl, rfl, rfl⟩
    repeat (first | refine i_len rfl ?_ | refine i_s rfl ?_ | refine i_lenm rfl rfl rfl ?_ | refine sw ?_ | refine i_s0 rfl ?_ | refine i_gt rfl ?_ | refine i_gf rfl ?_ | refine i_gd rfl ?_ | refine c_t rfl ?_ | refine c_f rfl ?_ | refine jc rfl ?_ | refine ja rfl rfl ?_ | refine jb rfl rfl ?_ | refine jg rfl rfl ?_ | refine jf rfl rfl ?_ | refine jd rfl rfl ?_ | refine je rfl rfl ?_ | refine jh rfl rfl ?_ | refine i_stb rfl ?_ | refine i_alloc rfl ?_ | refine i_box rfl rfl ?_ | refine i_nv rfl ?_)
    refine i_apps rfl rfl rfl rfl rfl (by omega) (by omega) ?_
    repeat (first | refine i_len rfl ?_ | refine i_s rfl ?_ | refine i_lenm rfl rfl rfl ?_ | refine sw ?_ | refine i_s0 rfl ?_ | refine i_gt rfl ?_ | refine i_gf rfl ?_ | refine i_gd rfl ?_ | refine c_t rfl ?_ | refine c_f rfl ?_ | refine jc rfl ?_ | refine ja rfl rfl ?_ | refine jb rfl rfl ?_ | refine jg rfl rfl ?_ | refine jf rfl rfl ?_ | refine jd rfl rfl ?_ | refine je rfl rfl ?_ | refine jh rfl rfl ?_ | refine i_stb rfl ?_ | refine i_alloc rfl ?_ | refine i_box rfl rfl ?_ | refine i_nv rfl ?_)
    refine e_ret ⟨rfl, _, rfl, rfl, rfl, rfl, ?_, rfl⟩
    refine bld_eq rfl ?_ fun nm h => restr_mem nm h
    rw [List.length_append]
    rfl
def wrF (l : List Sx) : V := .fn 15 [.cptr .p (.sl .p (l.map sxV)) 0, bldN, .bptr 512385 0]
def bld3 (l : List Sx) (p : V) (s : List UInt8) : List (Nat × Blk) := [(52776558645570, .box (.agg [p, .sl (.own 6597070281921) (s.map u8V)])), (6597070281921, .vec s.length), (512385, .box (wrF l))]
theorem bld3_eq {σ : Store} {l : List Sx} {p : V} {s : List UInt8} (h1 : σ 52776558645570 = .box (.agg [p, .sl (.own 6597070281921) (s.map u8V)])) (h2 : σ 6597070281921 = .vec s.length) (h3 : σ 512385 = .box (wrF l))
    (hpn : ∀ nm, σ nm ≠ .unused → nm ∈ [52776558645570, 6597070281921, 512385]) : σ = stOf (bld3 l p s) := by
  funext k
  simp only [stOf, bld3]
  cases e1 : Nat.beq k 52776558645570 with
  | true => rw [Nat.eq_of_beq_eq_true e1]; exact h1
  | false =>
    cases e2 : Nat.beq k 6597070281921 with
    | true => rw [Nat.eq_of_beq_eq_true e2]; exact h2
    | false =>
      cases e3 : Nat.beq k 512385 with
      | true => rw [Nat.eq_of_beq_eq_true e3]; exact h3
      | false =>
        refine Classical.byContradiction fun h => ?_
        have := hpn k h
        simp only [List.mem_cons, List.not_mem_nil, or_false] at this
        rcases this with rfl | rfl | rfl
        · rw [Nat.beq_refl] at e1; cases e1
        · rw [Nat.beq_refl] at e2; cases e2
        · rw [Nat.beq_refl] at e3; cases e3
theorem joinF_take_len (xs : List (List UInt8)) : ∀ k, (joinF (xs.take k)).length ≤ (joinF xs).length := by
  induction xs with
  | nil => intro k; simp
  | cons a xs ih =>
    intro k
    cases k with
    | zero => simp [joinF]
    | succ k =>
      cases xs with
      | nil => simp [joinF]
      | cons b r =>
        have := ih k
        rw [List.take_succ_cons]
        cases k with
        | zero => simp [joinF]
        | succ k =>
          rw [List.take_succ_cons] at this ⊢
          simp only [joinF, List.length_append, List.length_cons] at this ⊢
          omega
def c_sexpr_Print_1 : Cmd :=
 (qT (qS [ql 7 1 1, qm 8 0, qi 9 2 7 8, qf 10 0 9, ql 11 1 10, qq 12 (.bin .neq false [.s] (.t 11) (.c (.str [])))]
 (.cond (.t 12) (.seq (.ops [ql 13 1 1, qm 14 0, qi 15 2 13 14, qf 16 0 15, ql 17 1 16, qq 18 (.call (.s [52776558645570, 6597070281921]) (.c (.fn 16 [])) [.t 2, .t 17])]) .ret) .skip))
 (qS [qq 19 (.call (.s [52776558645570, 6597070281921]) (.c (.fn 17 [])) [.t 2, .c (.int .u8 40)])]
 (qT (qS [ql 20 1 1, qm 21 0, qi 22 2 20 21, qf 23 1 22, ql 24 1 23, qn 25 24, qc 26 0]
 (.block 0 (.loop (qS [qu 27 .lss [] 26 25]
 (qT (.cond (.t 27) .skip (.exit 0))
 (qT (.block 1 (qS [qm 28 26, qi 29 1 24 26, ql 30 1 29, qm 5 28, qm 6 30]
 (qT (qS [qm 31 5, qv 32 .gtr [] 31 0]
 (.cond (.t 32) (.ops [qq 33 (.call (.s [52776558645570, 6597070281921]) (.c (.fn 17 [])) [.t 2, .c (.int .u8 32)])]) .skip))
 (.ops [ql 34 1 3, qm 35 6, qq 36 (.call (.s [52776558645570, 6597070281921, 512385]) (.t 34) [.t 35])]))))
 (.ops [qv 37 .add [] 26 1, qm 26 37])))))))
 (.ops [qq 38 (.call (.s [52776558645570, 6597070281921]) (.c (.fn 17 [])) [.t 2, .c (.int .u8 41)])]))))
def r_sexpr_Print_1 : List RVar := []
def n_sexpr_Print_1 : Nat := 39
theorem k_sexpr_Print_1 : chkFn Go.Proofs.Try.prog 15 n_sexpr_Print_1 r_sexpr_Print_1 c_sexpr_Print_1 = true := by kernel_rfl
theorem ct_write {G : Type} {H : HT G} (l : List Sx) (ho : SxsOk l) (hv : okTo l l.length) : ∀ (i : Nat), i < l.length → ∀ (p : V), (p = .nilptr ∨ p = bldN) → ∀ (acc : List UInt8), acc.length + (tx l i).length ≤ 100000 → ∀ (σ : Store), σ = stOf (bld3 l p acc) → ∀ g : G,
    Cc Go.Proofs.Try.prog H 15 [.int .i64 i, .cptr .p (.sl .p (l.map sxV)) 0, bldN, .bptr 512385 0] [52776558645570, 6597070281921, 512385] σ g fun r σ' g' => r = .tup [] ∧ σ' = stOf (bld3 l bldN (acc ++ tx l i)) ∧ g' = g := by
  intro i
  induction i using Nat.strongRecOn with
  | ind i ih =>
    intro hi p hp acc hacc σ hσ g
    subst hσ
    obtain ⟨n, hn⟩ := get_some hi
    have hlow : lowTo l (i + 1) := fun j hj => hv.low j (by omega)
    have htx := tx_eq hlow hn
    have hcl := (ho.e n (mem_get hn)).2
    by_cases c1 : n.sym = []
    · rw [if_pos c1] at htx
      rw [htx] at hacc ⊢
      simp only [List.length_cons, List.length_append, List.length_nil] at hacc
      rcases hp with rfl | rfl
      all_goals
        refine CT.step _ mixed k_sexpr_Print_1 (fun nm h => stOf_mem (bld3 l _ acc) nm h) fun hM => ?_
        repeat' (first | refine i_len rfl ?_ | refine i_s rfl ?_ | refine i_lenm rfl rfl rfl ?_ | refine sw ?_ | refine i_s0 rfl ?_ | refine i_gt rfl ?_ | refine i_gf rfl ?_ | refine i_gd rfl ?_ | refine c_t rfl ?_ | refine c_f rfl ?_ | refine jc rfl ?_ | refine ja rfl rfl ?_ | refine jb rfl rfl ?_ | refine jg rfl rfl ?_ | refine jf rfl rfl ?_ | refine jd rfl rfl ?_ | refine je rfl rfl ?_ | refine jh rfl rfl ?_ | refine i_stb rfl ?_ | refine i_alloc rfl ?_ | refine i_box rfl rfl ?_ | refine i_nv rfl ?_ | (refine sp ?_ ?_ <;> try intro h) | fail)
        all_goals first
          | (exfalso; clear ih ho hv; simp_all; done)
          | skip
        refine i_c rfl rfl rfl (ct_WriteByte _ (by first | exact .inl rfl | exact .inr rfl) acc 40 (by omega) _ (bld_eq rfl rfl fun nm h => restr_mem nm h) g) ?_
        rintro _ _ g ⟨rfl, rfl, rfl⟩
        repeat (first | refine i_len rfl ?_ | refine i_s rfl ?_ | refine i_lenm rfl rfl rfl ?_ | refine sw ?_ | refine i_s0 rfl ?_ | refine i_gt rfl ?_ | refine i_gf rfl ?_ | refine i_gd rfl ?_ | refine c_t rfl ?_ | refine c_f rfl ?_ | refine jc rfl ?_ | refine ja rfl rfl ?_ | refine jb rfl rfl ?_ | refine jg rfl rfl ?_ | refine jf rfl rfl ?_ | refine jd rfl rfl ?_ | refine je rfl rfl ?_ | refine jh rfl rfl ?_ | refine i_stb rfl ?_ | refine i_alloc rfl ?_ | refine i_box rfl rfl ?_ | refine i_nv rfl ?_)
        refine c_for n.ch.length (fun k => [(1, .cptr .p (.sl .p (l.map sxV)) 0), (2, bldN), (3, .bptr 512385 0), (24, .sl .p (n.ch.map i64V)), (25, .int .i64 n.ch.length), (26, .int .i64 k)])
          (fun k => bld3 l bldN (acc ++ 40 :: joinF ((n.ch.take k).map fun c => tx l c.toNat))) (fun _ => True) trivial ft fun k hk _ => ?_
        have hjl := joinF_take_len (n.ch.map fun c => tx l c.toNat) k
        rw [← List.map_take] at hjl
        have hal : (acc ++ 40 :: joinF ((n.ch.take k).map fun c => tx l c.toNat)).length ≤ 100000 := by simp only [List.length_append, List.length_cons]; omega
        repeat (first | refine i_len rfl ?_ | refine i_s rfl ?_ | refine i_lenm rfl rfl rfl ?_ | refine sw ?_ | refine i_s0 rfl ?_ | refine i_gt rfl ?_ | refine i_gf rfl ?_ | refine i_gd rfl ?_ | refine c_t rfl ?_ | refine c_f rfl ?_ | refine jc rfl ?_ | refine ja rfl rfl ?_ | refine jb rfl rfl ?_ | refine jg rfl rfl ?_ | refine jf rfl rfl ?_ | refine jd rfl rfl ?_ | refine je rfl rfl ?_ | refine jh rfl rfl ?_ | refine i_stb rfl ?_ | refine i_alloc rfl ?_ | refine i_box rfl rfl ?_ | refine i_nv rfl ?_)
        refine c_cond rfl (fun h => ?_) (fun h => ?_)
        · have hkl : k < n.ch.length := by simpa using h
          obtain ⟨c, hc⟩ := get_some hkl
          have hcr := hlow i (by omega) c (by rw [chL_get hn]; exact mem_get hc)
          have hj2 := joinF_take_len (n.ch.map fun c => tx l c.toNat) (k + 1)
          rw [← List.map_take, take_succ_get hc, List.map_append, List.map_singleton, joinF_snoc] at hj2
          have hih := fun p hp acc hacc σ hσ => ih c.toNat (by omega) (by omega) p hp acc hacc σ hσ g
          rw [show ((c.toNat : Nat) : Int) = c from by omega] at hih
          have hk0 : ((n.ch.take k).map fun c => tx l c.toNat) = [] ↔ k = 0 := by
            rw [List.map_eq_nil_iff, List.take_eq_nil_iff]
            constructor
            · rintro (h | h)
              · exact h
              · rw [h] at hkl; simp at hkl
            · exact .inl
          have e : joinF ((n.ch.take (k + 1)).map fun c => tx l c.toNat) = if k = 0 then tx l c.toNat else joinF ((n.ch.take k).map fun c => tx l c.toNat) ++ 32 :: tx l c.toNat := by
            rw [take_succ_get hc, List.map_append, List.map_singleton, joinF_snoc]
            by_cases h0 : k = 0
            · subst h0; simp
            · rw [if_neg h0, if_neg fun e => h0 (hk0.1 e)]
          clear h ih hv ho
          by_cases h0 : k = 0
          · subst h0
            rw [if_pos rfl] at e
            rw [if_pos (hk0.2 rfl)] at hj2
            repeat' (first | refine i_len rfl ?_ | refine i_s rfl ?_ | refine i_lenm rfl rfl rfl ?_ | refine sw ?_ | refine i_s0 rfl ?_ | refine i_gt rfl ?_ | refine i_gf rfl ?_ | refine i_gd rfl ?_ | refine c_t rfl ?_ | refine c_f rfl ?_ | refine jc rfl ?_ | refine ja rfl rfl ?_ | refine jb rfl rfl ?_ | refine jg rfl rfl ?_ | refine jf rfl rfl ?_ | refine jd rfl rfl ?_ | refine je rfl rfl ?_ | refine jh rfl rfl ?_ | refine i_stb rfl ?_ | refine i_alloc rfl ?_ | refine i_box rfl rfl ?_ | refine i_nv rfl ?_ | (refine sp ?_ ?_ <;> try intro h) | fail)
            all_goals first
              | (exfalso; have := of_decide_eq_true h; omega)
              | skip
            refine i_c rfl rfl rfl (hih bldN (.inr rfl) (acc ++ 40 :: joinF ((n.ch.take 0).map fun c => tx l c.toNat)) (by simp [joinF]; omega) _ (bld3_eq rfl rfl rfl fun nm h => restr_mem nm h)) ?_
            rintro _ _ g ⟨rfl, rfl, rfl⟩
            repeat (first | refine i_len rfl ?_ | refine i_s rfl ?_ | refine i_lenm rfl rfl rfl ?_ | refine sw ?_ | refine i_s0 rfl ?_ | refine i_gt rfl ?_ | refine i_gf rfl ?_ | refine i_gd rfl ?_ | refine c_t rfl ?_ | refine c_f rfl ?_ | refine jc rfl ?_ | refine ja rfl rfl ?_ | refine jb rfl rfl ?_ | refine jg rfl rfl ?_ | refine jf rfl rfl ?_ | refine jd rfl rfl ?_ | refine je rfl rfl ?_ | refine jh rfl rfl ?_ | refine i_stb rfl ?_ | refine i_alloc rfl ?_ | refine i_box rfl rfl ?_ | refine i_nv rfl ?_)
            have eA : acc ++ 40 :: joinF ((n.ch.take (0 + 1)).map fun c => tx l c.toNat) = (acc ++ 40 :: joinF ((n.ch.take 0).map fun c => tx l c.toNat)) ++ tx l c.toNat := by rw [e]; simp [joinF]
            refine e_for hkl trivial ⟨⟨rfl, rfl, rfl, rfl, rfl, rfl, trivial⟩, ⟨?_, ?_, rfl, trivial⟩, rfl⟩
            · rw [eA]; rfl
            · rw [eA]; rfl
          · rw [if_neg h0] at e
            rw [if_neg (fun e => h0 (hk0.1 e))] at hj2
            generalize joinF ((n.ch.take k).map fun c => tx l c.toNat) = J at *
            simp only [List.length_append, List.length_cons] at hj2 hal
            repeat' (first | refine i_len rfl ?_ | refine i_s rfl ?_ | refine i_lenm rfl rfl rfl ?_ | refine sw ?_ | refine i_s0 rfl ?_ | refine i_gt rfl ?_ | refine i_gf rfl ?_ | refine i_gd rfl ?_ | refine c_t rfl ?_ | refine c_f rfl ?_ | refine jc rfl ?_ | refine ja rfl rfl ?_ | refine jb rfl rfl ?_ | refine jg rfl rfl ?_ | refine jf rfl rfl ?_ | refine jd rfl rfl ?_ | refine je rfl rfl ?_ | refine jh rfl rfl ?_ | refine i_stb rfl ?_ | refine i_alloc rfl ?_ | refine i_box rfl rfl ?_ | refine i_nv rfl ?_ | (refine sp ?_ ?_ <;> try intro h) | fail)
            all_goals first
              | (exfalso; have := of_decide_eq_false h; omega)
              | skip
            refine i_c rfl rfl rfl (ct_WriteByte bldN (.inr rfl) (acc ++ 40 :: J) 32 (by simp; omega) _ (bld_eq rfl rfl fun nm h => restr_mem nm h) g) ?_
            rintro _ _ g ⟨rfl, rfl, rfl⟩
            repeat (first | refine i_len rfl ?_ | refine i_s rfl ?_ | refine i_lenm rfl rfl rfl ?_ | refine sw ?_ | refine i_s0 rfl ?_ | refine i_gt rfl ?_ | refine i_gf rfl ?_ | refine i_gd rfl ?_ | refine c_t rfl ?_ | refine c_f rfl ?_ | refine jc rfl ?_ | refine ja rfl rfl ?_ | refine jb rfl rfl ?_ | refine jg rfl rfl ?_ | refine jf rfl rfl ?_ | refine jd rfl rfl ?_ | refine je rfl rfl ?_ | refine jh rfl rfl ?_ | refine i_stb rfl ?_ | refine i_alloc rfl ?_ | refine i_box rfl rfl ?_ | refine i_nv rfl ?_)
            refine i_c rfl rfl rfl (hih bldN (.inr rfl) ((acc ++ 40 :: J) ++ [32]) (by simp; omega) _ (bld3_eq rfl rfl rfl fun nm h => restr_mem nm h)) ?_
            rintro _ _ g ⟨rfl, rfl, rfl⟩
            repeat (first | refine i_len rfl ?_ | refine i_s rfl ?_ | refine i_lenm rfl rfl rfl ?_ | refine sw ?_ | refine i_s0 rfl ?_ | refine i_gt rfl ?_ | refine i_gf rfl ?_ | refine i_gd rfl ?_ | refine c_t rfl ?_ | refine c_f rfl ?_ | refine jc rfl ?_ | refine ja rfl rfl ?_ | refine jb rfl rfl ?_ | refine jg rfl rfl ?_ | refine jf rfl rfl ?_ | refine jd rfl rfl ?_ | refine je rfl rfl ?_ | refine jh rfl rfl ?_ | refine i_stb rfl ?_ | refine i_alloc rfl ?_ | refine i_box rfl rfl ?_ | refine i_nv rfl ?_)
            have eA : acc ++ 40 :: joinF ((n.ch.take (k + 1)).map fun c => tx l c.toNat) = ((acc ++ 40 :: J) ++ [32]) ++ tx l c.toNat := by rw [e]; simp
            refine e_for hkl trivial ⟨⟨rfl, rfl, rfl, rfl, rfl, rfl, trivial⟩, ⟨?_, ?_, rfl, trivial⟩, rfl⟩
            · rw [eA]; rfl
            · rw [eA]; rfl
        · have hge : k = n.ch.length := by have : ¬ k < n.ch.length := by simpa using h
                                           omega
          subst hge
          rw [List.take_length] at *
          clear h ih hv ho
          generalize joinF (n.ch.map fun c => tx l c.toNat) = J at *
          repeat (first | refine i_len rfl ?_ | refine i_s rfl ?_ | refine i_lenm rfl rfl rfl ?_ | refine sw ?_ | refine i_s0 rfl ?_ | refine i_gt rfl ?_ | refine i_gf rfl ?_ | refine i_gd rfl ?_ | refine c_t rfl ?_ | refine c_f rfl ?_ | refine jc rfl ?_ | refine ja rfl rfl ?_ | refine jb rfl rfl ?_ | refine jg rfl rfl ?_ | refine jf rfl rfl ?_ | refine jd rfl rfl ?_ | refine je rfl rfl ?_ | refine jh rfl rfl ?_ | refine i_stb rfl ?_ | refine i_alloc rfl ?_ | refine i_box rfl rfl ?_ | refine i_nv rfl ?_)
          refine i_c rfl rfl rfl (ct_WriteByte bldN (.inr rfl) (acc ++ 40 :: J) 41 (by omega) _ (bld_eq rfl rfl fun nm h => restr_mem nm h) g) ?_
          rintro _ _ g ⟨rfl, rfl, rfl⟩
          repeat (first | refine i_len rfl ?_ | refine i_s rfl ?_ | refine i_lenm rfl rfl rfl ?_ | refine sw ?_ | refine i_s0 rfl ?_ | refine i_gt rfl ?_ | refine i_gf rfl ?_ | refine i_gd rfl ?_ | refine c_t rfl ?_ | refine c_f rfl ?_ | refine jc rfl ?_ | refine ja rfl rfl ?_ | refine jb rfl rfl ?_ | refine jg rfl rfl ?_ | refine jf rfl rfl ?_ | refine jd rfl rfl ?_ | refine je rfl rfl ?_ | refine jh rfl rfl ?_ | refine i_stb rfl ?_ | refine i_alloc rfl ?_ | refine i_box rfl rfl ?_ | refine i_nv rfl ?_)
          have eA : acc ++ 40 :: (J ++ [41]) = (acc ++ 40 :: J) ++ [41] := by simp
          refine e_end ⟨rfl, _, rfl, rfl, rfl, rfl, ?_, rfl⟩
          rw [eA]
          exact bld3_eq rfl rfl rfl fun nm h => restr_mem nm h
    · rw [if_neg c1] at htx
      rw [htx] at hacc ⊢
      rcases hp with rfl | rfl
      all_goals
        refine CT.step _ mixed k_sexpr_Print_1 (fun nm h => stOf_mem (bld3 l _ acc) nm h) fun hM => ?_
        repeat' (first | refine i_len rfl ?_ | refine i_s rfl ?_ | refine i_lenm rfl rfl rfl ?_ | refine sw ?_ | refine i_s0 rfl ?_ | refine i_gt rfl ?_ | refine i_gf rfl ?_ | refine i_gd rfl ?_ | refine c_t rfl ?_ | refine c_f rfl ?_ | refine jc rfl ?_ | refine ja rfl rfl ?_ | refine jb rfl rfl ?_ | refine jg rfl rfl ?_ | refine jf rfl rfl ?_ | refine jd rfl rfl ?_ | refine je rfl rfl ?_ | refine jh rfl rfl ?_ | refine i_stb rfl ?_ | refine i_alloc rfl ?_ | refine i_box rfl rfl ?_ | refine i_nv rfl ?_ | (refine sp ?_ ?_ <;> try intro h) | fail)
        all_goals first
          | (exfalso; clear ih ho hv; simp_all; done)
          | skip
        refine i_c rfl rfl rfl (ct_WriteString _ (by first | exact .inl rfl | exact .inr rfl) acc n.sym (by omega) (by omega) _ (bld_eq rfl rfl fun nm h => restr_mem nm h) g) ?_
        rintro _ _ g ⟨rfl, rfl, rfl⟩
        repeat (first | refine i_len rfl ?_ | refine i_s rfl ?_ | refine i_lenm rfl rfl rfl ?_ | refine sw ?_ | refine i_s0 rfl ?_ | refine i_gt rfl ?_ | refine i_gf rfl ?_ | refine i_gd rfl ?_ | refine c_t rfl ?_ | refine c_f rfl ?_ | refine jc rfl ?_ | refine ja rfl rfl ?_ | refine jb rfl rfl ?_ | refine jg rfl rfl ?_ | refine jf rfl rfl ?_ | refine jd rfl rfl ?_ | refine je rfl rfl ?_ | refine jh rfl rfl ?_ | refine i_stb rfl ?_ | refine i_alloc rfl ?_ | refine i_box rfl rfl ?_ | refine i_nv rfl ?_)
        refine e_ret ⟨rfl, _, rfl, rfl, rfl, rfl, ?_, rfl⟩
        exact bld3_eq rfl rfl rfl fun nm h => restr_mem nm h
end Hm
end
section
namespace Hm
open Go
set_option maxRecDepth 100000
set_option maxHeartbeats 4000000
theorem tx_ne {l : List Sx} {i : Nat} {n : Sx} (h : lowTo l (i + 1)) (hn : l[i]? = some n) : tx l i ≠ [] := by
  rw [tx_eq h hn]
  split
  · simp
  · assumption
def c_sexpr_Print : Cmd :=
 (qS [qx 1 512065 1 0, qq 2 (.mov (.c (.str []))), qq 3 (.alloc 512194 (.agg [.int .i64 0, .int .i64 0]))]
 (.seq (qS [ql 7 1 1, qk 8 10 [7], qq 4 (.alloc 512258 (.agg [.int .i64 0, .int .i64 0])), qs 2 4 8]
 (qS [qL 9 2 4, qq 10 (.build [.int .i64 0, .int .i64 0] []), qq 11 (.bin .neq true [.i, .i] (.t 9) (.t 10))]
 (.cond (.t 11) (.seq (.ops [qL 12 2 4, qq 2 (.mov (.c (.str []))), qs 2 3 12]) .ret) .skip))) (qT (.frz 1)
 (.seq (.ops [qq 5 (.alloc 52776558645570 (.agg [.nilptr, .sl .nil []]))]) (.nvb 5 1 6597070281921 (.cut (qS [qq 6 (.alloc 512385 (.nilfn))]
 (qS [qq 13 (.mkfn 15 [.t 1, .t 5, .t 6]), qs 1 6 13]
 (qS [ql 14 1 6, ql 15 1 1, qn 16 15, qv 17 .sub [] 16 1, qq 18 (.call (.s [52776558645570, 6597070281921, 512385]) (.t 14) [.t 17])]
 (.seq (.ops [qq 19 (.call (.s [52776558645570, 6597070281921]) (.c (.fn 18 [])) [.t 5]), qq 20 (.build [.int .i64 0, .int .i64 0] []), qm 2 19, qs 2 3 20]) .ret))))))))))
def r_sexpr_Print : List RVar := [.tmp 2, .cell true 2 3]
def n_sexpr_Print : Nat := 21
theorem k_sexpr_Print : chkFn Go.Proofs.Try.prog 8 n_sexpr_Print r_sexpr_Print c_sexpr_Print = true := by kernel_rfl
theorem f_sexpr_Print_ok (l : List Sx) (ho : SxsOk l) (hb : SxOk l) : Fc Go.Proofs.Try.prog 8 [.sl .p (l.map sxV)] (.tup [.str (tx l (l.length - 1)), ftV okF]) := by
  have hV := f_sexpr_Validate l ho
  rw [sxOk_to hb] at hV
  obtain ⟨hl1, hl2⟩ := hb.len
  obtain ⟨n, hn⟩ := get_some (l := l) (k := l.length - 1) (by omega)
  have htl := tx_len (l.length - 1) l.length hb.node (by omega)
  have hsz := sz_leC (l.length - 1) l.length hb.node.chs (by omega)
  have hne := tx_ne (fun j hj => hb.node.low j (by omega)) hn
  refine Fn.step mixed k_sexpr_Print ?_
  repeat (first | refine i_len rfl ?_ | refine i_s rfl ?_ | refine i_lenm rfl rfl rfl ?_ | refine sw ?_ | refine i_s0 rfl ?_ | refine i_gt rfl ?_ | refine i_gf rfl ?_ | refine i_gd rfl ?_ | refine c_t rfl ?_ | refine c_f rfl ?_ | refine jc rfl ?_ | refine ja rfl rfl ?_ | refine jb rfl rfl ?_ | refine jg rfl rfl ?_ | refine jf rfl rfl ?_ | refine jd rfl rfl ?_ | refine je rfl rfl ?_ | refine jh rfl rfl ?_ | refine i_stb rfl ?_ | refine i_alloc rfl ?_ | refine i_box rfl rfl ?_ | refine i_nv rfl ?_ | refine sf rfl rfl hV ?_)
  refine c_frzb rfl rfl rfl ?_
  repeat (first | refine i_len rfl ?_ | refine i_s rfl ?_ | refine i_lenm rfl rfl rfl ?_ | refine sw ?_ | refine i_s0 rfl ?_ | refine i_gt rfl ?_ | refine i_gf rfl ?_ | refine i_gd rfl ?_ | refine c_t rfl ?_ | refine c_f rfl ?_ | refine jc rfl ?_ | refine ja rfl rfl ?_ | refine jb rfl rfl ?_ | refine jg rfl rfl ?_ | refine jf rfl rfl ?_ | refine jd rfl rfl ?_ | refine je rfl rfl ?_ | refine jh rfl rfl ?_ | refine i_stb rfl ?_ | refine i_alloc rfl ?_ | refine i_box rfl rfl ?_ | refine i_nv rfl ?_)
  refine c_nvb rfl rfl rfl rfl ?_
  repeat (first | refine i_len rfl ?_ | refine i_s rfl ?_ | refine i_lenm rfl rfl rfl ?_ | refine sw ?_ | refine i_s0 rfl ?_ | refine i_gt rfl ?_ | refine i_gf rfl ?_ | refine i_gd rfl ?_ | refine c_t rfl ?_ | refine c_f rfl ?_ | refine jc rfl ?_ | refine ja rfl rfl ?_ | refine jb rfl rfl ?_ | refine jg rfl rfl ?_ | refine jf rfl rfl ?_ | refine jd rfl rfl ?_ | refine je rfl rfl ?_ | refine jh rfl rfl ?_ | refine i_stb rfl ?_ | refine i_alloc rfl ?_ | refine i_box rfl rfl ?_ | refine i_nv rfl ?_)
  have hW := @ct_write Unit noH l ho hb.node (l.length - 1) (by omega) .nilptr (.inl rfl) [] (by simp; omega)
  rw [show ((l.length - 1 : Nat) : Int) = (l.length : Int) - 1 from by omega] at hW
  refine i_c rfl rfl rfl (hW _ (bld3_eq rfl rfl rfl fun nm h => restr_mem nm h) _) ?_
  rintro _ _ g ⟨rfl, rfl, rfl⟩
  rw [List.nil_append]
  generalize tx l (l.length - 1) = s at *
  refine i_nil ?_
  repeat (first | refine i_len rfl ?_ | refine i_s rfl ?_ | refine i_lenm rfl rfl rfl ?_ | refine sw ?_ | refine i_s0 rfl ?_ | refine i_gt rfl ?_ | refine i_gf rfl ?_ | refine i_gd rfl ?_ | refine c_t rfl ?_ | refine c_f rfl ?_ | refine jc rfl ?_ | refine ja rfl rfl ?_ | refine jb rfl rfl ?_ | refine jg rfl rfl ?_ | refine jf rfl rfl ?_ | refine jd rfl rfl ?_ | refine je rfl rfl ?_ | refine jh rfl rfl ?_ | refine i_stb rfl ?_ | refine i_alloc rfl ?_ | refine i_box rfl rfl ?_ | refine i_nv rfl ?_)
  refine i_c rfl rfl rfl ⟨ct_String (ρ := Go.Proofs.Try.bl_ren) Go.Proofs.Try.bl_169 Go.Proofs.Try.bl_x 52776558645570 6597070281921 bldN s hne (by omega) (by decide +kernel) (by decide +kernel) rfl rfl rfl (fun nm h => (restr_out (θ := θ0) h).1)⟩ ?_
  rintro _ _ g ⟨rfl, rfl, rfl⟩
  repeat (first | refine i_len rfl ?_ | refine i_s rfl ?_ | refine i_lenm rfl rfl rfl ?_ | refine sw ?_ | refine i_s0 rfl ?_ | refine i_gt rfl ?_ | refine i_gf rfl ?_ | refine i_gd rfl ?_ | refine c_t rfl ?_ | refine c_f rfl ?_ | refine jc rfl ?_ | refine ja rfl rfl ?_ | refine jb rfl rfl ?_ | refine jg rfl rfl ?_ | refine jf rfl rfl ?_ | refine jd rfl rfl ?_ | refine je rfl rfl ?_ | refine jh rfl rfl ?_ | refine i_stb rfl ?_ | refine i_alloc rfl ?_ | refine i_box rfl rfl ?_ | refine i_nv rfl ?_)
  exact e_ret ⟨rfl, _, rfl, rfl⟩
def rdN : V := .bptr 320259 0
def rdSx (t s : List UInt8) (ns : List Sx) : List (Nat × Blk) := [(320259, .box (.agg [.str t, .int .i64 ((t.length : Int) - s.length), .sl (.own 322690) (ns.map sxV)])), (322690, .vec ns.length)]
theorem rd_eq {σ : Store} {t s : List UInt8} {ns : List Sx} (h1 : σ 320259 = .box (.agg [.str t, .int .i64 ((t.length : Int) - s.length), .sl (.own 322690) (ns.map sxV)])) (h2 : σ 322690 = .vec ns.length)
    (hpn : ∀ nm, σ nm ≠ .unused → nm ∈ [320259, 322690]) : σ = stOf (rdSx t s ns) := by
  funext k
  simp only [stOf, rdSx]
  cases e1 : Nat.beq k 320259 with
  | true => rw [Nat.eq_of_beq_eq_true e1]; exact h1
  | false =>
    cases e2 : Nat.beq k 322690 with
    | true => rw [Nat.eq_of_beq_eq_true e2]; exact h2
    | false =>
      refine Classical.byContradiction fun h => ?_
      have := hpn k h
      simp only [List.mem_cons, List.not_mem_nil, or_false] at this
      rcases this with rfl | rfl
      · rw [Nat.beq_refl] at e1; cases e1
      · rw [Nat.beq_refl] at e2; cases e2
theorem at_succ {t r : List UInt8} (c : UInt8) : ((t.length : Int) - (c :: r).length) + 1 = (t.length : Int) - r.length := by simp only [List.length_cons]; omega
def c_sexpr_reader_blanks : Cmd :=
 (.block 0 (.loop (qT (qS [qm 2 0, qq 3 (.nilck (.t 2)), qf 4 1 3, ql 5 1 4, qm 6 0, qq 7 (.nilck (.t 6)), qf 8 0 7, ql 9 1 8, qq 10 (.len true (.t 9)), qu 11 .lss [] 5 10, qm 12 11, qg 13 12 true (.mov (.t 0)), qg 14 12 true (.nilck (.t 13)), qg 15 12 true (.faddr 0 (.t 14)), qg 16 12 true (.load false 1 (.t 15)), qg 17 12 true (.mov (.t 0)), qg 18 12 true (.nilck (.t 17)), qg 19 12 true (.faddr 1 (.t 18)), qg 20 12 true (.load false 1 (.t 19)), qg 21 12 true (.index (.t 16) (.t 20)), qg 22 12 true (.call .f (.c (.fn 22 [])) [.c (.str [32, 9, 10]), .t 21]), qg 23 12 true (.bin .geq false [] (.t 22) (.c (.int .i64 0))), qq 24 (.pick (.t 12) (.t 23) (.c (.bool false)))]
 (.cond (.t 24) .skip (.exit 0)))
 (.block 1 (.ops [qm 25 0, qq 26 (.nilck (.t 25)), qf 27 1 26, ql 28 1 27, qv 29 .add [] 28 1, qq 30 (.nilck (.t 25)), qf 31 1 30, qs 1 31 29])))))
def r_sexpr_reader_blanks : List RVar := []
def n_sexpr_reader_blanks : Nat := 32
theorem k_sexpr_reader_blanks : chkFn Go.Proofs.Try.prog 12 n_sexpr_reader_blanks r_sexpr_reader_blanks c_sexpr_reader_blanks = true := by kernel_rfl
theorem ct_blanks {G : Type} {H : HT G} (t s : List UInt8) (ns : List Sx) (ht : t.length ≤ 100000) (hs : s <:+ t) (σ : Store) (hσ : σ = stOf (rdSx t s ns)) (g : G) :
    Cc Go.Proofs.Try.prog H 12 [rdN] [320259, 322690] σ g fun r σ' g' => r = .tup [] ∧ σ' = stOf (rdSx t (sk s) ns) ∧ g' = g := by
  subst hσ
  refine CT.step _ mixed k_sexpr_reader_blanks (fun nm h => stOf_mem (rdSx t s ns) nm h) fun hM => ?_
  repeat (first | refine i_len rfl ?_ | refine i_s rfl ?_ | refine i_lenm rfl rfl rfl ?_ | refine sw ?_ | refine i_s0 rfl ?_ | refine i_gt rfl ?_ | refine i_gf rfl ?_ | refine i_gd rfl ?_ | refine c_t rfl ?_ | refine c_f rfl ?_ | refine jc rfl ?_ | refine ja rfl rfl ?_ | refine jb rfl rfl ?_ | refine jg rfl rfl ?_ | refine jf rfl rfl ?_ | refine jd rfl rfl ?_ | refine je rfl rfl ?_ | refine jh rfl rfl ?_ | refine i_stb rfl ?_ | refine i_alloc rfl ?_ | refine i_box rfl rfl ?_ | refine i_nv rfl ?_)
  refine c_lp (ι := List UInt8) (fun u => [(0, rdN)]) (fun u => rdSx t u ns) (fun u => u <:+ t ∧ sk u = sk s) (fun u => u.length) s ⟨hs, rfl⟩ ⟨⟨rfl, trivial⟩, ⟨rfl, rfl, trivial⟩, rfl⟩ fun u hu => ?_
  obtain ⟨hu, hk⟩ := hu
  have hul := hu.length_le
  cases hc : u with
  | nil =>
    subst hc
    repeat' (first | refine i_len rfl ?_ | refine i_s rfl ?_ | refine i_lenm rfl rfl rfl ?_ | refine sw ?_ | refine i_s0 rfl ?_ | refine i_gt rfl ?_ | refine i_gf rfl ?_ | refine i_gd rfl ?_ | refine c_t rfl ?_ | refine c_f rfl ?_ | refine jc rfl ?_ | refine ja rfl rfl ?_ | refine jb rfl rfl ?_ | refine jg rfl rfl ?_ | refine jf rfl rfl ?_ | refine jd rfl rfl ?_ | refine je rfl rfl ?_ | refine jh rfl rfl ?_ | refine i_stb rfl ?_ | refine i_alloc rfl ?_ | refine i_box rfl rfl ?_ | refine i_nv rfl ?_ | (refine sp ?_ ?_ <;> try intro h) | fail)
    all_goals first
      | (exfalso; have := of_decide_eq_true h; simp at this; done)
      | skip
    refine e_end ⟨rfl, _, rfl, rfl, rfl, rfl, ?_, rfl⟩
    rw [← hk]
    exact rd_eq rfl rfl fun nm h => restr_mem nm h
  | cons c r =>
    subst hc
    have hg := suf_get hu rfl
    have hI := f_strings_IndexByte [32, 9, 10] c
    have hm := ix_mem [32, 9, 10] c
    generalize Lib.indexByte [32, 9, 10] c = ix at *
    have hr : r <:+ t := (List.suffix_cons c r).trans hu
    have hsucc := at_succ (t := t) (r := r) c
    have hlt : ((t.length : Int) - (c :: r).length) < t.length := by simp only [List.length_cons]; omega
    have h0 : 0 ≤ ((t.length : Int) - (c :: r).length) := by omega
    have hul2 : r.length < (c :: r).length := by simp
    cases hb : blankB c with
    | true =>
      have hix : ix ≥ 0 := by have : decide (ix ≥ 0) = true := hm.trans hb
                              exact of_decide_eq_true this
      rw [sk_cons hb] at hk
      repeat' (first | refine i_len rfl ?_ | refine i_s rfl ?_ | refine i_lenm rfl rfl rfl ?_ | refine sw ?_ | refine i_s0 rfl ?_ | refine i_gt rfl ?_ | refine i_gf rfl ?_ | refine i_gd rfl ?_ | refine c_t rfl ?_ | refine c_f rfl ?_ | refine jc rfl ?_ | refine ja rfl rfl ?_ | refine jb rfl rfl ?_ | refine jg rfl rfl ?_ | refine jf rfl rfl ?_ | refine jd rfl rfl ?_ | refine je rfl rfl ?_ | refine jh rfl rfl ?_ | refine i_stb rfl ?_ | refine i_alloc rfl ?_ | refine i_box rfl rfl ?_ | refine i_nv rfl ?_ | (refine sp ?_ ?_ <;> try intro h) | refine sf rfl rfl hI ?_ | refine i_ix rfl rfl h0 hg ?_)
      all_goals first
        | (exfalso; have := of_decide_eq_false h; omega)
        | skip
      refine e_lp r ⟨hr, hk⟩ hul2 ⟨⟨rfl, trivial⟩, ⟨?_, rfl, trivial⟩, rfl⟩
      rw [← hsucc]
      rfl
    | false =>
      have hix : ¬ ix ≥ 0 := by have : decide (ix ≥ 0) = false := hm.trans hb
                                exact of_decide_eq_false this
      rw [sk_stop hb] at hk
      repeat' (first | refine i_len rfl ?_ | refine i_s rfl ?_ | refine i_lenm rfl rfl rfl ?_ | refine sw ?_ | refine i_s0 rfl ?_ | refine i_gt rfl ?_ | refine i_gf rfl ?_ | refine i_gd rfl ?_ | refine c_t rfl ?_ | refine c_f rfl ?_ | refine jc rfl ?_ | refine ja rfl rfl ?_ | refine jb rfl rfl ?_ | refine jg rfl rfl ?_ | refine jf rfl rfl ?_ | refine jd rfl rfl ?_ | refine je rfl rfl ?_ | refine jh rfl rfl ?_ | refine i_stb rfl ?_ | refine i_alloc rfl ?_ | refine i_box rfl rfl ?_ | refine i_nv rfl ?_ | (refine sp ?_ ?_ <;> try intro h) | refine sf rfl rfl hI ?_ | refine i_ix rfl rfl h0 hg ?_)
      all_goals first
        | (exfalso; have := of_decide_eq_false h; omega)
        | (exfalso; have := of_decide_eq_true h; omega)
        | skip
      refine e_end ⟨rfl, _, rfl, rfl, rfl, rfl, ?_, rfl⟩
      rw [← hk]
      refine rd_eq ?_ rfl fun nm h => restr_mem nm h
      rfl
def ndR (b : Nat) (q : PR) : V := .tup [.int .i64 (if q.code = 0 then ((b + q.new.length : Nat) : Int) - 1 else 0), .int .i64 q.code]
def lsR (q : PR) : V := .tup [if q.code = 0 then .sl .p (q.ch.map i64V) else .sl .nil [], .int .i64 q.code]
theorem slice_suf {t w u : List UInt8} (h : (w ++ u) <:+ t) : (t.take ((t.length : Int) - u.length).toNat).drop ((t.length : Int) - (w ++ u).length).toNat = w := by
  obtain ⟨p, rfl⟩ := h
  rw [show (((p ++ (w ++ u)).length : Int) - u.length).toNat = (p ++ w).length from by simp; omega, show (((p ++ (w ++ u)).length : Int) - (w ++ u).length).toNat = p.length from by simp, ← List.append_assoc, List.take_left, List.drop_left]
def NodeC {G : Type} (H : HT G) (t : List UInt8) (f : Nat) : Prop := ∀ (d : Nat) (s : List UInt8) (ns : List Sx), d ≤ 12 → s <:+ t → ns.length + s.length ≤ 100000 → 2 * s.length + 1 ≤ f → ∀ (σ : Store), σ = stOf (rdSx t s ns) → ∀ g : G,
  Cc Go.Proofs.Try.prog H 11 [rdN, .int .i64 d] [320259, 322690] σ g fun r σ' g' => r = ndR ns.length (prs f true d s ns.length []) ∧ σ' = stOf (rdSx t (prs f true d s ns.length []).rest (ns ++ (prs f true d s ns.length []).new)) ∧ g' = g
def ListC {G : Type} (H : HT G) (t : List UInt8) (f : Nat) : Prop := ∀ (d : Nat) (s : List UInt8) (ns : List Sx), d < 12 → (40 :: s) <:+ t → ns.length + s.length ≤ 100000 → 2 * s.length + 2 ≤ f → ∀ (σ : Store), σ = stOf (rdSx t (40 :: s) ns) → ∀ g : G,
  Cc Go.Proofs.Try.prog H 21 [rdN, .int .i64 d] [320259, 322690] σ g fun r σ' g' => r = lsR (prs f false d s ns.length []) ∧ σ' = stOf (rdSx t (prs f false d s ns.length []).rest (ns ++ (prs f false d s ns.length []).new)) ∧ g' = g
theorem prs_close {f d b : Nat} {s r : List UInt8} {acc : List Int} (h : sk s = 41 :: r) : prs (f + 1) false d s b acc = ⟨r, [], acc, 0⟩ := by
  simp only [prs]
  rw [h]
  rfl
theorem prs_bad {f d b : Nat} {s : List UInt8} {acc : List Int} (h : (sk s).head? ≠ some 41) (hq : (prs f true (d + 1) (sk s) b []).code ≠ 0) : prs (f + 1) false d s b acc = ⟨(prs f true (d + 1) (sk s) b []).rest, (prs f true (d + 1) (sk s) b []).new, [], (prs f true (d + 1) (sk s) b []).code⟩ := by
  simp only [prs]
  rw [if_neg h, if_pos hq]
theorem prs_next {f d b : Nat} {s : List UInt8} {acc : List Int} (h : (sk s).head? ≠ some 41) (hq : (prs f true (d + 1) (sk s) b []).code = 0) (hf : 2 * (sk s).length + 1 ≤ f) :
    prs (f + 1) false d s b acc = ⟨(prs (f + 1) false d (prs f true (d + 1) (sk s) b []).rest (b + (prs f true (d + 1) (sk s) b []).new.length) (acc ++ [((b + (prs f true (d + 1) (sk s) b []).new.length : Nat) : Int) - 1])).rest,
      (prs f true (d + 1) (sk s) b []).new ++ (prs (f + 1) false d (prs f true (d + 1) (sk s) b []).rest (b + (prs f true (d + 1) (sk s) b []).new.length) (acc ++ [((b + (prs f true (d + 1) (sk s) b []).new.length : Nat) : Int) - 1])).new,
      (prs (f + 1) false d (prs f true (d + 1) (sk s) b []).rest (b + (prs f true (d + 1) (sk s) b []).new.length) (acc ++ [((b + (prs f true (d + 1) (sk s) b []).new.length : Nat) : Int) - 1])).ch,
      (prs (f + 1) false d (prs f true (d + 1) (sk s) b []).rest (b + (prs f true (d + 1) (sk s) b []).new.length) (acc ++ [((b + (prs f true (d + 1) (sk s) b []).new.length : Nat) : Int) - 1])).code⟩ := by
  have hl := ((prs_facts f true (d + 1) (sk s) b []).2.2.2 hq).1
  conv => lhs; simp only [prs]
  rw [if_neg h, if_neg (by simp [hq]), prs_fuel f (f + 1) false d _ _ _ (by simp; omega) (by simp; omega)]
def c_sexpr_reader_list : Cmd :=
 (qS [qq 4 (.mov (.c (.sl .nil []))), qc 5 0]
 (qS [qq 6 (.newVec 1344385)]
 (qS [qm 9 0, qq 10 (.nilck (.t 9)), qf 11 1 10, ql 12 1 11, qv 13 .add [] 12 1, qq 14 (.nilck (.t 9)), qf 15 1 14, qs 1 15 13]
 (.block 0 (.loop (.block 1 (qS [qm 16 0, qq 17 (.call (.s [320259, 322690]) (.c (.fn 12 [])) [.t 16])]
 (qT (qS [qm 18 0, qq 19 (.nilck (.t 18)), qf 20 1 19, ql 21 1 20, qm 22 0, qq 23 (.nilck (.t 22)), qf 24 0 23, ql 25 1 24, qq 26 (.len true (.t 25)), qu 27 .lss [] 21 26, qm 28 27, qg 29 28 true (.mov (.t 0)), qg 30 28 true (.nilck (.t 29)), qg 31 28 true (.faddr 0 (.t 30)), qg 32 28 true (.load false 1 (.t 31)), qg 33 28 true (.mov (.t 0)), qg 34 28 true (.nilck (.t 33)), qg 35 28 true (.faddr 1 (.t 34)), qg 36 28 true (.load false 1 (.t 35)), qg 37 28 true (.index (.t 32) (.t 36)), qg 38 28 true (.bin .eql false [.i] (.t 37) (.c (.int .u8 41))), qq 39 (.pick (.t 28) (.t 38) (.c (.bool false)))]
 (.cond (.t 39) (.seq (.ops [qm 40 0, qq 41 (.nilck (.t 40)), qf 42 1 41, ql 43 1 42, qv 44 .add [] 43 1, qq 45 (.nilck (.t 40)), qf 46 1 45, qs 1 46 44]) (qT (.frz 6)
 (.seq (.ops [qm 47 6, qm 4 47, qc 5 0]) .ret))) .skip))
 (qS [qm 49 0, qm 50 1, qv 51 .add [] 50 1, qq 52 (.call (.s [320259, 322690]) (.c (.fn 11 [])) [.t 49, .t 51]), qm 48 52, qq 53 (.extract (.t 48) 0), qq 54 (.extract (.t 48) 1), qm 7 53, qm 8 54]
 (qT (qS [qm 55 8, qv 56 .neq [.i] 55 0]
 (.cond (.t 56) (.seq (.ops [qm 57 8, qq 4 (.mov (.c (.sl .nil []))), qm 5 57]) .ret) .skip))
 (.ops [qm 58 6, qm 59 7, qq 60 (.bsl 1 [.t 59]), qq 61 (.append 1 8 3 (.t 58) (.t 60)), qm 6 61])))))))))))
def r_sexpr_reader_list : List RVar := [.tmp 4, .tmp 5]
def n_sexpr_reader_list : Nat := 62
theorem k_sexpr_reader_list : chkFn Go.Proofs.Try.prog 21 n_sexpr_reader_list r_sexpr_reader_list c_sexpr_reader_list = true := by kernel_rfl
theorem ct_list {G : Type} {H : HT G} (t : List UInt8) (ht : t.length ≤ 100000) (f : Nat) (hN : NodeC H t f) : ListC H t (f + 1) := by
  intro d s ns hd hs hb hf σ hσ g
  subst hσ
  have hsl := hs.length_le
  simp only [List.length_cons] at hsl
  have hst : s <:+ t := (List.suffix_cons 40 s).trans hs
  have hsucc := at_succ (t := t) (r := s) 40
  refine CT.step _ mixed k_sexpr_reader_list (fun nm h => stOf_mem (rdSx t (40 :: s) ns) nm h) fun hM => ?_
  repeat (first | refine i_len rfl ?_ | refine i_s rfl ?_ | refine i_lenm rfl rfl rfl ?_ | refine sw ?_ | refine i_s0 rfl ?_ | refine i_gt rfl ?_ | refine i_gf rfl ?_ | refine i_gd rfl ?_ | refine c_t rfl ?_ | refine c_f rfl ?_ | refine jc rfl ?_ | refine ja rfl rfl ?_ | refine jb rfl rfl ?_ | refine jg rfl rfl ?_ | refine jf rfl rfl ?_ | refine jd rfl rfl ?_ | refine je rfl rfl ?_ | refine jh rfl rfl ?_ | refine i_stb rfl ?_ | refine i_alloc rfl ?_ | refine i_box rfl rfl ?_ | refine i_nv rfl ?_)
  refine c_lp (ι := List UInt8 × List Sx × List Int) (fun p => [(0, rdN), (1, .int .i64 d), (6, .sl (.own 1344385) (p.2.2.map i64V))])
    (fun p => (1344385, .vec p.2.2.length) :: rdSx t p.1 (ns ++ p.2.1)) (fun p => p.1 <:+ t ∧ p.1.length ≤ s.length ∧ ns.length + p.2.1.length + p.1.length ≤ 100000 ∧ p.2.2.length + p.1.length ≤ s.length ∧
      prs (f + 1) false d s ns.length [] = ⟨(prs (f + 1) false d p.1 (ns.length + p.2.1.length) p.2.2).rest, p.2.1 ++ (prs (f + 1) false d p.1 (ns.length + p.2.1.length) p.2.2).new, (prs (f + 1) false d p.1 (ns.length + p.2.1.length) p.2.2).ch, (prs (f + 1) false d p.1 (ns.length + p.2.1.length) p.2.2).code⟩) (fun p => p.1.length) (s, [], [])
    ⟨hst, Nat.le_refl _, by simpa using hb, by simp, by simp⟩ ⟨⟨rfl, rfl, rfl, trivial⟩, ⟨rfl, by rw [List.append_nil, ← hsucc]; rfl, by rw [List.append_nil]; rfl, trivial⟩, rfl⟩ fun p hp => ?_
  obtain ⟨u, nw, acc⟩ := p
  obtain ⟨hu, hul, hub, hal, hq⟩ := hp
  simp only at hu hul hub hal hq
  rw [hq]
  clear hq
  have hkl := (sk_suf u).length_le
  have hku := (sk_suf u).trans hu
  repeat (first | refine i_len rfl ?_ | refine i_s rfl ?_ | refine i_lenm rfl rfl rfl ?_ | refine sw ?_ | refine i_s0 rfl ?_ | refine i_gt rfl ?_ | refine i_gf rfl ?_ | refine i_gd rfl ?_ | refine c_t rfl ?_ | refine c_f rfl ?_ | refine jc rfl ?_ | refine ja rfl rfl ?_ | refine jb rfl rfl ?_ | refine jg rfl rfl ?_ | refine jf rfl rfl ?_ | refine jd rfl rfl ?_ | refine je rfl rfl ?_ | refine jh rfl rfl ?_ | refine i_stb rfl ?_ | refine i_alloc rfl ?_ | refine i_box rfl rfl ?_ | refine i_nv rfl ?_)
  refine i_c rfl rfl rfl (ct_blanks t u (ns ++ nw) ht hu _ (rd_eq rfl rfl fun nm h => restr_mem nm h) g) ?_
  rintro _ _ g ⟨rfl, rfl, rfl⟩
  by_cases h41 : (sk u).head? = some 41
  · obtain ⟨r, hr⟩ : ∃ r, sk u = 41 :: r := by
      cases h : sk u with
      | nil => rw [h] at h41; cases h41
      | cons c r => rw [h] at h41; cases h41; exact ⟨r, rfl⟩
    rw [prs_close hr]
    rw [hr] at hkl hku ⊢
    have hg := suf_get hku rfl
    have hkul := hku.length_le
    have hlt : ((t.length : Int) - (41 :: r).length) < t.length := by simp only [List.length_cons]; omega
    have h0 : 0 ≤ ((t.length : Int) - (41 :: r).length) := by omega
    have hsc := at_succ (t := t) (r := r) 41
    clear hN
    repeat' (first | refine i_len rfl ?_ | refine i_s rfl ?_ | refine i_lenm rfl rfl rfl ?_ | refine sw ?_ | refine i_s0 rfl ?_ | refine i_gt rfl ?_ | refine i_gf rfl ?_ | refine i_gd rfl ?_ | refine c_t rfl ?_ | refine c_f rfl ?_ | refine jc rfl ?_ | refine ja rfl rfl ?_ | refine jb rfl rfl ?_ | refine jg rfl rfl ?_ | refine jf rfl rfl ?_ | refine jd rfl rfl ?_ | refine je rfl rfl ?_ | refine jh rfl rfl ?_ | refine i_stb rfl ?_ | refine i_alloc rfl ?_ | refine i_box rfl rfl ?_ | refine i_nv rfl ?_ | (refine sp ?_ ?_ <;> try intro h) | refine i_ix rfl rfl h0 hg ?_)
    all_goals first
      | (exfalso; have := of_decide_eq_false h; omega)
      | skip
    refine c_frzv rfl rfl ?_
    repeat (first | refine i_len rfl ?_ | refine i_s rfl ?_ | refine i_lenm rfl rfl rfl ?_ | refine sw ?_ | refine i_s0 rfl ?_ | refine i_gt rfl ?_ | refine i_gf rfl ?_ | refine i_gd rfl ?_ | refine c_t rfl ?_ | refine c_f rfl ?_ | refine jc rfl ?_ | refine ja rfl rfl ?_ | refine jb rfl rfl ?_ | refine jg rfl rfl ?_ | refine jf rfl rfl ?_ | refine jd rfl rfl ?_ | refine je rfl rfl ?_ | refine jh rfl rfl ?_ | refine i_stb rfl ?_ | refine i_alloc rfl ?_ | refine i_box rfl rfl ?_ | refine i_nv rfl ?_)
    refine e_ret ⟨rfl, _, rfl, rfl, rfl, rfl, ?_, rfl⟩
    refine rd_eq ?_ ?_ fun nm h => restr_mem nm h
    · rw [← hsc, List.append_nil]; rfl
    · rw [List.append_nil]; rfl
  · have hq1 := hN (d + 1) (sk u) (ns ++ nw) (by omega) hku (by simp only [List.length_append]; omega) (by omega)
    rw [List.length_append] at hq1
    have hfa := prs_facts f true (d + 1) (sk u) (ns.length + nw.length) []
    have hb1 := @prs_bad f d (ns.length + nw.length) u acc h41
    have hb2 := @prs_next f d (ns.length + nw.length) u acc h41
    generalize hqq : prs f true (d + 1) (sk u) (ns.length + nw.length) [] = q at *
    obtain ⟨f1, f2, f3, f4⟩ := hfa
    have hkul := hku.length_le
    have h0 : 0 ≤ ((t.length : Int) - (sk u).length) := by omega
    rw [show ((d + 1 : Nat) : Int) = ((d : Nat) : Int) + 1 from by omega] at hq1
    refine i_nil ?_
    refine e_seq ?_
    refine c_cut [(0, rdN), (1, .int .i64 d), (6, .sl (.own 1344385) (acc.map i64V))] ((1344385, .vec acc.length) :: rdSx t (sk u) (ns ++ nw)) ft ?_
    generalize hsu : sk u = v at *
    rcases v with _ | ⟨c, r⟩
    · repeat' (first | refine i_len rfl ?_ | refine i_s rfl ?_ | refine i_lenm rfl rfl rfl ?_ | refine sw ?_ | refine i_s0 rfl ?_ | refine i_gt rfl ?_ | refine i_gf rfl ?_ | refine i_gd rfl ?_ | refine c_t rfl ?_ | refine c_f rfl ?_ | refine jc rfl ?_ | refine ja rfl rfl ?_ | refine jb rfl rfl ?_ | refine jg rfl rfl ?_ | refine jf rfl rfl ?_ | refine jd rfl rfl ?_ | refine je rfl rfl ?_ | refine jh rfl rfl ?_ | refine i_stb rfl ?_ | refine i_alloc rfl ?_ | refine i_box rfl rfl ?_ | refine i_nv rfl ?_ | (refine sp ?_ ?_ <;> try intro h) | fail)
      all_goals first
        | (exfalso; have := of_decide_eq_true h; simp at this; done)
        | skip
      refine i_c rfl rfl rfl (hq1 _ (rd_eq rfl rfl fun nm h => restr_mem nm h) g) ?_
      rintro _ _ g ⟨rfl, rfl, rfl⟩
      by_cases hz : q.code = 0
      · have f5 := f4 hz
        have hb3 := hb2 hz (by omega)
        rw [hb3]
        clear hb1 hb2 hb3 hN
        unfold ndR
        rw [if_pos hz, hz]
        repeat (first | refine i_len rfl ?_ | refine i_s rfl ?_ | refine i_lenm rfl rfl rfl ?_ | refine sw ?_ | refine i_s0 rfl ?_ | refine i_gt rfl ?_ | refine i_gf rfl ?_ | refine i_gd rfl ?_ | refine c_t rfl ?_ | refine c_f rfl ?_ | refine jc rfl ?_ | refine ja rfl rfl ?_ | refine jb rfl rfl ?_ | refine jg rfl rfl ?_ | refine jf rfl rfl ?_ | refine jd rfl rfl ?_ | refine je rfl rfl ?_ | refine jh rfl rfl ?_ | refine i_stb rfl ?_ | refine i_alloc rfl ?_ | refine i_box rfl rfl ?_ | refine i_nv rfl ?_)
        refine i_appM rfl rfl rfl rfl rfl (by omega) (by omega) ?_
        repeat (first | refine i_len rfl ?_ | refine i_s rfl ?_ | refine i_lenm rfl rfl rfl ?_ | refine sw ?_ | refine i_s0 rfl ?_ | refine i_gt rfl ?_ | refine i_gf rfl ?_ | refine i_gd rfl ?_ | refine c_t rfl ?_ | refine c_f rfl ?_ | refine jc rfl ?_ | refine ja rfl rfl ?_ | refine jb rfl rfl ?_ | refine jg rfl rfl ?_ | refine jf rfl rfl ?_ | refine jd rfl rfl ?_ | refine je rfl rfl ?_ | refine jh rfl rfl ?_ | refine i_stb rfl ?_ | refine i_alloc rfl ?_ | refine i_box rfl rfl ?_ | refine i_nv rfl ?_)
        refine e_lp (q.rest, nw ++ q.new, acc ++ [((ns.length + nw.length + q.new.length : Nat) : Int) - 1]) ⟨f1.trans hku, by simp only; omega, by simp only [List.length_append]; omega, by simp only [List.length_append, List.length_singleton]; omega, ?_⟩ (by simp only; omega) ⟨⟨rfl, rfl, rfl, trivial⟩, ⟨?_, ?_, ?_, trivial⟩, rfl⟩
        · simp only [List.length_append, ← Nat.add_assoc, List.append_assoc]
        · simp only [List.length_append, List.length_singleton]; rfl
        · rw [← List.append_assoc]; rfl
        · rw [← List.append_assoc]; rfl
      · rw [hb1 hz]
        clear hb1 hb2 hN
        unfold ndR
        rw [if_neg hz]
        repeat' (first | refine i_len rfl ?_ | refine i_s rfl ?_ | refine i_lenm rfl rfl rfl ?_ | refine sw ?_ | refine i_s0 rfl ?_ | refine i_gt rfl ?_ | refine i_gf rfl ?_ | refine i_gd rfl ?_ | refine c_t rfl ?_ | refine c_f rfl ?_ | refine jc rfl ?_ | refine ja rfl rfl ?_ | refine jb rfl rfl ?_ | refine jg rfl rfl ?_ | refine jf rfl rfl ?_ | refine jd rfl rfl ?_ | refine je rfl rfl ?_ | refine jh rfl rfl ?_ | refine i_stb rfl ?_ | refine i_alloc rfl ?_ | refine i_box rfl rfl ?_ | refine i_nv rfl ?_ | (refine sp ?_ ?_ <;> try intro h) | fail)
        all_goals first
          | (exfalso; exact hz (by simpa using h))
          | skip
        refine e_ret ⟨rfl, _, rfl, rfl, rfl, ?_, ?_, rfl⟩
        · unfold lsR; rw [if_neg hz]; rfl
        · rw [← List.append_assoc]
          exact rd_eq rfl rfl fun nm h => restr_mem nm h
    · have hc41 : ¬ ((c.toNat : Int) = 41) := fun e => h41 (by
        have : c = 41 := UInt8.toNat_inj.1 (by have : c.toNat = 41 := by omega
                                               rw [this]; rfl)
        rw [this]; rfl)
      have hg := suf_get hku rfl
      repeat' (first | refine i_len rfl ?_ | refine i_s rfl ?_ | refine i_lenm rfl rfl rfl ?_ | refine sw ?_ | refine i_s0 rfl ?_ | refine i_gt rfl ?_ | refine i_gf rfl ?_ | refine i_gd rfl ?_ | refine c_t rfl ?_ | refine c_f rfl ?_ | refine jc rfl ?_ | refine ja rfl rfl ?_ | refine jb rfl rfl ?_ | refine jg rfl rfl ?_ | refine jf rfl rfl ?_ | refine jd rfl rfl ?_ | refine je rfl rfl ?_ | refine jh rfl rfl ?_ | refine i_stb rfl ?_ | refine i_alloc rfl ?_ | refine i_box rfl rfl ?_ | refine i_nv rfl ?_ | (refine sp ?_ ?_ <;> try intro h) | refine i_ix rfl rfl h0 hg ?_)
      all_goals first
        | (exfalso; exact hc41 (by simpa using h))
        | (exfalso; have := of_decide_eq_false h; simp only [List.length_cons] at this hkul; omega)
        | skip
      refine i_c rfl rfl rfl (hq1 _ (rd_eq rfl rfl fun nm h => restr_mem nm h) g) ?_
      rintro _ _ g ⟨rfl, rfl, rfl⟩
      by_cases hz : q.code = 0
      · have f5 := f4 hz
        have hb3 := hb2 hz (by omega)
        rw [hb3]
        clear hb1 hb2 hb3 hN
        unfold ndR
        rw [if_pos hz, hz]
        repeat (first | refine i_len rfl ?_ | refine i_s rfl ?_ | refine i_lenm rfl rfl rfl ?_ | refine sw ?_ | refine i_s0 rfl ?_ | refine i_gt rfl ?_ | refine i_gf rfl ?_ | refine i_gd rfl ?_ | refine c_t rfl ?_ | refine c_f rfl ?_ | refine jc rfl ?_ | refine ja rfl rfl ?_ | refine jb rfl rfl ?_ | refine jg rfl rfl ?_ | refine jf rfl rfl ?_ | refine jd rfl rfl ?_ | refine je rfl rfl ?_ | refine jh rfl rfl ?_ | refine i_stb rfl ?_ | refine i_alloc rfl ?_ | refine i_box rfl rfl ?_ | refine i_nv rfl ?_)
        refine i_appM rfl rfl rfl rfl rfl (by omega) (by omega) ?_
        repeat (first | refine i_len rfl ?_ | refine i_s rfl ?_ | refine i_lenm rfl rfl rfl ?_ | refine sw ?_ | refine i_s0 rfl ?_ | refine i_gt rfl ?_ | refine i_gf rfl ?_ | refine i_gd rfl ?_ | refine c_t rfl ?_ | refine c_f rfl ?_ | refine jc rfl ?_ | refine ja rfl rfl ?_ | refine jb rfl rfl ?_ | refine jg rfl rfl ?_ | refine jf rfl rfl ?_ | refine jd rfl rfl ?_ | refine je rfl rfl ?_ | refine jh rfl rfl ?_ | refine i_stb rfl ?_ | refine i_alloc rfl ?_ | refine i_box rfl rfl ?_ | refine i_nv rfl ?_)
        refine e_lp (q.rest, nw ++ q.new, acc ++ [((ns.length + nw.length + q.new.length : Nat) : Int) - 1]) ⟨f1.trans hku, by simp only; omega, by simp only [List.length_append]; omega, by simp only [List.length_append, List.length_singleton]; omega, ?_⟩ (by simp only; omega) ⟨⟨rfl, rfl, rfl, trivial⟩, ⟨?_, ?_, ?_, trivial⟩, rfl⟩
        · simp only [List.length_append, ← Nat.add_assoc, List.append_assoc]
        · simp only [List.length_append, List.length_singleton]; rfl
        · rw [← List.append_assoc]; rfl
        · rw [← List.append_assoc]; rfl
      · rw [hb1 hz]
        clear hb1 hb2 hN
        unfold ndR
        rw [if_neg hz]
        repeat' (first | refine i_len rfl ?_ | refine i_s rfl ?_ | refine i_lenm rfl rfl rfl ?_ | refine sw ?_ | refine i_s0 rfl ?_ | refine i_gt rfl ?_ | refine i_gf rfl ?_ | refine i_gd rfl ?_ | refine c_t rfl ?_ | refine c_f rfl ?_ | refine jc rfl ?_ | refine ja rfl rfl ?_ | refine jb rfl rfl ?_ | refine jg rfl rfl ?_ | refine jf rfl rfl ?_ | refine jd rfl rfl ?_ | refine je rfl rfl ?_ | refine jh rfl rfl ?_ | refine i_stb rfl ?_ | refine i_alloc rfl ?_ | refine i_box rfl rfl ?_ | refine i_nv rfl ?_ | (refine sp ?_ ?_ <;> try intro h) | fail)
        all_goals first
          | (exfalso; exact hz (by simpa using h))
          | skip
        refine e_ret ⟨rfl, _, rfl, rfl, rfl, ?_, ?_, rfl⟩
        · unfold lsR; rw [if_neg hz]; rfl
        · rw [← List.append_assoc]
          exact rd_eq rfl rfl fun nm h => restr_mem nm h
section
variable {f d b : Nat} {s r : List UInt8} {c : UInt8} {acc : List Int}
theorem prs_nil (h : sk s = []) : prs (f + 1) true d s b acc = ⟨[], [], [], 1⟩ := by simp only [prs, h]
theorem prs_syn (h : sk s = c :: r) (h1 : c ≠ 40) (h2 : symB c = false) : prs (f + 1) true d s b acc = ⟨c :: r, [], [], 1⟩ := by simp only [prs, h]; rw [if_pos ⟨h1, h2⟩]
theorem prs_deep (h : sk s = c :: r) (h1 : ¬ (c ≠ 40 ∧ symB c = false)) (h2 : d = 12) : prs (f + 1) true d s b acc = ⟨c :: r, [], [], 10⟩ := by simp only [prs, h]; rw [if_neg h1, if_pos h2]
theorem prs_long (h : sk s = c :: r) (h1 : c ≠ 40) (h3 : symB c = true) (h2 : d ≠ 12) (h4 : ((c :: r).takeWhile symB).length > 12) : prs (f + 1) true d s b acc = ⟨c :: r, [], [], 1⟩ := by
  simp only [prs, h]; rw [if_neg (by simp [h3]), if_neg h2, if_pos h1, if_pos h4]
theorem prs_sym (h : sk s = c :: r) (h1 : c ≠ 40) (h3 : symB c = true) (h2 : d ≠ 12) (h4 : ¬ ((c :: r).takeWhile symB).length > 12) : prs (f + 1) true d s b acc = ⟨(c :: r).dropWhile symB, [⟨(c :: r).takeWhile symB, []⟩], [], 0⟩ := by
  simp only [prs, h]; rw [if_neg (by simp [h3]), if_neg h2, if_pos h1, if_neg h4]
theorem prs_lbad (h : sk s = 40 :: r) (h2 : d ≠ 12) (h4 : (prs f false d r b []).code ≠ 0) : prs (f + 1) true d s b acc = ⟨(prs f false d r b []).rest, (prs f false d r b []).new, [], (prs f false d r b []).code⟩ := by
  simp only [prs, h]; rw [if_neg (by simp), if_neg h2, if_neg (by simp), if_pos h4]
theorem prs_lst (h : sk s = 40 :: r) (h2 : d ≠ 12) (h4 : (prs f false d r b []).code = 0) : prs (f + 1) true d s b acc = ⟨(prs f false d r b []).rest, (prs f false d r b []).new ++ [⟨[], (prs f false d r b []).ch⟩], [], 0⟩ := by
  simp only [prs, h]; rw [if_neg (by simp), if_neg h2, if_neg (by simp), if_neg (by simp [h4])]
end
def c_sexpr_reader_node : Cmd :=
 (qS [qc 4 0, qc 5 0]
 (qS [qm 10 0, qq 11 (.call (.s [320259, 322690]) (.c (.fn 12 [])) [.t 10])]
 (qT (.block 0 (qS [qm 13 0, qq 14 (.nilck (.t 13)), qf 15 1 14, ql 16 1 15, qm 17 0, qq 18 (.nilck (.t 17)), qf 19 0 18, ql 20 1 19, qq 21 (.len true (.t 20)), qu 22 .eql [.i] 16 21, qm 23 22, qg 24 23 false (.mov (.t 0)), qg 25 23 false (.nilck (.t 24)), qg 26 23 false (.faddr 0 (.t 25)), qg 27 23 false (.load false 1 (.t 26)), qg 28 23 false (.mov (.t 0)), qg 29 23 false (.nilck (.t 28)), qg 30 23 false (.faddr 1 (.t 29)), qg 31 23 false (.load false 1 (.t 30)), qg 32 23 false (.index (.t 27) (.t 31)), qg 33 23 false (.bin .neq false [.i] (.t 32) (.c (.int .u8 40))), qg 34 23 false (.mov (.t 33)), qg 35 34 true (.mov (.t 0)), qg 36 34 true (.nilck (.t 35)), qg 37 34 true (.faddr 0 (.t 36)), qg 38 34 true (.load false 1 (.t 37)), qg 39 34 true (.mov (.t 0)), qg 40 34 true (.nilck (.t 39)), qg 41 34 true (.faddr 1 (.t 40)), qg 42 34 true (.load false 1 (.t 41)), qg 43 34 true (.index (.t 38) (.t 42)), qg 44 34 true (.call .f (.c (.fn 20 [])) [.t 43]), qg 45 34 true (.not (.t 44)), qg 46 23 false (.pick (.t 34) (.t 45) (.c (.bool false))), qq 47 (.pick (.t 23) (.c (.bool true)) (.t 46)), qm 12 47]
 (.cond (.t 12) (.seq (.ops [qc 4 0, qc 5 1]) .ret) (qS [qm 49 1, qv 50 .eql [.i] 49 12, qm 48 50]
 (.cond (.t 48) (.seq (.ops [qc 4 0, qc 5 10]) .ret) .skip)))))
 (qS [qq 6 (.alloc 704386 (.agg [.str [], .sl .p []]))]
 (qS [qm 51 0, qq 52 (.nilck (.t 51)), qf 53 1 52, ql 54 1 53, qm 7 54]
 (qT (qS [qm 55 0, qq 56 (.nilck (.t 55)), qf 57 0 56, ql 58 1 57, qm 59 0, qq 60 (.nilck (.t 59)), qf 61 1 60, ql 62 1 61, qq 63 (.index (.t 58) (.t 62)), qq 64 (.bin .neq false [.i] (.t 63) (.c (.int .u8 40)))]
 (.cond (.t 64) (qT (.block 1 (.loop (qT (qS [qm 65 0, qq 66 (.nilck (.t 65)), qf 67 1 66, ql 68 1 67, qm 69 0, qq 70 (.nilck (.t 69)), qf 71 0 70, ql 72 1 71, qq 73 (.len true (.t 72)), qu 74 .lss [] 68 73, qm 75 74, qg 76 75 true (.mov (.t 0)), qg 77 75 true (.nilck (.t 76)), qg 78 75 true (.faddr 0 (.t 77)), qg 79 75 true (.load false 1 (.t 78)), qg 80 75 true (.mov (.t 0)), qg 81 75 true (.nilck (.t 80)), qg 82 75 true (.faddr 1 (.t 81)), qg 83 75 true (.load false 1 (.t 82)), qg 84 75 true (.index (.t 79) (.t 83)), qg 85 75 true (.call .f (.c (.fn 20 [])) [.t 84]), qq 86 (.pick (.t 75) (.t 85) (.c (.bool false)))]
 (.cond (.t 86) .skip (.exit 1)))
 (.block 2 (.ops [qm 87 0, qq 88 (.nilck (.t 87)), qf 89 1 88, ql 90 1 89, qv 91 .add [] 90 1, qq 92 (.nilck (.t 87)), qf 93 1 92, qs 1 93 91])))))
 (qS [qm 94 0, qq 95 (.nilck (.t 94)), qf 96 0 95, ql 97 1 96, qm 98 7, qm 99 0, qq 100 (.nilck (.t 99)), qf 101 1 100, ql 102 1 101, qq 103 (.slice true 1 (.t 97) (some (.t 98)) (some (.t 102))), qf 104 0 6, qs 1 104 103]
 (qS [qf 105 0 6, ql 106 1 105, qq 107 (.len true (.t 106)), qv 108 .gtr [] 107 12]
 (.cond (.t 108) (qS [qm 109 0, qm 110 7, qq 111 (.nilck (.t 109)), qf 112 1 111, qs 1 112 110]
 (.seq (.ops [qc 4 0, qc 5 1]) .ret)) .skip)))) (qS [qm 114 0, qm 115 1, qq 116 (.call (.s [320259, 322690]) (.c (.fn 21 [])) [.t 114, .t 115]), qm 113 116, qq 117 (.extract (.t 113) 0), qq 118 (.extract (.t 113) 1), qm 8 117, qm 9 118]
 (qT (qS [qm 119 9, qv 120 .neq [.i] 119 0]
 (.cond (.t 120) (.seq (.ops [qm 121 9, qc 4 0, qm 5 121]) .ret) .skip))
 (.ops [qm 122 8, qf 123 1 6, qs 1 123 122])))))
 (qS [qm 124 0, qm 125 0, qq 126 (.nilck (.t 125)), qf 127 2 126, ql 128 1 127, qL 129 2 6, qq 130 (.bsl 2 [.t 129]), qq 131 (.append 2 40 34 (.t 128) (.t 130)), qq 132 (.nilck (.t 124)), qf 133 2 132, qs 1 133 131]
 (.seq (.ops [qm 134 0, qq 135 (.nilck (.t 134)), qf 136 2 135, ql 137 1 136, qn 138 137, qv 139 .sub [] 138 1, qm 4 139, qc 5 0]) .ret))))))))
def r_sexpr_reader_node : List RVar := [.tmp 4, .tmp 5]
def n_sexpr_reader_node : Nat := 140
theorem k_sexpr_reader_node : chkFn Go.Proofs.Try.prog 11 n_sexpr_reader_node r_sexpr_reader_node c_sexpr_reader_node = true := by kernel_rfl
theorem ct_node {G : Type} {H : HT G} (t : List UInt8) (ht : t.length ≤ 100000) (f : Nat) (hL : ListC H t f) : NodeC H t (f + 1) := by
  intro d s ns hd hs hb hf σ hσ g
  subst hσ
  have hsl := hs.length_le
  have hkl := (sk_suf s).length_le
  have hku := (sk_suf s).trans hs
  refine CT.step _ mixed k_sexpr_reader_node (fun nm h => stOf_mem (rdSx t s ns) nm h) fun hM => ?_
  repeat (first | refine i_len rfl ?_ | refine i_s rfl ?_ | refine i_lenm rfl rfl rfl ?_ | refine sw ?_ | refine i_s0 rfl ?_ | refine i_gt rfl ?_ | refine i_gf rfl ?_ | refine i_gd rfl ?_ | refine c_t rfl ?_ | refine c_f rfl ?_ | refine jc rfl ?_ | refine ja rfl rfl ?_ | refine jb rfl rfl ?_ | refine jg rfl rfl ?_ | refine jf rfl rfl ?_ | refine jd rfl rfl ?_ | refine je rfl rfl ?_ | refine jh rfl rfl ?_ | refine i_stb rfl ?_ | refine i_alloc rfl ?_ | refine i_box rfl rfl ?_ | refine i_nv rfl ?_)
  refine i_c rfl rfl rfl (ct_blanks t s ns ht hs _ (rd_eq rfl rfl fun nm h => restr_mem nm h) g) ?_
  rintro _ _ g ⟨rfl, rfl, rfl⟩
  refine i_nil ?_
  refine e_seq ?_
  refine c_cut [(0, rdN), (1, .int .i64 d), (4, .int .i64 0), (5, .int .i64 0)] (rdSx t (sk s) ns) ft ?_
  cases hsk : sk s with
  | nil =>
    rw [prs_nil hsk]
    clear hL
    repeat' (first | refine i_len rfl ?_ | refine i_s rfl ?_ | refine i_lenm rfl rfl rfl ?_ | refine sw ?_ | refine i_s0 rfl ?_ | refine i_gt rfl ?_ | refine i_gf rfl ?_ | refine i_gd rfl ?_ | refine c_t rfl ?_ | refine c_f rfl ?_ | refine jc rfl ?_ | refine ja rfl rfl ?_ | refine jb rfl rfl ?_ | refine jg rfl rfl ?_ | refine jf rfl rfl ?_ | refine jd rfl rfl ?_ | refine je rfl rfl ?_ | refine jh rfl rfl ?_ | refine i_stb rfl ?_ | refine i_alloc rfl ?_ | refine i_box rfl rfl ?_ | refine i_nv rfl ?_ | (refine sp ?_ ?_ <;> try intro h) | fail)
    all_goals first
      | (exfalso; simp at h; done)
      | skip
    refine e_ret ⟨rfl, _, rfl, rfl, rfl, rfl, ?_, rfl⟩
    rw [List.append_nil]
    exact rd_eq rfl rfl fun nm h => restr_mem nm h
  | cons c r =>
    rw [hsk] at hkl hku
    have hg := suf_get hku rfl
    have hkul := hku.length_le
    have h0 : 0 ≤ ((t.length : Int) - (c :: r).length) := by omega
    have hne : ¬ ((t.length : Int) - (c :: r).length) = t.length := by simp only [List.length_cons]; omega
    have hF := f_sexpr_isSymbolByte c
    by_cases h40 : c = 40
    · subst h40
      by_cases hd12 : d = 12
      · rw [prs_deep hsk (by simp) hd12]
        subst hd12
        clear hL
        repeat' (first | refine i_len rfl ?_ | refine i_s rfl ?_ | refine i_lenm rfl rfl rfl ?_ | refine sw ?_ | refine i_s0 rfl ?_ | refine i_gt rfl ?_ | refine i_gf rfl ?_ | refine i_gd rfl ?_ | refine c_t rfl ?_ | refine c_f rfl ?_ | refine jc rfl ?_ | refine ja rfl rfl ?_ | refine jb rfl rfl ?_ | refine jg rfl rfl ?_ | refine jf rfl rfl ?_ | refine jd rfl rfl ?_ | refine je rfl rfl ?_ | refine jh rfl rfl ?_ | refine i_stb rfl ?_ | refine i_alloc rfl ?_ | refine i_box rfl rfl ?_ | refine i_nv rfl ?_ | (refine sp ?_ ?_ <;> try intro h) | refine sf rfl rfl hF ?_ | refine i_ix rfl rfl h0 hg ?_)
        all_goals first
          | (exfalso; exact hne (by simpa using h))
          | skip
        refine e_ret ⟨rfl, _, rfl, rfl, rfl, rfl, ?_, rfl⟩
        rw [List.append_nil]
        exact rd_eq rfl rfl fun nm h => restr_mem nm h
      · have hq1 := hL d r ns (by omega) hku (by simp only [List.length_cons] at hkl; omega) (by simp only [List.length_cons] at hkl; omega)
        have hb1 := @prs_lbad f d ns.length s r [] hsk hd12
        have hb2 := @prs_lst f d ns.length s r [] hsk hd12
        have hfa := prs_facts f false d r ns.length []
        generalize hqq : prs f false d r ns.length [] = q at *
        obtain ⟨f1, f2, f3, f4⟩ := hfa
        have hd12' : ¬ (d : Int) = 12 := by omega
        repeat' (first | refine i_len rfl ?_ | refine i_s rfl ?_ | refine i_lenm rfl rfl rfl ?_ | refine sw ?_ | refine i_s0 rfl ?_ | refine i_gt rfl ?_ | refine i_gf rfl ?_ | refine i_gd rfl ?_ | refine c_t rfl ?_ | refine c_f rfl ?_ | refine jc rfl ?_ | refine ja rfl rfl ?_ | refine jb rfl rfl ?_ | refine jg rfl rfl ?_ | refine jf rfl rfl ?_ | refine jd rfl rfl ?_ | refine je rfl rfl ?_ | refine jh rfl rfl ?_ | refine i_stb rfl ?_ | refine i_alloc rfl ?_ | refine i_box rfl rfl ?_ | refine i_nv rfl ?_ | (refine sp ?_ ?_ <;> try intro h) | refine sf rfl rfl hF ?_ | refine i_ix rfl rfl h0 hg ?_)
        all_goals first
          | (exfalso; exact hne (by simpa using h))
          | (exfalso; exact hd12' (by simpa using h))
          | (exfalso; clear hF hg hku hkul hs hq1 hb1 hb2 f1 f2 f3 f4; simp_all; done)
          | skip
        refine i_c rfl rfl rfl (hq1 _ (rd_eq rfl rfl fun nm h => restr_mem nm h) g) ?_
        rintro _ _ g ⟨rfl, rfl, rfl⟩
        simp only [List.length_cons] at hkl
        by_cases hz : q.code = 0
        · rw [hb2 hz]
          clear hb1 hb2 hL hq1
          unfold lsR
          rw [if_pos hz, hz]
          repeat (first | refine i_len rfl ?_ | refine i_s rfl ?_ | refine i_lenm rfl rfl rfl ?_ | refine sw ?_ | refine i_s0 rfl ?_ | refine i_gt rfl ?_ | refine i_gf rfl ?_ | refine i_gd rfl ?_ | refine c_t rfl ?_ | refine c_f rfl ?_ | refine jc rfl ?_ | refine ja rfl rfl ?_ | refine jb rfl rfl ?_ | refine jg rfl rfl ?_ | refine jf rfl rfl ?_ | refine jd rfl rfl ?_ | refine je rfl rfl ?_ | refine jh rfl rfl ?_ | refine i_stb rfl ?_ | refine i_alloc rfl ?_ | refine i_box rfl rfl ?_ | refine i_nv rfl ?_)
          have hlen : (ns ++ q.new ++ [(⟨[], q.ch⟩ : Sx)]).length ≤ 200000 := by simp only [List.length_append, List.length_singleton]; omega
          refine i_appM (c := (⟨[], q.ch⟩ : Sx)) rfl rfl rfl rfl rfl (by simp only [List.length_append]; omega) (by simp only [List.length_append]; omega) ?_
          repeat' (first | refine i_len rfl ?_ | refine i_s rfl ?_ | refine i_lenm rfl rfl rfl ?_ | refine sw ?_ | refine i_s0 rfl ?_ | refine i_gt rfl ?_ | refine i_gf rfl ?_ | refine i_gd rfl ?_ | refine c_t rfl ?_ | refine c_f rfl ?_ | refine jc rfl ?_ | refine ja rfl rfl ?_ | refine jb rfl rfl ?_ | refine jg rfl rfl ?_ | refine jf rfl rfl ?_ | refine jd rfl rfl ?_ | refine je rfl rfl ?_ | refine jh rfl rfl ?_ | refine i_stb rfl ?_ | refine i_alloc rfl ?_ | refine i_box rfl rfl ?_ | refine i_nv rfl ?_ | (refine sp ?_ ?_ <;> try intro h) | fail)
          refine e_ret ⟨rfl, _, rfl, rfl, rfl, ?_, ?_, rfl⟩
          · unfold ndR
            rw [if_pos rfl]
            show V.tup [V.int .i64 (((ns ++ q.new ++ [(⟨[], q.ch⟩ : Sx)]).length : Int) - 1), .int .i64 0] = V.tup [V.int .i64 (((ns.length + (q.new ++ [(⟨[], q.ch⟩ : Sx)]).length : Nat) : Int) - 1), .int .i64 0]
            rw [show (ns ++ q.new ++ [(⟨[], q.ch⟩ : Sx)]).length = ns.length + (q.new ++ [(⟨[], q.ch⟩ : Sx)]).length from by simp only [List.length_append, Nat.add_assoc]]
          · rw [← List.append_assoc]
            refine rd_eq rfl ?_ fun nm h => restr_mem nm h
            simp only [List.length_append, List.length_singleton]
            rfl
        · rw [hb1 hz]
          clear hb1 hb2 hL hq1
          unfold lsR
          rw [if_neg hz]
          repeat' (first | refine i_len rfl ?_ | refine i_s rfl ?_ | refine i_lenm rfl rfl rfl ?_ | refine sw ?_ | refine i_s0 rfl ?_ | refine i_gt rfl ?_ | refine i_gf rfl ?_ | refine i_gd rfl ?_ | refine c_t rfl ?_ | refine c_f rfl ?_ | refine jc rfl ?_ | refine ja rfl rfl ?_ | refine jb rfl rfl ?_ | refine jg rfl rfl ?_ | refine jf rfl rfl ?_ | refine jd rfl rfl ?_ | refine je rfl rfl ?_ | refine jh rfl rfl ?_ | refine i_stb rfl ?_ | refine i_alloc rfl ?_ | refine i_box rfl rfl ?_ | refine i_nv rfl ?_ | (refine sp ?_ ?_ <;> try intro h) | fail)
          all_goals first
            | (exfalso; exact hz (by simpa using h))
            | skip
          refine e_ret ⟨rfl, _, rfl, rfl, rfl, ?_, ?_, rfl⟩
          · unfold ndR; rw [if_neg hz]; rfl
          · exact rd_eq rfl rfl fun nm h => restr_mem nm h
    · have h40' : ¬ ((c.toNat : Int) = 40) := fun e => h40 (by
        have : c = 40 := UInt8.toNat_inj.1 (by have : c.toNat = 40 := by omega
                                               rw [this]; rfl)
        exact this)
      cases hsy : symB c with
      | false =>
        rw [hsy] at hF
        rw [prs_syn hsk h40 hsy]
        clear hL
        repeat' (first | refine i_len rfl ?_ | refine i_s rfl ?_ | refine i_lenm rfl rfl rfl ?_ | refine sw ?_ | refine i_s0 rfl ?_ | refine i_gt rfl ?_ | refine i_gf rfl ?_ | refine i_gd rfl ?_ | refine c_t rfl ?_ | refine c_f rfl ?_ | refine jc rfl ?_ | refine ja rfl rfl ?_ | refine jb rfl rfl ?_ | refine jg rfl rfl ?_ | refine jf rfl rfl ?_ | refine jd rfl rfl ?_ | refine je rfl rfl ?_ | refine jh rfl rfl ?_ | refine i_stb rfl ?_ | refine i_alloc rfl ?_ | refine i_box rfl rfl ?_ | refine i_nv rfl ?_ | (refine sp ?_ ?_ <;> try intro h) | refine sf rfl rfl hF ?_ | refine i_ix rfl rfl h0 hg ?_)
        all_goals first
          | (exfalso; exact hne (by simpa using h))
          | (exfalso; exact h40' (by simpa using h))
          | (exfalso; clear hF hg hku hkul hs; simp_all; done)
          | skip
        refine e_ret ⟨rfl, _, rfl, rfl, rfl, rfl, ?_, rfl⟩
        rw [List.append_nil]
        exact rd_eq rfl rfl fun nm h => restr_mem nm h
      | true =>
        rw [hsy] at hF
        by_cases hd12 : d = 12
        · rw [prs_deep hsk (by simp [hsy]) hd12]
          subst hd12
          clear hL
          repeat' (first | refine i_len rfl ?_ | refine i_s rfl ?_ | refine i_lenm rfl rfl rfl ?_ | refine sw ?_ | refine i_s0 rfl ?_ | refine i_gt rfl ?_ | refine i_gf rfl ?_ | refine i_gd rfl ?_ | refine c_t rfl ?_ | refine c_f rfl ?_ | refine jc rfl ?_ | refine ja rfl rfl ?_ | refine jb rfl rfl ?_ | refine jg rfl rfl ?_ | refine jf rfl rfl ?_ | refine jd rfl rfl ?_ | refine je rfl rfl ?_ | refine jh rfl rfl ?_ | refine i_stb rfl ?_ | refine i_alloc rfl ?_ | refine i_box rfl rfl ?_ | refine i_nv rfl ?_ | (refine sp ?_ ?_ <;> try intro h) | refine sf rfl rfl hF ?_ | refine i_ix rfl rfl h0 hg ?_)
          all_goals first
            | (exfalso; exact hne (by simpa using h))
            | (exfalso; exact h40' (by simpa using h))
            | (exfalso; clear hF hg hku hkul hs; simp_all; done)
            | skip
          refine e_ret ⟨rfl, _, rfl, rfl, rfl, rfl, ?_, rfl⟩
          rw [List.append_nil]
          exact rd_eq rfl rfl fun nm h => restr_mem nm h
        · have hd12' : ¬ (d : Int) = 12 := by omega
          clear hL
          repeat' (first | refine i_len rfl ?_ | refine i_s rfl ?_ | refine i_lenm rfl rfl rfl ?_ | refine sw ?_ | refine i_s0 rfl ?_ | refine i_gt rfl ?_ | refine i_gf rfl ?_ | refine i_gd rfl ?_ | refine c_t rfl ?_ | refine c_f rfl ?_ | refine jc rfl ?_ | refine ja rfl rfl ?_ | refine jb rfl rfl ?_ | refine jg rfl rfl ?_ | refine jf rfl rfl ?_ | refine jd rfl rfl ?_ | refine je rfl rfl ?_ | refine jh rfl rfl ?_ | refine i_stb rfl ?_ | refine i_alloc rfl ?_ | refine i_box rfl rfl ?_ | refine i_nv rfl ?_ | (refine sp ?_ ?_ <;> try intro h) | refine sf rfl rfl hF ?_ | refine i_ix rfl rfl h0 hg ?_)
          all_goals first
            | (exfalso; exact hne (by simpa using h))
            | (exfalso; exact h40' (by simpa using h))
            | (exfalso; exact hd12' (by simpa using h))
            | (exfalso; clear hF hg hku hkul hs; simp_all; done)
            | skip
          have htw := tw_pos (r := r) hsy
          have hcat : (c :: r).takeWhile symB ++ (c :: r).dropWhile symB = c :: r := List.takeWhile_append_dropWhile
          refine c_lp (ι := List UInt8) (fun u => [(0, rdN), (1, .int .i64 d), (6, .bptr 704386 0), (7, .int .i64 ((t.length : Int) - (c :: r).length))])
            (fun u => (704386, .box (.agg [.str [], .sl .p []])) :: rdSx t u ns) (fun u => u <:+ t ∧ u.length ≤ (c :: r).length ∧ u.dropWhile symB = (c :: r).dropWhile symB) (fun u => u.length) (c :: r) ⟨hku, Nat.le_refl _, rfl⟩ ft fun u hu => ?_
          obtain ⟨hu, hul, hud⟩ := hu
          have hutl := hu.length_le
          have hu0 : 0 ≤ ((t.length : Int) - u.length) := by omega
          by_cases hst : ∃ c' r', u = c' :: r' ∧ symB c' = true
          · obtain ⟨c', r', rfl, hs'⟩ := hst
            have hF' := f_sexpr_isSymbolByte c'
            rw [hs'] at hF'
            have hg' := suf_get hu rfl
            have hlt' : ((t.length : Int) - (c' :: r').length) < t.length := by simp only [List.length_cons]; omega
            have hsc := at_succ (t := t) (r := r') c'
            rw [List.dropWhile_cons_of_pos hs'] at hud
            clear hF hg
            repeat' (first | refine i_len rfl ?_ | refine i_s rfl ?_ | refine i_lenm rfl rfl rfl ?_ | refine sw ?_ | refine i_s0 rfl ?_ | refine i_gt rfl ?_ | refine i_gf rfl ?_ | refine i_gd rfl ?_ | refine c_t rfl ?_ | refine c_f rfl ?_ | refine jc rfl ?_ | refine ja rfl rfl ?_ | refine jb rfl rfl ?_ | refine jg rfl rfl ?_ | refine jf rfl rfl ?_ | refine jd rfl rfl ?_ | refine je rfl rfl ?_ | refine jh rfl rfl ?_ | refine i_stb rfl ?_ | refine i_alloc rfl ?_ | refine i_box rfl rfl ?_ | refine i_nv rfl ?_ | (refine sp ?_ ?_ <;> try intro h) | refine sf rfl rfl hF' ?_ | refine i_ix rfl rfl hu0 hg' ?_)
            all_goals first
              | (exfalso; have := of_decide_eq_false h; omega)
              | skip
            simp only [List.length_cons] at hul
            refine e_lp r' ⟨(List.suffix_cons c' r').trans hu, by simp only [List.length_cons]; omega, hud⟩ (by simp) ⟨⟨rfl, rfl, rfl, rfl, trivial⟩, ⟨rfl, ?_, rfl, trivial⟩, rfl⟩
            rw [← hsc]; rfl
          · have hue : u = (c :: r).dropWhile symB := by
              rw [← hud]
              cases u with
              | nil => rfl
              | cons c' r' =>
                have : symB c' = false := by
                  cases h : symB c' with
                  | true => exact absurd ⟨c', r', rfl, h⟩ hst
                  | false => rfl
                rw [List.dropWhile_cons_of_neg (by simp [this])]
            have hsli := slice_suf (t := t) (w := (c :: r).takeWhile symB) (u := (c :: r).dropWhile symB) (by rw [hcat]; exact hku)
            rw [hcat, ← hue] at hsli
            have hle : ((t.length : Int) - (c :: r).length) ≤ (t.length : Int) - u.length := by omega
            have hlong := @prs_long f d ns.length s r c [] hsk h40 hsy hd12
            have hsym := @prs_sym f d ns.length s r c [] hsk h40 hsy hd12
            rw [← hue] at hsym
            have hkl2 := hkl
            simp only [List.length_cons] at hkl2
            clear hue
            have hnx : ∀ c' r', u = c' :: r' → symB c' = false := fun c' r' e => by
              cases h : symB c' with
              | true => exact absurd ⟨c', r', e, h⟩ hst
              | false => rfl
            generalize (c :: r).takeWhile symB = w at *
            clear hst hF hg
            rcases u with _ | ⟨c', r'⟩
            · repeat' (first | refine i_len rfl ?_ | refine i_s rfl ?_ | refine i_lenm rfl rfl rfl ?_ | refine sw ?_ | refine i_s0 rfl ?_ | refine i_gt rfl ?_ | refine i_gf rfl ?_ | refine i_gd rfl ?_ | refine c_t rfl ?_ | refine c_f rfl ?_ | refine jc rfl ?_ | refine ja rfl rfl ?_ | refine jb rfl rfl ?_ | refine jg rfl rfl ?_ | refine jf rfl rfl ?_ | refine jd rfl rfl ?_ | refine je rfl rfl ?_ | refine jh rfl rfl ?_ | refine i_stb rfl ?_ | refine i_alloc rfl ?_ | refine i_box rfl rfl ?_ | refine i_nv rfl ?_ | (refine sp ?_ ?_ <;> try intro h) | fail)
              all_goals first
                | (exfalso; have := of_decide_eq_true h; simp at this; done)
                | skip
              refine i_ssh rfl rfl rfl h0 hle (by simp only [List.length_cons, List.length_nil]; omega) ?_
              rw [hsli]
              repeat (first | refine i_len rfl ?_ | refine i_s rfl ?_ | refine i_lenm rfl rfl rfl ?_ | refine sw ?_ | refine i_s0 rfl ?_ | refine i_gt rfl ?_ | refine i_gf rfl ?_ | refine i_gd rfl ?_ | refine c_t rfl ?_ | refine c_f rfl ?_ | refine jc rfl ?_ | refine ja rfl rfl ?_ | refine jb rfl rfl ?_ | refine jg rfl rfl ?_ | refine jf rfl rfl ?_ | refine jd rfl rfl ?_ | refine je rfl rfl ?_ | refine jh rfl rfl ?_ | refine i_stb rfl ?_ | refine i_alloc rfl ?_ | refine i_box rfl rfl ?_ | refine i_nv rfl ?_)
              refine c_cond rfl (fun h => ?_) (fun h => ?_)
              · have hw12 : w.length > 12 := by have := of_decide_eq_true h; omega
                rw [hlong hw12]
                clear hlong hsym
                repeat' (first | refine i_len rfl ?_ | refine i_s rfl ?_ | refine i_lenm rfl rfl rfl ?_ | refine sw ?_ | refine i_s0 rfl ?_ | refine i_gt rfl ?_ | refine i_gf rfl ?_ | refine i_gd rfl ?_ | refine c_t rfl ?_ | refine c_f rfl ?_ | refine jc rfl ?_ | refine ja rfl rfl ?_ | refine jb rfl rfl ?_ | refine jg rfl rfl ?_ | refine jf rfl rfl ?_ | refine jd rfl rfl ?_ | refine je rfl rfl ?_ | refine jh rfl rfl ?_ | refine i_stb rfl ?_ | refine i_alloc rfl ?_ | refine i_box rfl rfl ?_ | refine i_nv rfl ?_ | (refine sp ?_ ?_ <;> try intro h) | fail)
                refine e_ret ⟨rfl, _, rfl, rfl, rfl, rfl, ?_, rfl⟩
                rw [List.append_nil]
                exact rd_eq rfl rfl fun nm h => restr_mem nm h
              · have hw12 : ¬ w.length > 12 := by have := of_decide_eq_false h; omega
                rw [hsym hw12]
                clear hlong hsym
                have hlen : (ns ++ [(⟨w, []⟩ : Sx)]).length ≤ 200000 := by simp only [List.length_append, List.length_singleton]; omega
                repeat (first | refine i_len rfl ?_ | refine i_s rfl ?_ | refine i_lenm rfl rfl rfl ?_ | refine sw ?_ | refine i_s0 rfl ?_ | refine i_gt rfl ?_ | refine i_gf rfl ?_ | refine i_gd rfl ?_ | refine c_t rfl ?_ | refine c_f rfl ?_ | refine jc rfl ?_ | refine ja rfl rfl ?_ | refine jb rfl rfl ?_ | refine jg rfl rfl ?_ | refine jf rfl rfl ?_ | refine jd rfl rfl ?_ | refine je rfl rfl ?_ | refine jh rfl rfl ?_ | refine i_stb rfl ?_ | refine i_alloc rfl ?_ | refine i_box rfl rfl ?_ | refine i_nv rfl ?_)
                refine i_appM (c := (⟨w, []⟩ : Sx)) rfl rfl rfl rfl rfl (by omega) (by omega) ?_
                repeat' (first | refine i_len rfl ?_ | refine i_s rfl ?_ | refine i_lenm rfl rfl rfl ?_ | refine sw ?_ | refine i_s0 rfl ?_ | refine i_gt rfl ?_ | refine i_gf rfl ?_ | refine i_gd rfl ?_ | refine c_t rfl ?_ | refine c_f rfl ?_ | refine jc rfl ?_ | refine ja rfl rfl ?_ | refine jb rfl rfl ?_ | refine jg rfl rfl ?_ | refine jf rfl rfl ?_ | refine jd rfl rfl ?_ | refine je rfl rfl ?_ | refine jh rfl rfl ?_ | refine i_stb rfl ?_ | refine i_alloc rfl ?_ | refine i_box rfl rfl ?_ | refine i_nv rfl ?_ | (refine sp ?_ ?_ <;> try intro h) | fail)
                refine e_ret ⟨rfl, _, rfl, rfl, rfl, ?_, ?_, rfl⟩
                · unfold ndR
                  rw [if_pos rfl]
                  show V.tup [V.int .i64 (((ns ++ [(⟨w, []⟩ : Sx)]).length : Int) - 1), .int .i64 0] = V.tup [V.int .i64 (((ns.length + [(⟨w, []⟩ : Sx)].length : Nat) : Int) - 1), .int .i64 0]
                  rw [List.length_append]
                · refine rd_eq rfl ?_ fun nm h => restr_mem nm h
                  simp only [List.length_append, List.length_singleton]
                  rfl
            · have hF' := f_sexpr_isSymbolByte c'
              rw [hnx c' r' rfl] at hF'
              have hg' := suf_get hu rfl
              have hlt' : ((t.length : Int) - (c' :: r').length) < t.length := by simp only [List.length_cons]; omega
              repeat' (first | refine i_len rfl ?_ | refine i_s rfl ?_ | refine i_lenm rfl rfl rfl ?_ | refine sw ?_ | refine i_s0 rfl ?_ | refine i_gt rfl ?_ | refine i_gf rfl ?_ | refine i_gd rfl ?_ | refine c_t rfl ?_ | refine c_f rfl ?_ | refine jc rfl ?_ | refine ja rfl rfl ?_ | refine jb rfl rfl ?_ | refine jg rfl rfl ?_ | refine jf rfl rfl ?_ | refine jd rfl rfl ?_ | refine je rfl rfl ?_ | refine jh rfl rfl ?_ | refine i_stb rfl ?_ | refine i_alloc rfl ?_ | refine i_box rfl rfl ?_ | refine i_nv rfl ?_ | (refine sp ?_ ?_ <;> try intro h) | refine sf rfl rfl hF' ?_ | refine i_ix rfl rfl hu0 hg' ?_)
              all_goals first
                | (exfalso; have := of_decide_eq_false h; omega)
                | skip
              refine i_ssh rfl rfl rfl h0 hle (by simp only [List.length_cons, List.length_nil]; omega) ?_
              rw [hsli]
              repeat (first | refine i_len rfl ?_ | refine i_s rfl ?_ | refine i_lenm rfl rfl rfl ?_ | refine sw ?_ | refine i_s0 rfl ?_ | refine i_gt rfl ?_ | refine i_gf rfl ?_ | refine i_gd rfl ?_ | refine c_t rfl ?_ | refine c_f rfl ?_ | refine jc rfl ?_ | refine ja rfl rfl ?_ | refine jb rfl rfl ?_ | refine jg rfl rfl ?_ | refine jf rfl rfl ?_ | refine jd rfl rfl ?_ | refine je rfl rfl ?_ | refine jh rfl rfl ?_ | refine i_stb rfl ?_ | refine i_alloc rfl ?_ | refine i_box rfl rfl ?_ | refine i_nv rfl ?_)
              refine c_cond rfl (fun h => ?_) (fun h => ?_)
              · have hw12 : w.length > 12 := by have := of_decide_eq_true h; omega
                rw [hlong hw12]
                clear hlong hsym
                repeat' (first | refine i_len rfl ?_ | refine i_s rfl ?_ | refine i_lenm rfl rfl rfl ?_ | refine sw ?_ | refine i_s0 rfl ?_ | refine i_gt rfl ?_ | refine i_gf rfl ?_ | refine i_gd rfl ?_ | refine c_t rfl ?_ | refine c_f rfl ?_ | refine jc rfl ?_ | refine ja rfl rfl ?_ | refine jb rfl rfl ?_ | refine jg rfl rfl ?_ | refine jf rfl rfl ?_ | refine jd rfl rfl ?_ | refine je rfl rfl ?_ | refine jh rfl rfl ?_ | refine i_stb rfl ?_ | refine i_alloc rfl ?_ | refine i_box rfl rfl ?_ | refine i_nv rfl ?_ | (refine sp ?_ ?_ <;> try intro h) | fail)
                refine e_ret ⟨rfl, _, rfl, rfl, rfl, rfl, ?_, rfl⟩
                rw [List.append_nil]
                exact rd_eq rfl rfl fun nm h => restr_mem nm h
              · have hw12 : ¬ w.length > 12 := by have := of_decide_eq_false h; omega
                rw [hsym hw12]
                clear hlong hsym
                have hlen : (ns ++ [(⟨w, []⟩ : Sx)]).length ≤ 200000 := by simp only [List.length_append, List.length_singleton]; omega
                repeat (first | refine i_len rfl ?_ | refine i_s rfl ?_ | refine i_lenm rfl rfl rfl ?_ | refine sw ?_ | refine i_s0 rfl ?_ | refine i_gt rfl ?_ | refine i_gf rfl ?_ | refine i_gd rfl ?_ | refine c_t rfl ?_ | refine c_f rfl ?_ | refine jc rfl ?_ | refine ja rfl rfl ?_ | refine jb rfl rfl ?_ | refine jg rfl rfl ?_ | refine jf rfl rfl ?_ | refine jd rfl rfl ?_ | refine je rfl rfl ?_ | refine jh rfl rfl ?_ | refine i_stb rfl ?_ | refine i_alloc rfl ?_ | refine i_box rfl rfl ?_ | refine i_nv rfl ?_)
                refine i_appM (c := (⟨w, []⟩ : Sx)) rfl rfl rfl rfl rfl (by omega) (by omega) ?_
                repeat' (first | refine i_len rfl ?_ | refine i_s rfl ?_ | refine i_lenm rfl rfl rfl ?_ | refine sw ?_ | refine i_s0 rfl ?_ | refine i_gt rfl ?_ | refine i_gf rfl ?_ | refine i_gd rfl ?_ | refine c_t rfl ?_ | refine c_f rfl ?_ | refine jc rfl ?_ | refine ja rfl rfl ?_ | refine jb rfl rfl ?_ | refine jg rfl rfl ?_ | refine jf rfl rfl ?_ | refine jd rfl rfl ?_ | refine je rfl rfl ?_ | refine jh rfl rfl ?_ | refine i_stb rfl ?_ | refine i_alloc rfl ?_ | refine i_box rfl rfl ?_ | refine i_nv rfl ?_ | (refine sp ?_ ?_ <;> try intro h) | fail)
                refine e_ret ⟨rfl, _, rfl, rfl, rfl, ?_, ?_, rfl⟩
                · unfold ndR
                  rw [if_pos rfl]
                  show V.tup [V.int .i64 (((ns ++ [(⟨w, []⟩ : Sx)]).length : Int) - 1), .int .i64 0] = V.tup [V.int .i64 (((ns.length + [(⟨w, []⟩ : Sx)].length : Nat) : Int) - 1), .int .i64 0]
                  rw [List.length_append]
                · refine rd_eq rfl ?_ fun nm h => restr_mem nm h
                  simp only [List.length_append, List.length_singleton]
                  rfl
theorem ct_all {G : Type} {H : HT G} (t : List UInt8) (ht : t.length ≤ 100000) : ∀ f : Nat, NodeC H t f ∧ ListC H t f
  | 0 => ⟨fun d s ns hd hs hb hf => by omega, fun d s ns hd hs hb hf => by omega⟩
  | f + 1 => ⟨ct_node t ht f (ct_all t ht f).2, ct_list t ht f (ct_all t ht f).1⟩
def rdQ (t : List UInt8) : PR := prs (2 * t.length + 1) true 0 t 0 []
def readF (t : List UInt8) : Flt := if t.length > 4096 then ⟨2, -1⟩ else if (rdQ t).code ≠ 0 then ⟨(rdQ t).code, (t.length : Int) - (rdQ t).rest.length⟩ else if sk (rdQ t).rest ≠ [] then ⟨1, (t.length : Int) - (sk (rdQ t).rest).length⟩
  else if (rdQ t).new.length > 300 then ⟨10, -1⟩ else okF
def readL (t : List UInt8) : List Sx := if readF t = okF then (rdQ t).new else []
theorem read_ok {t : List UInt8} (h : readF t = okF) : t.length ≤ 4096 ∧ (rdQ t).code = 0 ∧ sk (rdQ t).rest = [] ∧ (rdQ t).new.length ≤ 300 := by
  unfold readF at h
  split at h
  · cases h
  · split at h
    · rename_i h2
      injection h with h3 _
      exact absurd h3 h2
    · split at h
      · cases h
      · split at h
        · cases h
        · rename_i h1 h2 h3 h4
          exact ⟨by omega, by simpa using h2, by simpa using h3, by omega⟩
def c_sexpr_Read : Cmd :=
 (qS [qq 2 (.mov (.c (.sl .nil []))), qq 3 (.alloc 320194 (.agg [.int .i64 0, .int .i64 0]))]
 (qT (qS [qm 7 0, qq 8 (.len true (.t 7)), qv 9 .gtr [] 8 4096]
 (.cond (.t 9) (.seq (.ops [qq 10 (.build [.int .i64 0, .int .i64 0] [(0 , 1 , .c (.int .i64 2)), (1 , 1 , .c (.int .i64 (-1)))]), qq 2 (.mov (.c (.sl .nil []))), qs 2 3 10]) .ret) .skip))
 (.seq (.ops [qm 11 0, qq 12 (.build [.str [], .int .i64 0, .sl .nil []] [(0 , 1 , .t 11)]), qq 4 (.alloc 320259 (.agg [.str [], .int .i64 0, .sl .nil []])), qs 3 4 12]) (.nvb 4 2 322690 (.cut (qS [qq 14 (.call (.s [320259, 322690]) (.c (.fn 11 [])) [.t 4, .c (.int .i64 0)]), qm 13 14, qq 15 (.extract (.t 13) 0), qq 16 (.extract (.t 13) 1), qm 5 15, qm 6 16]
 (qT (qS [qm 17 6, qv 18 .eql [.i] 17 0]
 (.cond (.t 18) (qS [qq 19 (.call (.s [320259, 322690]) (.c (.fn 12 [])) [.t 4])]
 (qS [qf 20 1 4, ql 21 1 20, qm 22 0, qq 23 (.len true (.t 22)), qu 24 .lss [] 21 23]
 (.cond (.t 24) (.ops [qc 6 1]) .skip))) .skip))
 (qT (.block 0 (qS [qm 26 6, qv 27 .neq [.i] 26 0, qm 25 27]
 (.cond (.t 25) (.seq (.ops [qm 28 6, qf 29 1 4, ql 30 1 29, qq 31 (.build [.int .i64 0, .int .i64 0] [(0 , 1 , .t 28), (1 , 1 , .t 30)]), qq 2 (.mov (.c (.sl .nil []))), qs 2 3 31]) .ret) (qS [qf 33 2 4, ql 34 1 33, qn 35 34, qv 36 .gtr [] 35 300, qm 32 36]
 (.cond (.t 32) (.seq (.ops [qq 37 (.build [.int .i64 0, .int .i64 0] [(0 , 1 , .c (.int .i64 10)), (1 , 1 , .c (.int .i64 (-1)))]), qq 2 (.mov (.c (.sl .nil []))), qs 2 3 37]) .ret) .skip)))))
 (.seq (.ops [qf 38 2 4, ql 39 1 38, qq 40 (.build [.int .i64 0, .int .i64 0] []), qm 2 39, qs 2 3 40]) .ret)))))))))
def r_sexpr_Read : List RVar := [.tmp 2, .cell true 2 3]
def n_sexpr_Read : Nat := 41
theorem k_sexpr_Read : chkFn Go.Proofs.Try.prog 5 n_sexpr_Read r_sexpr_Read c_sexpr_Read = true := by kernel_rfl
theorem f_sexpr_Read (t : List UInt8) (hl : t.length ≤ 4611686018427387904) : Fc Go.Proofs.Try.prog 5 [.str t] (.tup [.sl .p ((readL t).map sxV), ftV (readF t)]) := by
  by_cases h1 : t.length > 4096
  · have e : readF t = ⟨2, -1⟩ := by unfold readF; rw [if_pos h1]
    have e2 : readL t = [] := by unfold readL; rw [e, if_neg (by simp [okF])]
    rw [e, e2]
    refine Fn.step mixed k_sexpr_Read ?_
    repeat' (first | refine i_len rfl ?_ | refine i_s rfl ?_ | refine i_lenm rfl rfl rfl ?_ | refine sw ?_ | refine i_s0 rfl ?_ | refine i_gt rfl ?_ | refine i_gf rfl ?_ | refine i_gd rfl ?_ | refine c_t rfl ?_ | refine c_f rfl ?_ | refine jc rfl ?_ | refine ja rfl rfl ?_ | refine jb rfl rfl ?_ | refine jg rfl rfl ?_ | refine jf rfl rfl ?_ | refine jd rfl rfl ?_ | refine je rfl rfl ?_ | refine jh rfl rfl ?_ | refine i_stb rfl ?_ | refine i_alloc rfl ?_ | refine i_box rfl rfl ?_ | refine i_nv rfl ?_ | (refine sp ?_ ?_ <;> try intro h) | fail)
    all_goals first
      | exact e_ret ⟨rfl, _, rfl, rfl⟩
      | (exfalso; have := of_decide_eq_false h; omega)
  have hN := (ct_all (G := Unit) (H := noH) t (by omega) (2 * t.length + 1)).1 0 t [] (by omega) (List.suffix_refl t) (by simp; omega) (Nat.le_refl _)
  have hfa := prs_facts (2 * t.length + 1) true 0 t 0 []
  have hrf : readF t = if (rdQ t).code ≠ 0 then ⟨(rdQ t).code, (t.length : Int) - (rdQ t).rest.length⟩ else if sk (rdQ t).rest ≠ [] then ⟨1, (t.length : Int) - (sk (rdQ t).rest).length⟩ else if (rdQ t).new.length > 300 then ⟨10, -1⟩ else okF := by
    conv => lhs; unfold readF
    rw [if_neg h1]
  have hrl : readL t = if readF t = okF then (rdQ t).new else [] := rfl
  generalize readL t = RL at *
  generalize readF t = RF at *
  unfold rdQ at hrf hrl
  rw [show ([] : List Sx).length = 0 from rfl] at hN
  generalize prs (2 * t.length + 1) true 0 t 0 [] = q at *
  obtain ⟨f1, f2, f3, f4⟩ := hfa
  refine Fn.step mixed k_sexpr_Read ?_
  repeat' (first | refine i_len rfl ?_ | refine i_s rfl ?_ | refine i_lenm rfl rfl rfl ?_ | refine sw ?_ | refine i_s0 rfl ?_ | refine i_gt rfl ?_ | refine i_gf rfl ?_ | refine i_gd rfl ?_ | refine c_t rfl ?_ | refine c_f rfl ?_ | refine jc rfl ?_ | refine ja rfl rfl ?_ | refine jb rfl rfl ?_ | refine jg rfl rfl ?_ | refine jf rfl rfl ?_ | refine jd rfl rfl ?_ | refine je rfl rfl ?_ | refine jh rfl rfl ?_ | refine i_stb rfl ?_ | refine i_alloc rfl ?_ | refine i_box rfl rfl ?_ | refine i_nv rfl ?_ | (refine sp ?_ ?_ <;> try intro h) | fail)
  all_goals first
    | (exfalso; have := of_decide_eq_true h; omega)
    | skip
  refine c_nvb rfl rfl rfl rfl ?_
  repeat (first | refine i_len rfl ?_ | refine i_s rfl ?_ | refine i_lenm rfl rfl rfl ?_ | refine sw ?_ | refine i_s0 rfl ?_ | refine i_gt rfl ?_ | refine i_gf rfl ?_ | refine i_gd rfl ?_ | refine c_t rfl ?_ | refine c_f rfl ?_ | refine jc rfl ?_ | refine ja rfl rfl ?_ | refine jb rfl rfl ?_ | refine jg rfl rfl ?_ | refine jf rfl rfl ?_ | refine jd rfl rfl ?_ | refine je rfl rfl ?_ | refine jh rfl rfl ?_ | refine i_stb rfl ?_ | refine i_alloc rfl ?_ | refine i_box rfl rfl ?_ | refine i_nv rfl ?_)
  refine i_c rfl rfl rfl (hN _ (rd_eq (by rw [Int.sub_self]; rfl) rfl fun nm h => restr_mem nm h) ()) ?_
  rintro _ _ g ⟨rfl, rfl, rfl⟩
  by_cases hz : q.code = 0
  · rw [if_neg (by simp [hz])] at hrf
    unfold ndR
    rw [if_pos hz, hz]
    rw [List.nil_append]
    have hsl := (sk_suf q.rest).length_le
    have hrl1 := f1.length_le
    repeat (first | refine i_len rfl ?_ | refine i_s rfl ?_ | refine i_lenm rfl rfl rfl ?_ | refine sw ?_ | refine i_s0 rfl ?_ | refine i_gt rfl ?_ | refine i_gf rfl ?_ | refine i_gd rfl ?_ | refine c_t rfl ?_ | refine c_f rfl ?_ | refine jc rfl ?_ | refine ja rfl rfl ?_ | refine jb rfl rfl ?_ | refine jg rfl rfl ?_ | refine jf rfl rfl ?_ | refine jd rfl rfl ?_ | refine je rfl rfl ?_ | refine jh rfl rfl ?_ | refine i_stb rfl ?_ | refine i_alloc rfl ?_ | refine i_box rfl rfl ?_ | refine i_nv rfl ?_)
    refine i_c rfl rfl rfl (ct_blanks t q.rest q.new (by omega) f1 _ (rd_eq rfl rfl fun nm h => restr_mem nm h) _) ?_
    rintro _ _ g ⟨rfl, rfl, rfl⟩
    refine i_nil ?_
    refine e_seq ?_
    refine c_cut [(0, .str t), (4, .bptr 320259 0), (6, .int .i64 0), (3, .bptr 320194 0)] ((320194, .box (.agg [.int .i64 0, .int .i64 0])) :: rdSx t (sk q.rest) q.new) ft ?_
    by_cases hk : sk q.rest = []
    · rw [if_neg (by simp [hk])] at hrf
      rw [hk]
      by_cases h3 : q.new.length > 300
      · rw [if_pos h3] at hrf
        rw [if_neg (by rw [hrf]; simp [okF])] at hrl
        rw [hrl, hrf]
        repeat' (first | refine i_len rfl ?_ | refine i_s rfl ?_ | refine i_lenm rfl rfl rfl ?_ | refine sw ?_ | refine i_s0 rfl ?_ | refine i_gt rfl ?_ | refine i_gf rfl ?_ | refine i_gd rfl ?_ | refine c_t rfl ?_ | refine c_f rfl ?_ | refine jc rfl ?_ | refine ja rfl rfl ?_ | refine jb rfl rfl ?_ | refine jg rfl rfl ?_ | refine jf rfl rfl ?_ | refine jd rfl rfl ?_ | refine je rfl rfl ?_ | refine jh rfl rfl ?_ | refine i_stb rfl ?_ | refine i_alloc rfl ?_ | refine i_box rfl rfl ?_ | refine i_nv rfl ?_ | (refine sp ?_ ?_ <;> try intro h) | fail)
        all_goals first
          | exact e_ret ⟨rfl, _, rfl, rfl⟩
          | (exfalso; have := of_decide_eq_true h; simp at this; done)
          | (exfalso; have := of_decide_eq_false h; omega)
          | (exfalso; clear hN; simp_all; done)
      · rw [if_neg h3] at hrf
        rw [if_pos hrf] at hrl
        rw [hrl, hrf]
        repeat' (first | refine i_len rfl ?_ | refine i_s rfl ?_ | refine i_lenm rfl rfl rfl ?_ | refine sw ?_ | refine i_s0 rfl ?_ | refine i_gt rfl ?_ | refine i_gf rfl ?_ | refine i_gd rfl ?_ | refine c_t rfl ?_ | refine c_f rfl ?_ | refine jc rfl ?_ | refine ja rfl rfl ?_ | refine jb rfl rfl ?_ | refine jg rfl rfl ?_ | refine jf rfl rfl ?_ | refine jd rfl rfl ?_ | refine je rfl rfl ?_ | refine jh rfl rfl ?_ | refine i_stb rfl ?_ | refine i_alloc rfl ?_ | refine i_box rfl rfl ?_ | refine i_nv rfl ?_ | (refine sp ?_ ?_ <;> try intro h) | fail)
        all_goals first
          | exact e_ret ⟨rfl, _, rfl, rfl⟩
          | (exfalso; have := of_decide_eq_true h; simp at this; done)
          | (exfalso; have := of_decide_eq_true h; omega)
          | (exfalso; clear hN; simp_all; done)
    · rw [if_pos hk] at hrf
      rw [if_neg (by rw [hrf]; simp [okF])] at hrl
      rw [hrl, hrf]
      have hpos := List.length_pos_iff.2 hk
      repeat' (first | refine i_len rfl ?_ | refine i_s rfl ?_ | refine i_lenm rfl rfl rfl ?_ | refine sw ?_ | refine i_s0 rfl ?_ | refine i_gt rfl ?_ | refine i_gf rfl ?_ | refine i_gd rfl ?_ | refine c_t rfl ?_ | refine c_f rfl ?_ | refine jc rfl ?_ | refine ja rfl rfl ?_ | refine jb rfl rfl ?_ | refine jg rfl rfl ?_ | refine jf rfl rfl ?_ | refine jd rfl rfl ?_ | refine je rfl rfl ?_ | refine jh rfl rfl ?_ | refine i_stb rfl ?_ | refine i_alloc rfl ?_ | refine i_box rfl rfl ?_ | refine i_nv rfl ?_ | (refine sp ?_ ?_ <;> try intro h) | fail)
      all_goals first
        | exact e_ret ⟨rfl, _, rfl, rfl⟩
        | (exfalso; have := of_decide_eq_false h; omega)
        | (exfalso; clear hN; simp_all; omega)
  · rw [if_pos hz] at hrf
    have hne : RF ≠ okF := fun e => by rw [hrf] at e; injection e with e _; exact hz e
    rw [if_neg hne] at hrl
    rw [hrl, hrf]
    unfold ndR
    rw [if_neg hz]
    rw [List.nil_append]
    repeat' (first | refine i_len rfl ?_ | refine i_s rfl ?_ | refine i_lenm rfl rfl rfl ?_ | refine sw ?_ | refine i_s0 rfl ?_ | refine i_gt rfl ?_ | refine i_gf rfl ?_ | refine i_gd rfl ?_ | refine c_t rfl ?_ | refine c_f rfl ?_ | refine jc rfl ?_ | refine ja rfl rfl ?_ | refine jb rfl rfl ?_ | refine jg rfl rfl ?_ | refine jf rfl rfl ?_ | refine jd rfl rfl ?_ | refine je rfl rfl ?_ | refine jh rfl rfl ?_ | refine i_stb rfl ?_ | refine i_alloc rfl ?_ | refine i_box rfl rfl ?_ | refine i_nv rfl ?_ | (refine sp ?_ ?_ <;> try intro h) | fail)
    all_goals first
      | (exfalso; exact hz (by simpa using h))
      | exact e_ret ⟨rfl, _, rfl, rfl⟩
      | (exfalso; clear hN hrf hrl; simp_all; done)
instance : DecidableEq Sx := fun a b => if h : a.sym = b.sym ∧ a.ch = b.ch then isTrue (by cases a; cases b; simp only at h; rw [h.1, h.2]) else isFalse (by rintro rfl; exact h ⟨rfl, rfl⟩)
def c_R1_SameSexpr : Cmd :=
 (qS [qb 4 false]
 (qT (qS [qm 6 0, qn 7 6, qm 8 1, qn 9 8, qu 10 .neq [.i] 7 9]
 (.cond (.t 10) (.seq (.ops [qb 4 false]) .ret) .skip))
 (qT (qS [qc 5 0]
 (.block 0 (.loop (qT (qS [qm 11 5, qm 12 0, qn 13 12, qu 14 .lss [] 11 13]
 (.cond (.t 14) .skip (.exit 0)))
 (qT (.block 1 (qS [qm 17 0, qm 18 5, qi 19 2 17 18, qf 20 0 19, ql 21 1 20, qm 22 1, qm 23 5, qi 24 2 22 23, qf 25 0 24, ql 26 1 25, qu 27 .neq [.s] 21 26, qm 28 27, qg 29 28 false (.mov (.t 0)), qg 30 28 false (.mov (.t 5)), qg 31 28 false (.iaddr 2 (.t 29) (.t 30)), qg 32 28 false (.faddr 1 (.t 31)), qg 33 28 false (.load false 1 (.t 32)), qg 34 28 false (.mov (.t 1)), qg 35 28 false (.mov (.t 5)), qg 36 28 false (.iaddr 2 (.t 34) (.t 35)), qg 37 28 false (.faddr 1 (.t 36)), qg 38 28 false (.load false 1 (.t 37)), qg 39 28 false (.call .f (.c (.fn 14 [])) [.t 33, .t 38]), qg 40 28 false (.not (.t 39)), qq 41 (.pick (.t 28) (.c (.bool true)) (.t 40))]
 (.cond (.t 41) (.seq (.ops [qb 4 false]) .ret) .skip)))
 (.ops [qm 15 5, qv 16 .add [] 15 1, qm 5 16]))))))
 (.seq (.ops [qb 4 true]) .ret))))
def r_R1_SameSexpr : List RVar := [.tmp 4]
def n_R1_SameSexpr : Nat := 42
theorem k_R1_SameSexpr : chkFn Go.Proofs.Try.prog 7 n_R1_SameSexpr r_R1_SameSexpr c_R1_SameSexpr = true := by kernel_rfl
theorem f_R1_SameSexpr (a b : List Sx) (ha : SxsOk a) : Fc Go.Proofs.Try.prog 7 [.sl .p (a.map sxV), .sl .p (b.map sxV)] (.bool (decide (a = b))) := by
  have hal := ha.len
  by_cases hl : a.length = b.length
  · refine Fn.step mixed k_R1_SameSexpr ?_
    repeat' (first | refine i_len rfl ?_ | refine i_s rfl ?_ | refine i_lenm rfl rfl rfl ?_ | refine sw ?_ | refine i_s0 rfl ?_ | refine i_gt rfl ?_ | refine i_gf rfl ?_ | refine i_gd rfl ?_ | refine c_t rfl ?_ | refine c_f rfl ?_ | refine jc rfl ?_ | refine ja rfl rfl ?_ | refine jb rfl rfl ?_ | refine jg rfl rfl ?_ | refine jf rfl rfl ?_ | refine jd rfl rfl ?_ | refine je rfl rfl ?_ | refine jh rfl rfl ?_ | refine i_stb rfl ?_ | refine i_alloc rfl ?_ | refine i_box rfl rfl ?_ | refine i_nv rfl ?_ | (refine sp ?_ ?_ <;> try intro h) | fail)
    all_goals first
      | (exfalso; have h9 : ¬ (a.length : Int) = b.length := (by simpa using h); omega)
      | skip
    refine c_for a.length (fun k => [(0, .sl .p (a.map sxV)), (1, .sl .p (b.map sxV)), (5, .int .i64 k)]) (fun _ => []) (fun k => a.take k = b.take k) (by simp) ft fun k hk hi => ?_
    repeat (first | refine i_len rfl ?_ | refine i_s rfl ?_ | refine i_lenm rfl rfl rfl ?_ | refine sw ?_ | refine i_s0 rfl ?_ | refine i_gt rfl ?_ | refine i_gf rfl ?_ | refine i_gd rfl ?_ | refine c_t rfl ?_ | refine c_f rfl ?_ | refine jc rfl ?_ | refine ja rfl rfl ?_ | refine jb rfl rfl ?_ | refine jg rfl rfl ?_ | refine jf rfl rfl ?_ | refine jd rfl rfl ?_ | refine je rfl rfl ?_ | refine jh rfl rfl ?_ | refine i_stb rfl ?_ | refine i_alloc rfl ?_ | refine i_box rfl rfl ?_ | refine i_nv rfl ?_)
    refine c_cond rfl (fun h => ?_) (fun h => ?_)
    · have hlt : k < a.length := by simpa using h
      obtain ⟨x, hx⟩ := get_some hlt
      obtain ⟨y, hy⟩ := get_some (l := b) (k := k) (by omega)
      have hI := f_R1_Ints x.ch y.ch (ha.e x (mem_get hx)).2
      have hbad : x ≠ y → decide (a = b) = false := fun hne => decide_eq_false fun e => by
        subst e
        rw [hx] at hy
        injection hy with hy
        exact hne hy
      have hgood : x = y → a.take (k + 1) = b.take (k + 1) := fun e => by rw [take_succ_get hx, take_succ_get hy, hi, e]
      clear h ha hi
      by_cases h1 : x.sym = y.sym
      · by_cases h2 : x.ch = y.ch
        · have he : x = y := by cases x; cases y; simp only at h1 h2; rw [h1, h2]
          rw [decide_eq_true h2] at hI
          repeat' (first | refine i_len rfl ?_ | refine i_s rfl ?_ | refine i_lenm rfl rfl rfl ?_ | refine sw ?_ | refine i_s0 rfl ?_ | refine i_gt rfl ?_ | refine i_gf rfl ?_ | refine i_gd rfl ?_ | refine c_t rfl ?_ | refine c_f rfl ?_ | refine jc rfl ?_ | refine ja rfl rfl ?_ | refine jb rfl rfl ?_ | refine jg rfl rfl ?_ | refine jf rfl rfl ?_ | refine jd rfl rfl ?_ | refine je rfl rfl ?_ | refine jh rfl rfl ?_ | refine i_stb rfl ?_ | refine i_alloc rfl ?_ | refine i_box rfl rfl ?_ | refine i_nv rfl ?_ | (refine sp ?_ ?_ <;> try intro h) | refine sf rfl rfl hI ?_ | fail)
          all_goals first
            | exact e_for hlt (hgood he) ft
            | (exfalso; clear hI; simp_all; done)
        · rw [hbad fun e => h2 (by rw [e])]
          rw [decide_eq_false h2] at hI
          repeat' (first | refine i_len rfl ?_ | refine i_s rfl ?_ | refine i_lenm rfl rfl rfl ?_ | refine sw ?_ | refine i_s0 rfl ?_ | refine i_gt rfl ?_ | refine i_gf rfl ?_ | refine i_gd rfl ?_ | refine c_t rfl ?_ | refine c_f rfl ?_ | refine jc rfl ?_ | refine ja rfl rfl ?_ | refine jb rfl rfl ?_ | refine jg rfl rfl ?_ | refine jf rfl rfl ?_ | refine jd rfl rfl ?_ | refine je rfl rfl ?_ | refine jh rfl rfl ?_ | refine i_stb rfl ?_ | refine i_alloc rfl ?_ | refine i_box rfl rfl ?_ | refine i_nv rfl ?_ | (refine sp ?_ ?_ <;> try intro h) | refine sf rfl rfl hI ?_ | fail)
          all_goals first
            | exact e_ret ⟨rfl, _, rfl, rfl⟩
            | (exfalso; clear hI; simp_all; done)
      · rw [hbad fun e => h1 (by rw [e])]
        generalize decide (x.ch = y.ch) = bb at *
        repeat' (first | refine i_len rfl ?_ | refine i_s rfl ?_ | refine i_lenm rfl rfl rfl ?_ | refine sw ?_ | refine i_s0 rfl ?_ | refine i_gt rfl ?_ | refine i_gf rfl ?_ | refine i_gd rfl ?_ | refine c_t rfl ?_ | refine c_f rfl ?_ | refine jc rfl ?_ | refine ja rfl rfl ?_ | refine jb rfl rfl ?_ | refine jg rfl rfl ?_ | refine jf rfl rfl ?_ | refine jd rfl rfl ?_ | refine je rfl rfl ?_ | refine jh rfl rfl ?_ | refine i_stb rfl ?_ | refine i_alloc rfl ?_ | refine i_box rfl rfl ?_ | refine i_nv rfl ?_ | (refine sp ?_ ?_ <;> try intro h) | refine sf rfl rfl hI ?_ | fail)
        all_goals first
          | exact e_ret ⟨rfl, _, rfl, rfl⟩
          | (exfalso; clear hI; simp_all; done)
    · have hge : k = a.length := by have : ¬ k < a.length := by simpa using h
                                    omega
      subst hge
      rw [List.take_length, hl, List.take_length] at hi
      rw [decide_eq_true hi]
      clear h
      repeat' (first | refine i_len rfl ?_ | refine i_s rfl ?_ | refine i_lenm rfl rfl rfl ?_ | refine sw ?_ | refine i_s0 rfl ?_ | refine i_gt rfl ?_ | refine i_gf rfl ?_ | refine i_gd rfl ?_ | refine c_t rfl ?_ | refine c_f rfl ?_ | refine jc rfl ?_ | refine ja rfl rfl ?_ | refine jb rfl rfl ?_ | refine jg rfl rfl ?_ | refine jf rfl rfl ?_ | refine jd rfl rfl ?_ | refine je rfl rfl ?_ | refine jh rfl rfl ?_ | refine i_stb rfl ?_ | refine i_alloc rfl ?_ | refine i_box rfl rfl ?_ | refine i_nv rfl ?_ | (refine sp ?_ ?_ <;> try intro h) | fail)
      exact e_ret ⟨rfl, _, rfl, rfl⟩
  · rw [decide_eq_false fun e => hl (by rw [e])]
    refine Fn.step mixed k_R1_SameSexpr ?_
    repeat' (first | refine i_len rfl ?_ | refine i_s rfl ?_ | refine i_lenm rfl rfl rfl ?_ | refine sw ?_ | refine i_s0 rfl ?_ | refine i_gt rfl ?_ | refine i_gf rfl ?_ | refine i_gd rfl ?_ | refine c_t rfl ?_ | refine c_f rfl ?_ | refine jc rfl ?_ | refine ja rfl rfl ?_ | refine jb rfl rfl ?_ | refine jg rfl rfl ?_ | refine jf rfl rfl ?_ | refine jd rfl rfl ?_ | refine je rfl rfl ?_ | refine jh rfl rfl ?_ | refine i_stb rfl ?_ | refine i_alloc rfl ?_ | refine i_box rfl rfl ?_ | refine i_nv rfl ?_ | (refine sp ?_ ?_ <;> try intro h) | fail)
    all_goals first
      | exact e_ret ⟨rfl, _, rfl, rfl⟩
      | (exfalso; have h9 : (a.length : Int) = b.length := (by simpa using h); omega)
def exL : List Sx := [⟨[97], []⟩, ⟨[98], []⟩, ⟨[], [0, 1]⟩]
theorem exL_ok : SxsOk exL := ⟨by decide, by decide, by
  intro x hx c hc
  simp only [exL, List.mem_cons, List.not_mem_nil, or_false] at hx
  rcases hx with rfl | rfl | rfl
  · simp at hc
  · simp at hc
  · simp at hc
    rcases hc with rfl | rfl <;> exact ⟨by decide, by decide⟩⟩
theorem f_ex1 : Fc Go.Proofs.Try.prog 5 [.str [40, 97, 32, 98, 41]] (.tup [.sl .p (exL.map sxV), ftV okF]) := by
  have h := f_sexpr_Read [40, 97, 32, 98, 41] (by decide)
  rw [show readL [40, 97, 32, 98, 41] = exL from by decide +kernel, show readF [40, 97, 32, 98, 41] = okF from by decide +kernel] at h
  exact h
theorem f_ex2 : Fc Go.Proofs.Try.prog 5 [.str [40, 97]] (.tup [.sl .p (([] : List Sx).map sxV), ftV ⟨1, 2⟩]) := by
  have h := f_sexpr_Read [40, 97] (by decide)
  rw [show readL [40, 97] = [] from by decide +kernel, show readF [40, 97] = ⟨1, 2⟩ from by decide +kernel] at h
  exact h
theorem f_ex3 : Fc Go.Proofs.Try.prog 8 [.sl .p (exL.map sxV)] (.tup [.str [40, 97, 32, 98, 41], ftV okF]) := by
  have h := f_sexpr_Print_ok exL exL_ok (sxOk_of (by decide +kernel))
  rw [show tx exL (exL.length - 1) = [40, 97, 32, 98, 41] from by decide +kernel] at h
  exact h
theorem f_ex4 : Fc Go.Proofs.Try.prog 7 [.sl .p (exL.map sxV), .sl .p (exL.map sxV)] (.bool true) := by
  have h := f_R1_SameSexpr exL exL exL_ok
  rwa [decide_eq_true rfl] at h
theorem f_ex5 : Fc Go.Proofs.Try.prog 10 [.sl .p (([] : List Sx).map sxV)] (ftV ⟨2, -1⟩) := f_sexpr_Validate [] ⟨by decide, by simp, by simp⟩
def c_L1_reads : Cmd :=
 (qS [qb 0 false]
 (qS [qq 9 (.call .f (.c (.fn 5 [])) [.c (.str [40, 97, 32, 98, 41])]), qm 8 9, qq 10 (.extract (.t 8) 0), qq 11 (.extract (.t 8) 1), qq 2 (.alloc 256130 (.agg [.int .i64 0, .int .i64 0])), qm 1 10, qs 2 2 11]
 (qS [qq 13 (.build [.str [], .sl .p []] [(0 , 1 , .c (.str [97]))]), qq 14 (.build [.str [], .sl .p []] [(0 , 1 , .c (.str [98]))]), qq 15 (.bsl 1 [.c (.int .i64 0), .c (.int .i64 1)]), qq 16 (.build [.str [], .sl .p []] [(1 , 1 , .t 15)]), qq 17 (.bsl 2 [.t 13, .t 14, .t 16]), qk 18 8 [17], qm 12 18, qq 19 (.extract (.t 12) 0), qq 20 (.extract (.t 12) 1), qq 4 (.alloc 256258 (.agg [.int .i64 0, .int .i64 0])), qm 3 19, qs 2 4 20]
 (qS [qq 22 (.call .f (.c (.fn 5 [])) [.c (.str [40, 97])]), qm 21 22, qq 23 (.extract (.t 21) 0), qq 24 (.extract (.t 21) 1), qq 6 (.alloc 256386 (.agg [.int .i64 0, .int .i64 0])), qm 5 23, qs 2 6 24]
 (qS [qq 25 (.build [.str [], .sl .p []] [(0 , 1 , .c (.str [97]))]), qq 26 (.build [.str [], .sl .p []] [(0 , 1 , .c (.str [98]))]), qq 27 (.bsl 1 [.c (.int .i64 0), .c (.int .i64 1)]), qq 28 (.build [.str [], .sl .p []] [(1 , 1 , .t 27)]), qq 29 (.bsl 2 [.t 25, .t 26, .t 28]), qm 7 29]
 (.seq (.ops [qf 30 0 2, ql 31 1 30, qv 32 .eql [.i] 31 0, qm 33 32, qg 34 33 true (.faddr 0 (.t 4)), qg 35 33 true (.load false 1 (.t 34)), qg 36 33 true (.bin .eql false [.i] (.t 35) (.c (.int .i64 0))), qq 37 (.pick (.t 33) (.t 36) (.c (.bool false))), qm 38 37, qg 39 38 true (.mov (.t 1)), qg 40 38 true (.mov (.t 7)), qg 41 38 true (.call .f (.c (.fn 7 [])) [.t 39, .t 40]), qq 42 (.pick (.t 38) (.t 41) (.c (.bool false))), qm 43 42, qg 44 43 true (.mov (.t 3)), qg 45 43 true (.bin .eql false [.s] (.t 44) (.c (.str [40, 97, 32, 98, 41]))), qq 46 (.pick (.t 43) (.t 45) (.c (.bool false))), qm 47 46, qg 48 47 true (.load true 2 (.t 6)), qg 49 47 true (.call .f (.c (.fn 9 [])) [.c (.int .i64 1), .c (.int .i64 2)]), qg 50 47 true (.bin .eql true [.i, .i] (.t 48) (.t 49)), qq 51 (.pick (.t 47) (.t 50) (.c (.bool false))), qm 52 51, qg 53 52 true (.call .f (.c (.fn 10 [])) [.c (.sl .nil [])]), qg 54 52 true (.call .f (.c (.fn 9 [])) [.c (.int .i64 2), .c (.int .i64 (-1))]), qg 55 52 true (.bin .eql true [.i, .i] (.t 53) (.t 54)), qq 56 (.pick (.t 52) (.t 55) (.c (.bool false))), qm 0 56]) .ret))))))
def r_L1_reads : List RVar := [.tmp 0]
def n_L1_reads : Nat := 57
theorem k_L1_reads : chkFn Go.Proofs.Try.prog 4 n_L1_reads r_L1_reads c_L1_reads = true := by kernel_rfl
theorem f_L1_reads : Fc Go.Proofs.Try.prog 4 [] (.bool true) := by
  refine Fn.step mixed k_L1_reads ?_
  repeat' (first | refine i_len rfl ?_ | refine i_s rfl ?_ | refine i_lenm rfl rfl rfl ?_ | refine sw ?_ | refine i_s0 rfl ?_ | refine i_gt rfl ?_ | refine i_gf rfl ?_ | refine i_gd rfl ?_ | refine c_t rfl ?_ | refine c_f rfl ?_ | refine jc rfl ?_ | refine ja rfl rfl ?_ | refine jb rfl rfl ?_ | refine jg rfl rfl ?_ | refine jf rfl rfl ?_ | refine jd rfl rfl ?_ | refine je rfl rfl ?_ | refine jh rfl rfl ?_ | refine i_stb rfl ?_ | refine i_alloc rfl ?_ | refine i_box rfl rfl ?_ | refine i_nv rfl ?_ | (refine sp ?_ ?_ <;> try intro h) | refine sf rfl rfl f_ex1 ?_ | refine sf rfl rfl f_ex2 ?_ | refine sf rfl rfl f_ex3 ?_ | refine sf rfl rfl f_ex4 ?_ | refine sf rfl rfl f_ex5 ?_ | refine sf rfl rfl (f_R1_At _ _) ?_ | fail)
  all_goals exact e_ret ⟨rfl, _, rfl, rfl⟩
end Hm
end
section
namespace Hm
open Go
theorem it_read (t : List UInt8) : itF t = readF t ∧ itL t = readL t := by
  obtain ⟨h1, h2⟩ := (sim (2 * t.length + 1)).1 0 t [] [] (by omega) rfl (.inr rfl)
  have e0 : prs (2 * t.length + 1) true 0 t ([] : List Sx).length [] = rdQ t := rfl
  rw [e0] at h1 h2
  have key : itF t = readF t ∧ ((rdQ t).code = 0 → sk (rdQ t).rest = [] → (IT t [] [] false).out = (rdQ t).new) := by
    by_cases hq : (rdQ t).code = 0
    · have h3 := h2 hq
      rw [List.nil_append] at h3
      unfold aft at h3
      rw [if_pos rfl] at h3
      cases hs : sk (rdQ t).rest with
      | nil =>
        rw [IT_end hs] at h3
        refine ⟨?_, fun _ _ => by rw [h3]⟩
        unfold itF readF
        rw [h3, if_neg (show ¬ (rdQ t).code ≠ 0 from fun h => h hq), hs]
        simp
      | cons c r =>
        rw [IT_bad hs (.inl rfl)] at h3
        refine ⟨?_, fun _ h => by cases h⟩
        unfold itF readF
        rw [h3, if_neg (show ¬ (rdQ t).code ≠ 0 from fun h => h hq), hs]
        simp
    · obtain ⟨h3, h4⟩ := h1 hq
      refine ⟨?_, fun h => absurd h hq⟩
      unfold itF readF
      rw [h3, h4, if_pos hq, if_pos hq]
  refine ⟨key.1, ?_⟩
  unfold itL readL
  rw [key.1]
  split
  · rename_i h
    obtain ⟨_, h5, h6, _⟩ := read_ok h
    exact key.2 h5 h6
  · rfl
end Hm
end
section
namespace Hm
open Go
set_option maxRecDepth 100000
set_option maxHeartbeats 4000000
def c_R1_SexprOf : Cmd :=
 (qS [qq 2 (.mov (.c (.sl .p []))), qq 3 (.alloc 384194 (.agg [.int .i64 0, .int .i64 0]))]
 (qT (qS [qm 12 0, qq 13 (.len true (.t 12)), qv 14 .gtr [] 13 4096]
 (.cond (.t 14) (.seq (.ops [qq 15 (.call .f (.c (.fn 9 [])) [.c (.int .i64 2), .c (.int .i64 (-1))]), qq 2 (.mov (.c (.sl .p []))), qs 2 3 15]) .ret) .skip))
 (qS [qq 4 (.newVec 384258)]
 (qS [qq 5 (.newArr 384321)]
 (qS [qb 6 false]
 (qS [qc 7 0]
 (qT (.block 0 (.loop (.block 1 (qT (.block 2 (.loop (qT (qS [qm 16 7, qm 17 0, qq 18 (.len true (.t 17)), qu 19 .lss [] 16 18, qm 20 19, qg 21 20 true (.mov (.t 0)), qg 22 20 true (.mov (.t 7)), qg 23 20 true (.index (.t 21) (.t 22)), qg 24 20 true (.bin .eql false [.i] (.t 23) (.c (.int .u8 32))), qg 25 20 true (.mov (.t 24)), qg 26 25 false (.mov (.t 0)), qg 27 25 false (.mov (.t 7)), qg 28 25 false (.index (.t 26) (.t 27)), qg 29 25 false (.bin .eql false [.i] (.t 28) (.c (.int .u8 9))), qg 30 20 true (.pick (.t 25) (.c (.bool true)) (.t 29)), qg 31 20 true (.mov (.t 30)), qg 32 31 false (.mov (.t 0)), qg 33 31 false (.mov (.t 7)), qg 34 31 false (.index (.t 32) (.t 33)), qg 35 31 false (.bin .eql false [.i] (.t 34) (.c (.int .u8 10))), qg 36 20 true (.pick (.t 31) (.c (.bool true)) (.t 35)), qq 37 (.pick (.t 20) (.t 36) (.c (.bool false)))]
 (.cond (.t 37) .skip (.exit 2)))
 (.block 3 (.ops [qm 38 7, qv 39 .add [] 38 1, qm 7 39])))))
 (qT (qS [qm 40 7, qm 41 0, qq 42 (.len true (.t 41)), qu 43 .eql [.i] 40 42]
 (.cond (.t 43) (.exit 0) .skip))
 (qS [qm 44 0, qm 45 7, qq 46 (.index (.t 44) (.t 45)), qm 8 46]
 (qT (qS [qm 47 6, qm 48 47, qg 49 48 false (.mov (.t 8)), qg 50 48 false (.bin .eql false [.i] (.t 49) (.c (.int .u8 41))), qg 51 48 false (.mov (.t 50)), qg 52 51 true (.mov (.t 5)), qg 53 51 true (.len false (.t 52)), qg 54 51 true (.bin .eql false [.i] (.t 53) (.c (.int .i64 0))), qg 55 48 false (.pick (.t 51) (.t 54) (.c (.bool false))), qq 56 (.pick (.t 48) (.c (.bool true)) (.t 55)), qm 57 56, qg 58 57 false (.mov (.t 8)), qg 59 57 false (.bin .neq false [.i] (.t 58) (.c (.int .u8 40))), qg 60 57 false (.mov (.t 59)), qg 61 60 true (.mov (.t 8)), qg 62 60 true (.bin .neq false [.i] (.t 61) (.c (.int .u8 41))), qg 63 57 false (.pick (.t 60) (.t 62) (.c (.bool false))), qg 64 57 false (.mov (.t 63)), qg 65 64 true (.mov (.t 8)), qg 66 64 true (.call .f (.c (.fn 13 [])) [.t 65]), qg 67 64 true (.not (.t 66)), qg 68 57 false (.pick (.t 64) (.t 67) (.c (.bool false))), qq 69 (.pick (.t 57) (.c (.bool true)) (.t 68))]
 (.cond (.t 69) (.seq (.ops [qm 70 7, qq 71 (.call .f (.c (.fn 9 [])) [.c (.int .i64 1), .t 70]), qq 2 (.mov (.c (.sl .p []))), qs 2 3 71]) .ret) .skip))
 (qT (qS [qm 72 8, qq 73 (.bin .neq false [.i] (.t 72) (.c (.int .u8 41))), qm 74 73, qg 75 74 true (.mov (.t 5)), qg 76 74 true (.len false (.t 75)), qg 77 74 true (.bin .eql false [.i] (.t 76) (.c (.int .i64 12))), qq 78 (.pick (.t 74) (.t 77) (.c (.bool false)))]
 (.cond (.t 78) (.seq (.ops [qm 79 7, qq 80 (.call .f (.c (.fn 9 [])) [.c (.int .i64 10), .t 79]), qq 2 (.mov (.c (.sl .p []))), qs 2 3 80]) .ret) .skip))
 (qT (qS [qm 81 8, qq 82 (.bin .eql false [.i] (.t 81) (.c (.int .u8 40)))]
 (.cond (.t 82) (qS [qm 83 5, qq 84 (.bsl 1 [.c (.sl .nil [])]), qq 85 (.append 1 24 32 (.t 83) (.t 84)), qm 5 85]
 (qS [qm 86 7, qv 87 .add [] 86 1, qm 7 87]
 (.exit 1))) .skip))
 (qS [qq 9 (.alloc 384578 (.agg [.str [], .sl .p []]))]
 (qT (qS [qm 88 8, qq 89 (.bin .eql false [.i] (.t 88) (.c (.int .u8 41)))]
 (.cond (.t 89) (qS [qm 90 5, qm 91 5, qn 92 91, qv 93 .sub [] 92 1, qi 94 1 90 93, ql 95 1 94, .frz 95, qf 96 1 9, qs 1 96 95]
 (qS [qm 97 5, qm 98 5, qn 99 98, qv 100 .sub [] 99 1, qq 101 (.slice false 1 (.t 97) none (some (.t 100))), qm 5 101]
 (.ops [qm 102 7, qv 103 .add [] 102 1, qm 7 103]))) (qS [qm 104 7, qm 10 104]
 (qT (.block 4 (.loop (qT (qS [qm 105 7, qm 106 0, qq 107 (.len true (.t 106)), qu 108 .lss [] 105 107, qm 109 108, qg 110 109 true (.mov (.t 0)), qg 111 109 true (.mov (.t 7)), qg 112 109 true (.index (.t 110) (.t 111)), qg 113 109 true (.call .f (.c (.fn 13 [])) [.t 112]), qq 114 (.pick (.t 109) (.t 113) (.c (.bool false)))]
 (.cond (.t 114) .skip (.exit 4)))
 (.block 5 (.ops [qm 115 7, qv 116 .add [] 115 1, qm 7 116])))))
 (qT (qS [qm 117 7, qm 118 10, qu 119 .sub [] 117 118, qv 120 .gtr [] 119 12]
 (.cond (.t 120) (.seq (.ops [qm 121 10, qq 122 (.call .f (.c (.fn 9 [])) [.c (.int .i64 1), .t 121]), qq 2 (.mov (.c (.sl .p []))), qs 2 3 122]) .ret) .skip))
 (.ops [qm 123 0, qm 124 10, qm 125 7, qq 126 (.slice true 1 (.t 123) (some (.t 124)) (some (.t 125))), qf 127 0 9, qs 1 127 126]))))))
 (qS [qm 128 4, qL 129 2 9, qq 130 (.bsl 2 [.t 129]), qq 131 (.append 2 40 34 (.t 128) (.t 130)), qm 4 131]
 (qS [qm 132 5, qn 133 132, qv 134 .eql [.i] 133 0]
 (.cond (.t 134) (.ops [qb 6 true]) (qS [qm 135 5, qn 136 135, qv 137 .sub [] 136 1, qm 11 137]
 (.ops [qm 138 5, qm 139 11, qm 140 5, qm 141 11, qi 142 1 140 141, ql 143 1 142, qm 144 4, qn 145 144, qv 146 .sub [] 145 1, qq 147 (.bsl 1 [.t 146]), qq 148 (.appR 1 8 3 (.t 143) (.t 147)), qi 149 1 138 139, qs 1 149 148]))))))))))))))))
 (qT (qS [qm 150 6, qq 151 (.not (.t 150))]
 (.cond (.t 151) (.seq (.ops [qm 152 0, qq 153 (.len true (.t 152)), qq 154 (.call .f (.c (.fn 9 [])) [.c (.int .i64 1), .t 153]), qq 2 (.mov (.c (.sl .p []))), qs 2 3 154]) .ret) .skip))
 (qT (qS [qm 155 4, qn 156 155, qv 157 .gtr [] 156 300]
 (.cond (.t 157) (.seq (.ops [qq 158 (.call .f (.c (.fn 9 [])) [.c (.int .i64 10), .c (.int .i64 (-1))]), qq 2 (.mov (.c (.sl .p []))), qs 2 3 158]) .ret) .skip))
 (.seq (.ops [qm 159 4, qq 160 (.build [.int .i64 0, .int .i64 0] []), qm 2 159, qs 2 3 160]) .ret))))))))))
def r_R1_SexprOf : List RVar := [.tmp 2, .cell true 2 3]
def n_R1_SexprOf : Nat := 161
theorem k_R1_SexprOf : chkFn Go.Proofs.Try.prog 6 n_R1_SexprOf r_R1_SexprOf c_R1_SexprOf = true := by kernel_rfl
abbrev BX : Nat := 435201
abbrev FX (out : List Sx) (gen : Nat) (rows : List V) : List (Nat × Blk) := [(384194, .box (ftV okF)), (384258, .vec out.length), (384321, .arr gen rows)]
abbrev EX (t : List UInt8) (out : List Sx) (gen n : Nat) (dn : Bool) (i : Int) : List (Nat × V) := [(0, .str t), (3, .bptr 384194 0), (4, .sl (.own 384258) (out.map sxV)), (5, .msl 384321 gen 0 n), (6, .bool dn), (7, .int .i64 i)]
theorem FX_lt {out : List Sx} {gen : Nat} {rows : List V} : ∀ q ∈ FX out gen rows, q.1 < BX := by
  intro q hq
  simp only [FX, List.mem_cons, List.not_mem_nil, or_false] at hq
  rcases hq with rfl | rfl | rfl
  · show 384194 < BX; decide
  · show 384258 < BX; decide
  · show 384321 < BX; decide
theorem hneX (j : Nat) {k : Nat} (hk : k < BX) : nmL BX j ≠ k := by unfold nmL; omega
theorem fitX {L : List Lv} (ho : ∀ u ∈ L, LvOk u) {out : List Sx} {gen : Nat} {rows : List V} {E : List (Nat × V)} {ρ : Env} {σ : Store} (hE : FitsE E ρ) (hF : FitsS (FX out gen rows) σ) (hD : FitsS (dyn BX 0 L) σ) (hc : closedE ((FX out gen rows ++ dyn BX 0 L).map (·.1)) E = true) : Fits [] E (FX out gen rows ++ dyn BX 0 L) ρ σ :=
  fits_dyn ho hE hF hD hc (by
    intro q hq row hr
    simp only [FX, List.mem_cons, List.not_mem_nil, or_false] at hq
    rcases hq with rfl | rfl | rfl <;> cases hr
    rfl)
theorem dyn_keep {L : List Lv} (ho : ∀ u ∈ L, LvOk u) {σ σ' : Store} (h : FitsS (dyn BX 0 L) σ) (k : ∀ j, σ' (nmL BX j) = σ (nmL BX j)) : FitsS (dyn BX 0 L) σ' := fitsS_of fun q hq => by
  obtain ⟨j, h1, _⟩ := dyn_mem ho hq
  have h2 := fitsS_all h q hq
  rw [h1, k, ← h1]
  exact h2
theorem dyn_self {L : List Lv} (ho : ∀ u ∈ L, LvOk u) {out : List Sx} {gen : Nat} {rows : List V} : FitsS (dyn BX 0 L) (stOf (FX out gen rows ++ dyn BX 0 L)) := fitsS_of fun q hq => by
  obtain ⟨j, h1, _⟩ := dyn_mem ho hq
  rw [h1, stOf_app_r (not_F FX_lt _), ← h1]
  exact dyn_get ho hq
theorem dyn_off {L : List Lv} (ho : ∀ u ∈ L, LvOk u) {n : Nat} (hn : n < BX) : stOf (dyn BX 0 L) n = .unused := stOf_out fun hm => by
  obtain ⟨q, hq, e⟩ := List.mem_map.1 hm
  obtain ⟨j, h1, _⟩ := dyn_mem ho hq
  exact hneX j hn (h1.symm.trans e)
structure SX where
  s : List UInt8
  out : List Sx
  L : List Lv
  rows : List V
  gen : Nat
  dn : Bool
structure SXok (t : List UInt8) (q : SX) : Prop where
  suf : q.s <:+ t
  it : IT q.s q.out (q.L.map Lv.ch) q.dn = IT t [] [] false
  lv : ∀ v ∈ q.L, LvOk v
  len : q.L.length ≤ 12
  rws : q.rows.take q.L.length = q.L.map Lv.row
  ol : q.out.length + q.s.length ≤ t.length
  cl : ∀ v ∈ q.L, v.ch.length + q.s.length ≤ t.length
  dnL : q.dn = true → q.L = []
theorem it_code {t : List UInt8} (hl : ¬ t.length > 4096) {r : IR} (h : IT t [] [] false = r) (hc : r.code ≠ 0) : itF t = ⟨r.code, (t.length : Int) - r.rest.length⟩ ∧ itL t = [] := by
  have e : itF t = ⟨r.code, (t.length : Int) - r.rest.length⟩ := by unfold itF; rw [if_neg hl, h, if_pos hc]
  refine ⟨e, ?_⟩
  unfold itL
  rw [e, if_neg (fun k => hc (congrArg Flt.code k))]
theorem it_good {t : List UInt8} (hl : ¬ t.length > 4096) {r : IR} (h : IT t [] [] false = r) (hc : r.code = 0) : (r.out.length > 300 → itF t = ⟨10, -1⟩ ∧ itL t = []) ∧ (¬ r.out.length > 300 → itF t = okF ∧ itL t = r.out) := by
  have e : itF t = if r.out.length > 300 then ⟨10, -1⟩ else okF := by unfold itF; rw [if_neg hl, h, if_neg (fun k => k hc)]
  constructor
  · intro h3
    rw [if_pos h3] at e
    refine ⟨e, ?_⟩
    unfold itL
    rw [e, if_neg (by simp [okF])]
  · intro h3
    rw [if_neg h3] at e
    refine ⟨e, ?_⟩
    unfold itL
    rw [e, if_pos rfl, h]
theorem c_if {G : Type} {P : Program} {H : HT G} {pn : List Nat} {Q : Exit → Env → Store → G → Prop} {fs : List (Frm G)} {a : Cmd} {ρ : Env} {σ : Store} {g : G} (hM : MonoH H) (R : Env → Store → Prop) (h : WC P H pn (fun e ρ' σ' g' => (e = .normal ∧ R ρ' σ') ∨ (e = .ret ∧ Q .ret ρ' σ' g')) [] a ρ σ g) (k : ∀ ρ' σ' g', R ρ' σ' → WE P H pn Q fs .normal ρ' σ' g') : WC P H pn Q fs a ρ σ g := c_join hM _ h fun e ρ' σ' g' h => by
  rcases h with ⟨rfl, h⟩ | ⟨rfl, h⟩
  · exact k _ _ _ h
  · exact e_ret h
abbrev FY (out : List Sx) (gen : Nat) (rows : List V) (n : Sx) : List (Nat × Blk) := [(384194, .box (ftV okF)), (384258, .vec out.length), (384321, .arr gen rows), (384578, .box (sxV n))]
abbrev EY (t : List UInt8) (out : List Sx) (gen n : Nat) (i : Int) : List (Nat × V) := [(0, .str t), (3, .bptr 384194 0), (4, .sl (.own 384258) (out.map sxV)), (5, .msl 384321 gen 0 n), (6, .bool false), (7, .int .i64 i), (9, .bptr 384578 0)]
abbrev EZ (t : List UInt8) (out : List Sx) (gen n : Nat) (i j : Int) : List (Nat × V) := [(0, .str t), (3, .bptr 384194 0), (4, .sl (.own 384258) (out.map sxV)), (5, .msl 384321 gen 0 n), (6, .bool false), (7, .int .i64 i), (9, .bptr 384578 0), (10, .int .i64 j)]
abbrev EC (t : List UInt8) (out : List Sx) (gen n : Nat) (dn : Bool) (i : Int) (c : UInt8) : List (Nat × V) := [(0, .str t), (3, .bptr 384194 0), (4, .sl (.own 384258) (out.map sxV)), (5, .msl 384321 gen 0 n), (6, .bool dn), (7, .int .i64 i), (8, .int .u8 c.toNat)]
theorem FY_lt {out : List Sx} {gen : Nat} {rows : List V} {n : Sx} : ∀ q ∈ FY out gen rows n, q.1 < BX := by
  intro q hq
  simp only [FY, List.mem_cons, List.not_mem_nil, or_false] at hq
  rcases hq with rfl | rfl | rfl | rfl
  · show 384194 < BX; decide
  · show 384258 < BX; decide
  · show 384321 < BX; decide
  · show 384578 < BX; decide
theorem fitY {L : List Lv} (ho : ∀ u ∈ L, LvOk u) {out : List Sx} {gen : Nat} {rows : List V} {n : Sx} {E : List (Nat × V)} {ρ : Env} {σ : Store} (hE : FitsE E ρ) (hF : FitsS (FY out gen rows n) σ) (hD : FitsS (dyn BX 0 L) σ) (hc : closedE ((FY out gen rows n ++ dyn BX 0 L).map (·.1)) E = true) : Fits [] E (FY out gen rows n ++ dyn BX 0 L) ρ σ :=
  fits_dyn ho hE hF hD hc (by
    intro q hq row hr
    simp only [FY, List.mem_cons, List.not_mem_nil, or_false] at hq
    rcases hq with rfl | rfl | rfl | rfl <;> cases hr
    all_goals rfl)
theorem dyn_selfY {L : List Lv} (ho : ∀ u ∈ L, LvOk u) {out : List Sx} {gen : Nat} {rows : List V} {n : Sx} : FitsS (dyn BX 0 L) (stOf (FY out gen rows n ++ dyn BX 0 L)) := fitsS_of fun q hq => by
  obtain ⟨j, h1, _⟩ := dyn_mem ho hq
  rw [h1, stOf_app_r (not_F FY_lt _), ← h1]
  exact dyn_get ho hq
theorem neX {j k : Nat} (hk : k < BX) : k ≠ nmL BX j := fun e => hneX j hk e.symm
theorem fr4 {σ : Store} {A B C D : Blk} (h1 : σ 384194 = A) (h2 : σ 384258 = B) (h3 : σ 384321 = C) (h4 : σ 384578 = D) : σ = ups (ups (ups (ups σ 384194 A) 384258 B) 384321 C) 384578 D := by
  subst h1 h2 h3 h4
  simp only [ups_self]
theorem fr_at {σ : Store} {A B C D : Blk} (j : Nat) : ups (ups (ups (ups σ 384194 A) 384258 B) 384321 C) 384578 D (nmL BX j) = σ (nmL BX j) := by
  rw [upt_ne _ _ (hneX _ (by decide)), upt_ne _ _ (hneX _ (by decide)), upt_ne _ _ (hneX _ (by decide)), upt_ne _ _ (hneX _ (by decide))]
theorem wi_fr {G : Type} {P : Program} {H : HT G} {pn : List Nat} {Q : Exit → Env → Store → G → Prop} {fs : List (Frm G)} {l : List GItem} {ρ : Env} {σ : Store} {g : G} {j : Nat} {b : Blk} (h : WI P H pn Q fs l ρ (ups (ups (ups (ups (ups σ (nmL BX j) b) 384194 (σ 384194)) 384258 (σ 384258)) 384321 (σ 384321)) 384578 (σ 384578)) g) : WI P H pn Q fs l ρ (ups σ (nmL BX j) b) g := by
  rw [fr4 (σ := ups σ (nmL BX j) b) (upt_ne _ _ (neX (by decide))) (upt_ne _ _ (neX (by decide))) (upt_ne _ _ (neX (by decide))) (upt_ne _ _ (neX (by decide)))]
  exact h
theorem tyX {B : List Lv} {u : Lv} {p et : Nat} (h : (B ++ [u]).length ≤ 12) (hp : p < 2) : tyOkB (nmL BX (2 * B.length + p)) et = true := by
  rw [List.length_append, List.length_singleton] at h
  have e : nmL BX (2 * B.length + p) / 1099511627776 = 0 := Nat.div_eq_of_lt (by unfold nmL; show 435201 + 64 * (2 * B.length + p) < _; omega)
  unfold tyOkB
  rw [e]
  rfl
theorem allSnoc {p : Lv → Prop} {L : List Lv} {u : Lv} (h : ∀ v ∈ L, p v) (hu : p u) : ∀ v ∈ L ++ [u], p v := fun v hv => by
  rcases List.mem_append.1 hv with k | k
  · exact h v k
  · rw [List.mem_singleton.1 k]; exact hu
theorem dyn_nil0 {L : List Lv} {b c p : Nat} : dyn BX 0 (L ++ [⟨[], b, c, p⟩]) = dyn BX 0 L := by
  rw [dyn_append]
  simp [dyn, Lv.ent]
theorem dynTop {B : List Lv} {u : Lv} {σ : Store} (hB : FitsS (dyn BX 0 B) σ) (hu : u.ch ≠ [] → σ (nmL BX (2 * B.length + u.par)) = .box (.tag u.b u.cs)) : FitsS (dyn BX 0 (B ++ [u])) σ := by
  rw [dyn_append]
  refine fitsS_of fun q hq => ?_
  rcases List.mem_append.1 hq with h | h
  · exact fitsS_all hB q h
  · simp only [dyn, Nat.zero_add, List.append_nil] at h
    obtain ⟨hne, rfl⟩ := ent_mem h
    exact hu hne
theorem dynLow {F : List (Nat × Blk)} (hF : ∀ q ∈ F, q.1 < BX) {B : List Lv} {u : Lv} {σ : Store} (ho : ∀ v ∈ B ++ [u], LvOk v) (h : ∀ j, j < 2 * B.length → σ (nmL BX j) = stOf (F ++ dyn BX 0 (B ++ [u])) (nmL BX j)) : FitsS (dyn BX 0 B) σ := fits_low hF ho h
theorem rwLen {rows : List V} {L : List Lv} (h : rows.take L.length = L.map Lv.row) : L.length ≤ rows.length := by
  have := congrArg List.length h
  rw [List.length_take, List.length_map] at this
  omega
theorem rowAt {rows : List V} {B : List Lv} {u : Lv} (h : rows.take (B ++ [u]).length = (B ++ [u]).map Lv.row) : rows[B.length]? = some u.row := by
  have h9 := congrArg (fun l => l[B.length]?) h
  simp only [List.length_append, List.length_singleton, List.map_append, List.map_cons, List.map_nil] at h9
  rw [List.getElem?_take, if_pos (by omega), List.getElem?_append_right (by simp), List.length_map, Nat.sub_self] at h9
  simpa using h9
theorem rwDrop {rows : List V} {B : List Lv} {u : Lv} (h : rows.take (B ++ [u]).length = (B ++ [u]).map Lv.row) : rows.take B.length = B.map Lv.row := by
  have h9 := congrArg (List.take B.length) h
  rw [List.take_take, List.length_append, Nat.min_eq_left (by omega), List.map_append, List.take_left' (by simp)] at h9
  exact h9
theorem rwOpen {rows : List V} {L : List Lv} {b c p : Nat} (h : rows.take L.length = L.map Lv.row) : (rows.take L.length ++ [V.sl .nil []]).take (L ++ [(⟨[], b, c, p⟩ : Lv)]).length = (L ++ [(⟨[], b, c, p⟩ : Lv)]).map Lv.row := by
  rw [h, List.take_of_length_le (by simp)]
  simp [Lv.row]
theorem rwSet {rows : List V} {B : List Lv} {u u' : Lv} (h : rows.take (B ++ [u]).length = (B ++ [u]).map Lv.row) : (rows.set B.length u'.row).take (B ++ [u']).length = (B ++ [u']).map Lv.row := by
  have h1 := rwDrop h
  have h2 := rwLen h
  have h3 : B.length < rows.length := by rw [List.length_append, List.length_singleton] at h2; omega
  rw [List.length_append, List.length_singleton, List.take_add_one, List.take_set, List.set_eq_of_length_le (by rw [List.length_take]; omega), h1, List.getElem?_set_self h3]
  simp
theorem csRoom {u : Lv} {j : Int} (h : u.ch.length + 1 ≤ u.c) : u.cs.take (u.ch.length * 1) ++ flatC [i64V j] ++ u.cs.drop (u.ch.length * 1 + (flatC [i64V j]).length) = (⟨u.ch ++ [j], u.b, u.c, u.par⟩ : Lv).cs := by
  have e1 : u.cs.take (u.ch.length * 1) = u.ch.map i64V := by unfold Lv.cs; rw [Nat.mul_one, List.take_left' (by simp)]
  have e2 : flatC [i64V j] = [i64V j] := flat_map1 [j]
  rw [e1, e2]
  have e3 : u.cs.drop (u.ch.length * 1 + 1) = List.replicate (u.c - (u.ch.length + 1)) V.any := by
    unfold Lv.cs
    rw [Nat.mul_one, List.drop_append, List.drop_of_length_le (by simp), List.length_map, List.drop_replicate, List.nil_append]
    congr 1
    omega
  show _ ++ u.cs.drop (u.ch.length * 1 + 1) = _
  rw [e3]
  simp [Lv.cs]
theorem csGrow {u : Lv} {j : Int} {b c p : Nat} : u.cs.take (u.ch.length * 1) ++ flatC [i64V j] ++ List.replicate ((c - (u.ch.length + 1)) * 1) V.any = (⟨u.ch ++ [j], b, c, p⟩ : Lv).cs := by
  have e1 : u.cs.take (u.ch.length * 1) = u.ch.map i64V := by unfold Lv.cs; rw [Nat.mul_one, List.take_left' (by simp)]
  have e2 : flatC [i64V j] = [i64V j] := flat_map1 [j]
  rw [e1, e2]
  simp [Lv.cs]
def Bad (dn : Bool) (k m : Int) (sb : Bool) : Prop := dn = true ∨ (k = 41 ∧ m = 0) ∨ (¬ k = 40 ∧ ¬ k = 41 ∧ sb = false)
structure TlOk (t : List UInt8) (ls : Nat) (out : List Sx) (rows : List V) (n : Sx) (s3 : List UInt8) (L3 : List Lv) : Prop where
  suf : s3 <:+ t
  lt : s3.length < ls
  lv : ∀ v ∈ L3, LvOk v
  len : L3.length ≤ 12
  rws : rows.take L3.length = L3.map Lv.row
  ol : out.length + 1 + s3.length ≤ t.length
  cl : ∀ v ∈ L3, v.ch.length + 1 + s3.length ≤ t.length
  it : IT t [] [] false = if L3.map Lv.ch = [] then IT s3 (out ++ [n]) [] true else IT s3 (out ++ [n]) (pushO (L3.map Lv.ch) out.length) false
theorem f_R1_SexprOf (t : List UInt8) (hl : t.length ≤ 4611686018427387904) : Fc Go.Proofs.Try.prog 6 [.str t] (.tup [.sl .p ((itL t).map sxV), ftV (itF t)]) := by
  by_cases h4 : t.length > 4096
  · have e1 : itF t = ⟨2, -1⟩ := by unfold itF; rw [if_pos h4]
    have e2 : itL t = [] := by unfold itL; rw [e1, if_neg (by simp [okF])]
    rw [e1, e2]
    have hA := f_R1_At 2 (-1)
    refine Fn.step mixed k_R1_SexprOf ?_
    repeat' (first | refine i_len rfl ?_ | refine i_s rfl ?_ | refine i_lenm rfl rfl rfl ?_ | refine sw ?_ | refine i_s0 rfl ?_ | refine i_gt rfl ?_ | refine i_gf rfl ?_ | refine i_gd rfl ?_ | refine c_t rfl ?_ | refine c_f rfl ?_ | refine jc rfl ?_ | refine ja rfl rfl ?_ | refine jb rfl rfl ?_ | refine jg rfl rfl ?_ | refine jf rfl rfl ?_ | refine jd rfl rfl ?_ | refine je rfl rfl ?_ | refine jh rfl rfl ?_ | refine i_stb rfl ?_ | refine i_alloc rfl ?_ | refine i_box rfl rfl ?_ | refine i_nv rfl ?_ | (refine sp ?_ ?_ <;> try intro h) | refine sf rfl rfl hA ?_ | fail)
    all_goals first
      | exact e_ret ⟨rfl, _, rfl, rfl⟩
      | (exfalso; clear hA; simp at *; done)
      | (exfalso; clear hA; simp at *; omega)
      | skip
  refine Fn.step mixed k_R1_SexprOf ?_
  repeat' (first | refine i_len rfl ?_ | refine i_s rfl ?_ | refine i_lenm rfl rfl rfl ?_ | refine sw ?_ | refine i_s0 rfl ?_ | refine i_gt rfl ?_ | refine i_gf rfl ?_ | refine i_gd rfl ?_ | refine c_t rfl ?_ | refine c_f rfl ?_ | refine jc rfl ?_ | refine ja rfl rfl ?_ | refine jb rfl rfl ?_ | refine jg rfl rfl ?_ | refine jf rfl rfl ?_ | refine jd rfl rfl ?_ | refine je rfl rfl ?_ | refine jh rfl rfl ?_ | refine i_stb rfl ?_ | refine i_alloc rfl ?_ | refine i_box rfl rfl ?_ | refine i_nv rfl ?_ | (refine sp ?_ ?_ <;> try intro h) | fail)
  all_goals first
    | (exfalso; simp at *; done)
    | (exfalso; simp at *; omega)
    | skip
  refine i_na rfl ?_
  repeat (first | refine i_len rfl ?_ | refine i_s rfl ?_ | refine i_lenm rfl rfl rfl ?_ | refine sw ?_ | refine i_s0 rfl ?_ | refine i_gt rfl ?_ | refine i_gf rfl ?_ | refine i_gd rfl ?_ | refine c_t rfl ?_ | refine c_f rfl ?_ | refine jc rfl ?_ | refine ja rfl rfl ?_ | refine jb rfl rfl ?_ | refine jg rfl rfl ?_ | refine jf rfl rfl ?_ | refine jd rfl rfl ?_ | refine je rfl rfl ?_ | refine jh rfl rfl ?_ | refine i_stb rfl ?_ | refine i_alloc rfl ?_ | refine i_box rfl rfl ?_ | refine i_nv rfl ?_)
  refine c_lp (fun q : SX => EX t q.out q.gen q.L.length q.dn ((t.length : Int) - q.s.length)) (fun q => FX q.out q.gen q.rows ++ dyn BX 0 q.L) (SXok t) (fun q => q.s.length) ⟨t, [], [], [], 0, false⟩
    ⟨List.suffix_refl t, rfl, (fun v hv => by cases hv), (by simp), rfl, (by simp), (fun v hv => by cases hv), (fun h => by cases h)⟩
    (fitX (L := []) (fun v hv => by cases hv) ⟨rfl, rfl, rfl, rfl, rfl, (by show V.int _ 0 = V.int _ ((t.length : Int) - t.length); rw [Int.sub_self]), trivial⟩ ⟨rfl, rfl, rfl, trivial⟩ trivial rfl) fun q hq => ?_
  have hsle := hq.suf.length_le
  have hol := hq.ol
  have hLl := hq.len
  refine c_block ?_
  refine c_seq ?_
  refine c_join noH_mono (fun e ρ' σ' g' => e = .normal ∧ Fits [] (EX t q.out q.gen q.L.length q.dn ((t.length : Int) - (sk q.s).length)) (FX q.out q.gen q.rows ++ dyn BX 0 q.L) ρ' σ') ?_ ?_
  · refine c_block ?_
    refine c_lp (fun s' : List UInt8 => EX t q.out q.gen q.L.length q.dn ((t.length : Int) - s'.length)) (fun _ => FX q.out q.gen q.rows ++ dyn BX 0 q.L) (fun s' => s' <:+ t ∧ sk s' = sk q.s) (fun s' => s'.length) q.s ⟨hq.suf, rfl⟩
      (fitX hq.lv ⟨rfl, rfl, rfl, rfl, rfl, rfl, trivial⟩ ⟨rfl, rfl, rfl, trivial⟩ (dyn_self hq.lv) rfl) fun s' hs' => ?_
    obtain ⟨hs1, hs2⟩ := hs'
    have hle := hs1.length_le
    have fit : ∀ (i : Int) (ρ : Env) (σ : Store), FitsE (EX t q.out q.gen q.L.length q.dn i) ρ → σ = stOf (FX q.out q.gen q.rows ++ dyn BX 0 q.L) → Fits [] (EX t q.out q.gen q.L.length q.dn i) (FX q.out q.gen q.rows ++ dyn BX 0 q.L) ρ σ := fun i ρ σ h1 h2 => by
      subst h2
      exact fitX hq.lv h1 ⟨rfl, rfl, rfl, trivial⟩ (dyn_self hq.lv) rfl
    cases s' with
    | nil =>
      repeat' (first | refine i_len rfl ?_ | refine i_s rfl ?_ | refine i_lenm rfl rfl rfl ?_ | refine sw ?_ | refine i_s0 rfl ?_ | refine i_gt rfl ?_ | refine i_gf rfl ?_ | refine i_gd rfl ?_ | refine c_t rfl ?_ | refine c_f rfl ?_ | refine jc rfl ?_ | refine ja rfl rfl ?_ | refine jb rfl rfl ?_ | refine jg rfl rfl ?_ | refine jf rfl rfl ?_ | refine jd rfl rfl ?_ | refine je rfl rfl ?_ | refine jh rfl rfl ?_ | refine i_stb rfl ?_ | refine i_alloc rfl ?_ | refine i_box rfl rfl ?_ | refine i_nv rfl ?_ | (refine sp ?_ ?_ <;> try intro h) | fail)
      all_goals first
        | (exfalso; simp at *; done)
        | exact e_end ⟨rfl, by rw [← hs2]; exact fit _ _ _ ⟨rfl, rfl, rfl, rfl, rfl, rfl, trivial⟩ rfl⟩
        | skip
    | cons c r =>
      have hix := suf_get hs1 rfl
      have hlr : r.length + 1 ≤ t.length := by simpa using hle
      by_cases hb : blankB c = true
      · have hr1 : r <:+ t := (List.suffix_cons c r).trans hs1
        have hr2 : sk r = sk q.s := by rw [← hs2, sk_cons hb]
        have hb' : c = 32 ∨ c = 9 ∨ c = 10 := by unfold blankB at hb; simpa using hb
        have fin : V.int .i64 ((t.length : Int) - (c :: r).length + 1) = .int .i64 ((t.length : Int) - r.length) := by simp only [List.length_cons]; congr 1; omega
        rcases hb' with rfl | rfl | rfl
        all_goals
          repeat' (first | refine i_len rfl ?_ | refine i_s rfl ?_ | refine i_lenm rfl rfl rfl ?_ | refine sw ?_ | refine i_s0 rfl ?_ | refine i_gt rfl ?_ | refine i_gf rfl ?_ | refine i_gd rfl ?_ | refine c_t rfl ?_ | refine c_f rfl ?_ | refine jc rfl ?_ | refine ja rfl rfl ?_ | refine jb rfl rfl ?_ | refine jg rfl rfl ?_ | refine jf rfl rfl ?_ | refine jd rfl rfl ?_ | refine je rfl rfl ?_ | refine jh rfl rfl ?_ | refine i_stb rfl ?_ | refine i_alloc rfl ?_ | refine i_box rfl rfl ?_ | refine i_nv rfl ?_ | (refine sp ?_ ?_ <;> try intro h) | refine i_ix rfl rfl (by simp only [List.length_cons]; omega) hix ?_ | refine i_add rfl rfl (by simp only [InR, List.length_cons]; omega) ?_)
          all_goals first
            | (exfalso; simp at *; done)
            | (exfalso; simp at *; omega)
            | exact e_lp r ⟨hr1, hr2⟩ (by simp) (fit _ _ _ ⟨rfl, rfl, rfl, rfl, rfl, fin, trivial⟩ rfl)
            | skip
      · have hb' : ¬ (c.toNat : Int) = 32 ∧ ¬ (c.toNat : Int) = 9 ∧ ¬ (c.toNat : Int) = 10 := by
          unfold blankB at hb
          simp only [List.mem_cons, List.not_mem_nil, or_false, decide_eq_true_eq, not_or] at hb
          refine ⟨fun h => hb.1 ?_, fun h => hb.2.1 ?_, fun h => hb.2.2 ?_⟩
          all_goals
            refine UInt8.toNat_inj.1 ?_
            have h2 := Int.ofNat_inj.1 h
            rw [h2]
            rfl
        have hst := sk_stop (c := c) (r := r) (by simpa using hb)
        obtain ⟨n1, n2, n3⟩ := hb'
        repeat' (first | refine i_len rfl ?_ | refine i_s rfl ?_ | refine i_lenm rfl rfl rfl ?_ | refine sw ?_ | refine i_s0 rfl ?_ | refine i_gt rfl ?_ | refine i_gf rfl ?_ | refine i_gd rfl ?_ | refine c_t rfl ?_ | refine c_f rfl ?_ | refine jc rfl ?_ | refine ja rfl rfl ?_ | refine jb rfl rfl ?_ | refine jg rfl rfl ?_ | refine jf rfl rfl ?_ | refine jd rfl rfl ?_ | refine je rfl rfl ?_ | refine jh rfl rfl ?_ | refine i_stb rfl ?_ | refine i_alloc rfl ?_ | refine i_box rfl rfl ?_ | refine i_nv rfl ?_ | (refine sp ?_ ?_ <;> try intro h) | refine i_ix rfl rfl (by simp only [List.length_cons]; omega) hix ?_)
        all_goals first
          | (exfalso; simp at *; done)
          | (exfalso; simp at *; omega)
          | exact e_end ⟨rfl, by rw [← hs2, hst]; exact fit _ _ _ ⟨rfl, rfl, rfl, rfl, rfl, rfl, trivial⟩ rfl⟩
          | skip
  rintro e0 ρ' σ' g' ⟨rfl, hf0⟩
  refine e_seq ?_
  refine c_cut _ _ hf0 ?_
  clear hf0 ρ' σ'
  have hs2 : sk q.s <:+ t := (sk_suf q.s).trans hq.suf
  have hs2l := (sk_suf q.s).length_le
  have hss := sk_idem q.s
  have hit : IT (sk q.s) q.out (q.L.map Lv.ch) q.dn = IT t [] [] false := by rw [IT_sk]; exact hq.it
  have hlv := hq.lv
  have hrws := hq.rws
  have hcl := hq.cl
  have hdnL := hq.dnL
  generalize sk q.s = s2 at *
  have hle2 := hs2.length_le
  cases s2 with
  | nil =>
    have hnl : (([] : List UInt8).length : Int) = 0 := rfl
    rw [IT_end (s := []) rfl] at hit
    cases hdn : q.dn with
    | false =>
      rw [hdn, if_neg (by simp)] at hit
      obtain ⟨e1, e2⟩ := it_code h4 hit.symm (by simp)
      have e1 : itF t = ⟨1, t.length⟩ := by rw [e1]; simp
      rw [e1, e2]
      repeat' (first | refine i_len rfl ?_ | refine i_s rfl ?_ | refine i_lenm rfl rfl rfl ?_ | refine sw ?_ | refine i_s0 rfl ?_ | refine i_gt rfl ?_ | refine i_gf rfl ?_ | refine i_gd rfl ?_ | refine c_t rfl ?_ | refine c_f rfl ?_ | refine jc rfl ?_ | refine ja rfl rfl ?_ | refine jb rfl rfl ?_ | refine jg rfl rfl ?_ | refine jf rfl rfl ?_ | refine jd rfl rfl ?_ | refine je rfl rfl ?_ | refine jh rfl rfl ?_ | refine i_stb rfl ?_ | refine i_alloc rfl ?_ | refine i_box rfl rfl ?_ | refine i_nv rfl ?_ | (refine sp ?_ ?_ <;> try intro h) | refine sf rfl rfl (f_R1_At _ _) ?_ | fail)
      all_goals first
        | (exfalso; simp at *; done)
        | exact e_ret ⟨rfl, _, rfl, rfl⟩
        | skip
    | true =>
      rw [hdn, if_pos rfl] at hit
      obtain ⟨g1, g2⟩ := it_good h4 hit.symm rfl
      by_cases h3 : q.out.length > 300
      · obtain ⟨e1, e2⟩ := g1 h3
        rw [e1, e2]
        repeat' (first | refine i_len rfl ?_ | refine i_s rfl ?_ | refine i_lenm rfl rfl rfl ?_ | refine sw ?_ | refine i_s0 rfl ?_ | refine i_gt rfl ?_ | refine i_gf rfl ?_ | refine i_gd rfl ?_ | refine c_t rfl ?_ | refine c_f rfl ?_ | refine jc rfl ?_ | refine ja rfl rfl ?_ | refine jb rfl rfl ?_ | refine jg rfl rfl ?_ | refine jf rfl rfl ?_ | refine jd rfl rfl ?_ | refine je rfl rfl ?_ | refine jh rfl rfl ?_ | refine i_stb rfl ?_ | refine i_alloc rfl ?_ | refine i_box rfl rfl ?_ | refine i_nv rfl ?_ | (refine sp ?_ ?_ <;> try intro h) | refine sf rfl rfl (f_R1_At _ _) ?_ | fail)
        all_goals first
          | (exfalso; simp at *; done)
          | (exfalso; simp at *; omega)
          | exact e_ret ⟨rfl, _, rfl, rfl⟩
          | skip
      · obtain ⟨e1, e2⟩ := g2 h3
        rw [e1, e2]
        repeat' (first | refine i_len rfl ?_ | refine i_s rfl ?_ | refine i_lenm rfl rfl rfl ?_ | refine sw ?_ | refine i_s0 rfl ?_ | refine i_gt rfl ?_ | refine i_gf rfl ?_ | refine i_gd rfl ?_ | refine c_t rfl ?_ | refine c_f rfl ?_ | refine jc rfl ?_ | refine ja rfl rfl ?_ | refine jb rfl rfl ?_ | refine jg rfl rfl ?_ | refine jf rfl rfl ?_ | refine jd rfl rfl ?_ | refine je rfl rfl ?_ | refine jh rfl rfl ?_ | refine i_stb rfl ?_ | refine i_alloc rfl ?_ | refine i_box rfl rfl ?_ | refine i_nv rfl ?_ | (refine sp ?_ ?_ <;> try intro h) | fail)
        all_goals first
          | (exfalso; simp at *; done)
          | (exfalso; simp at *; omega)
          | exact e_ret ⟨rfl, _, rfl, rfl⟩
          | skip
  | cons c r =>
    obtain ⟨qs, out, L, rows, gen, dn⟩ := q
    clear hq
    dsimp only at *
    have hix := suf_get hs2 rfl
    have hlr : r.length + 1 ≤ t.length := by simpa using hle2
    have hr1 : r <:+ t := (List.suffix_cons c r).trans hs2
    have hrl : r.length + 1 ≤ qs.length := by simpa using hs2l
    have hI : (t.length : Int) - (c :: r).length = t.length - (r.length : Int) - 1 := by simp only [List.length_cons]; omega
    have hI1 : V.int .i64 ((t.length : Int) - (c :: r).length + 1) = .int .i64 ((t.length : Int) - r.length) := by rw [hI]; congr 1; omega
    have h41 : ((c.toNat : Int) = 41) ↔ c = 41 := ⟨fun h => UInt8.toNat_inj.1 (by rw [Int.ofNat_inj.1 h]; rfl), fun h => by rw [h]; rfl⟩
    have h40 : ((c.toNat : Int) = 40) ↔ c = 40 := ⟨fun h => UInt8.toNat_inj.1 (by rw [Int.ofNat_inj.1 h]; rfl), fun h => by rw [h]; rfl⟩
    have hSy := f_R1_SymbolByte c
    have hself : ∀ n, n < BX → stOf (dyn BX 0 L) n = .unused := fun n hn => dyn_off hlv hn
    have fit : ∀ (E : List (Nat × V)) (ρ : Env) (σ : Store), closedE ((FX out gen rows ++ dyn BX 0 L).map (·.1)) E = true → FitsE E ρ → σ = stOf (FX out gen rows ++ dyn BX 0 L) → Fits [] E (FX out gen rows ++ dyn BX 0 L) ρ σ := fun E ρ σ h0 h1 h2 => by
      subst h2
      exact fitX hlv h1 ⟨rfl, rfl, rfl, trivial⟩ (dyn_self hlv) h0
    have hbad : Bad dn c.toNat L.length (symB c) → itF t = ⟨1, (t.length : Int) - (c :: r).length⟩ ∧ itL t = [] := fun h => by
      have hb : dn = true ∨ (c = 41 ∧ L.map Lv.ch = []) ∨ (c ≠ 40 ∧ c ≠ 41 ∧ symB c = false) := by
        rcases h with h | ⟨h, k⟩ | ⟨h, k, m⟩
        · exact .inl h
        · exact .inr (.inl ⟨h41.1 h, by rw [List.map_eq_nil_iff]; exact List.length_eq_zero_iff.1 (by omega)⟩)
        · exact .inr (.inr ⟨fun e => h (h40.2 e), fun e => k (h41.2 e), m⟩)
      rw [IT_bad hss hb] at hit
      exact it_code h4 hit.symm (by simp)
    refine c_seq ?_
    refine c_if noH_mono (fun ρ' σ' => Fits [] (EX t out gen L.length dn ((t.length : Int) - (c :: r).length)) (FX out gen rows ++ dyn BX 0 L) ρ' σ') ?_ ?_
    · clear hSy hbad
      repeat' (first | refine i_len rfl ?_ | refine i_s rfl ?_ | refine i_lenm rfl rfl rfl ?_ | refine sw ?_ | refine i_s0 rfl ?_ | refine i_gt rfl ?_ | refine i_gf rfl ?_ | refine i_gd rfl ?_ | refine c_t rfl ?_ | refine c_f rfl ?_ | refine jc rfl ?_ | refine ja rfl rfl ?_ | refine jb rfl rfl ?_ | refine jg rfl rfl ?_ | refine jf rfl rfl ?_ | refine jd rfl rfl ?_ | refine je rfl rfl ?_ | refine jh rfl rfl ?_ | refine i_stb rfl ?_ | refine i_alloc rfl ?_ | refine i_box rfl rfl ?_ | refine i_nv rfl ?_ | (refine sp ?_ ?_ <;> try intro h) | fail)
      all_goals first
        | (exfalso; simp at *; omega)
        | exact e_end (.inl ⟨rfl, fit _ _ _ rfl ⟨rfl, rfl, rfl, rfl, rfl, rfl, trivial⟩ rfl⟩)
    rintro ρ' σ' g' hf0
    refine e_seq ?_
    refine c_cut _ _ hf0 ?_
    clear hf0 ρ' σ'
    refine c_seq ?_
    refine c_ops ?_
    refine i_s rfl ?_
    refine i_s rfl ?_
    refine i_ix rfl rfl (by omega) hix ?_
    refine i_s rfl ?_
    refine i_nil ?_
    refine e_seq ?_
    refine c_cut0 ?_
    refine c_seq ?_
    refine c_if noH_mono (fun ρ' σ' => ¬ Bad dn c.toNat L.length (symB c) ∧ Fits [] (EC t out gen L.length dn ((t.length : Int) - (c :: r).length) c) (FX out gen rows ++ dyn BX 0 L) ρ' σ') ?_ ?_
    · repeat' (first | refine i_len rfl ?_ | refine i_s rfl ?_ | refine i_lenm rfl rfl rfl ?_ | refine sw ?_ | refine i_s0 rfl ?_ | refine i_gt rfl ?_ | refine i_gf rfl ?_ | refine i_gd rfl ?_ | refine c_t rfl ?_ | refine c_f rfl ?_ | refine jc rfl ?_ | refine ja rfl rfl ?_ | refine jb rfl rfl ?_ | refine jg rfl rfl ?_ | refine jf rfl rfl ?_ | refine jd rfl rfl ?_ | refine je rfl rfl ?_ | refine jh rfl rfl ?_ | refine i_stb rfl ?_ | refine i_alloc rfl ?_ | refine i_box rfl rfl ?_ | refine i_nv rfl ?_ | (refine sp ?_ ?_ <;> try intro h) | refine sf rfl rfl (f_R1_At _ _) ?_ | refine sf rfl rfl hSy ?_ | fail)
      all_goals clear hSy
      all_goals first
        | exact e_end (.inl ⟨rfl, by unfold Bad; grind, fit _ _ _ rfl ⟨rfl, rfl, rfl, rfl, rfl, rfl, rfl, trivial⟩ rfl⟩)
        | (have hb := hbad (by unfold Bad; grind)
           rw [hb.1, hb.2]
           exact e_ret (.inr ⟨rfl, rfl, _, rfl, rfl⟩))
        | (exfalso; simp at *; done)
        | (exfalso; simp at *; omega)
        | (exfalso; grind)
    rintro ρ' σ' g' ⟨hnb, hf0⟩
    refine e_seq ?_
    refine c_cut _ _ hf0 ?_
    clear hf0 ρ' σ' hbad
    have hnb' : ¬ (dn = true ∨ (c = 41 ∧ L.map Lv.ch = []) ∨ (c ≠ 40 ∧ c ≠ 41 ∧ symB c = false)) := fun h => hnb (by
      rcases h with h | ⟨h, k⟩ | ⟨h, k, m⟩
      · exact .inl h
      · exact .inr (.inl ⟨h41.2 h, by rw [List.map_eq_nil_iff] at k; rw [k]; rfl⟩)
      · exact .inr (.inr ⟨fun e => h (h40.1 e), fun e => k (h41.1 e), m⟩))
    clear hnb
    have hdn0 : dn = false := by cases dn <;> simp_all
    have hdeep : (¬ (c.toNat : Int) = 41 ∧ (L.length : Int) = 12) → itF t = ⟨10, (t.length : Int) - (c :: r).length⟩ ∧ itL t = [] := fun h => by
      rw [IT_deep hss hnb' ⟨fun e => h.1 (h41.2 e), by rw [List.length_map]; omega⟩] at hit
      exact it_code h4 hit.symm (by simp)
    refine c_seq ?_
    refine c_if noH_mono (fun ρ' σ' => ¬ (¬ (c.toNat : Int) = 41 ∧ (L.length : Int) = 12) ∧ Fits [] (EC t out gen L.length dn ((t.length : Int) - (c :: r).length) c) (FX out gen rows ++ dyn BX 0 L) ρ' σ') ?_ ?_
    · clear hSy hnb' hdn0
      repeat' (first | refine i_len rfl ?_ | refine i_s rfl ?_ | refine i_lenm rfl rfl rfl ?_ | refine sw ?_ | refine i_s0 rfl ?_ | refine i_gt rfl ?_ | refine i_gf rfl ?_ | refine i_gd rfl ?_ | refine c_t rfl ?_ | refine c_f rfl ?_ | refine jc rfl ?_ | refine ja rfl rfl ?_ | refine jb rfl rfl ?_ | refine jg rfl rfl ?_ | refine jf rfl rfl ?_ | refine jd rfl rfl ?_ | refine je rfl rfl ?_ | refine jh rfl rfl ?_ | refine i_stb rfl ?_ | refine i_alloc rfl ?_ | refine i_box rfl rfl ?_ | refine i_nv rfl ?_ | (refine sp ?_ ?_ <;> try intro h) | refine sf rfl rfl (f_R1_At _ _) ?_ | fail)
      all_goals first
        | exact e_end (.inl ⟨rfl, by grind, fit _ _ _ rfl ⟨rfl, rfl, rfl, rfl, rfl, rfl, rfl, trivial⟩ rfl⟩)
        | (have hb := hdeep (by grind)
           rw [hb.1, hb.2]
           exact e_ret (.inr ⟨rfl, rfl, _, rfl, rfl⟩))
        | (exfalso; simp at *; done)
        | (exfalso; simp at *; omega)
        | (exfalso; grind)
    rintro ρ' σ' g' ⟨hnd, hf0⟩
    refine e_seq ?_
    refine c_cut _ _ hf0 ?_
    clear hf0 ρ' σ' hdeep
    refine c_seq ?_
    by_cases hc40 : c = 40
    · subst hc40
      have hL12 : L.length ≠ 12 := fun e => hnd ⟨by decide, by omega⟩
      repeat (first | refine i_len rfl ?_ | refine i_s rfl ?_ | refine i_lenm rfl rfl rfl ?_ | refine sw ?_ | refine i_s0 rfl ?_ | refine i_gt rfl ?_ | refine i_gf rfl ?_ | refine i_gd rfl ?_ | refine c_t rfl ?_ | refine c_f rfl ?_ | refine jc rfl ?_ | refine ja rfl rfl ?_ | refine jb rfl rfl ?_ | refine jg rfl rfl ?_ | refine jf rfl rfl ?_ | refine jd rfl rfl ?_ | refine je rfl rfl ?_ | refine jh rfl rfl ?_ | refine i_stb rfl ?_ | refine i_alloc rfl ?_ | refine i_box rfl rfl ?_ | refine i_nv rfl ?_)
      refine i_appm rfl rfl rfl rfl rfl (fun row hr => by rw [List.mem_singleton.1 hr]; exact ⟨rfl, rfl⟩) (by show (L.length + 1) * 24 ≤ _; omega) (by show L.length + 1 ≤ _; omega) ?_
      repeat (first | refine i_len rfl ?_ | refine i_s rfl ?_ | refine i_lenm rfl rfl rfl ?_ | refine sw ?_ | refine i_s0 rfl ?_ | refine i_gt rfl ?_ | refine i_gf rfl ?_ | refine i_gd rfl ?_ | refine c_t rfl ?_ | refine c_f rfl ?_ | refine jc rfl ?_ | refine ja rfl rfl ?_ | refine jb rfl rfl ?_ | refine jg rfl rfl ?_ | refine jf rfl rfl ?_ | refine jd rfl rfl ?_ | refine je rfl rfl ?_ | refine jh rfl rfl ?_ | refine i_stb rfl ?_ | refine i_alloc rfl ?_ | refine i_box rfl rfl ?_ | refine i_nv rfl ?_)
      have hlo : ∀ v ∈ L ++ [(⟨[], 0, 0, 0⟩ : Lv)], LvOk v := allSnoc hlv ⟨by decide, by simp⟩
      refine e_lp ⟨r, out, L ++ [⟨[], 0, 0, 0⟩], rows.take L.length ++ [V.sl .nil []], gen + 1, false⟩ ⟨hr1, ?_, hlo, by rw [List.length_append, List.length_singleton]; omega, rwOpen hrws, by show out.length + r.length ≤ _; omega, allSnoc (fun v hv => by have := hcl v hv; show v.ch.length + r.length ≤ _; omega) (by show 0 + r.length ≤ _; omega), fun h => by cases h⟩ (by show r.length < qs.length; omega) ?_
      · show IT r out ((L ++ [(⟨[], 0, 0, 0⟩ : Lv)]).map Lv.ch) false = _
        rw [← hit, hdn0, IT_open hss rfl (by rw [List.length_map]; exact hL12), List.map_append]
        rfl
      · show Fits [] (EX t out (gen + 1) (L ++ [(⟨[], 0, 0, 0⟩ : Lv)]).length false ((t.length : Int) - r.length)) (FX out (gen + 1) (rows.take L.length ++ [V.sl .nil []]) ++ dyn BX 0 (L ++ [(⟨[], 0, 0, 0⟩ : Lv)])) _ _
        exact fitX hlo ⟨rfl, rfl, rfl, (by show V.msl _ _ _ _ = V.msl _ _ _ _; rw [List.length_append]; rfl), congrArg V.bool hdn0, hI1, trivial⟩ ⟨rfl, rfl, rfl, trivial⟩ (by rw [dyn_nil0]; exact dyn_keep hlv (dyn_self hlv) (fun j => upt_ne _ _ (hneX j (by decide)))) rfl
    repeat (first | refine i_len rfl ?_ | refine i_s rfl ?_ | refine i_lenm rfl rfl rfl ?_ | refine sw ?_ | refine i_s0 rfl ?_ | refine i_gt rfl ?_ | refine i_gf rfl ?_ | refine i_gd rfl ?_ | refine c_t rfl ?_ | refine c_f rfl ?_ | refine jc rfl ?_ | refine ja rfl rfl ?_ | refine jb rfl rfl ?_ | refine jg rfl rfl ?_ | refine jf rfl rfl ?_ | refine jd rfl rfl ?_ | refine je rfl rfl ?_ | refine jh rfl rfl ?_ | refine i_stb rfl ?_ | refine i_alloc rfl ?_ | refine i_box rfl rfl ?_ | refine i_nv rfl ?_)
    refine c_cond rfl (fun h => ?_) (fun h => ?_)
    · exfalso
      exact hc40 (h40.1 (by simpa using h))
    repeat (first | refine i_len rfl ?_ | refine i_s rfl ?_ | refine i_lenm rfl rfl rfl ?_ | refine sw ?_ | refine i_s0 rfl ?_ | refine i_gt rfl ?_ | refine i_gf rfl ?_ | refine i_gd rfl ?_ | refine c_t rfl ?_ | refine c_f rfl ?_ | refine jc rfl ?_ | refine ja rfl rfl ?_ | refine jb rfl rfl ?_ | refine jg rfl rfl ?_ | refine jf rfl rfl ?_ | refine jd rfl rfl ?_ | refine je rfl rfl ?_ | refine jh rfl rfl ?_ | refine i_stb rfl ?_ | refine i_alloc rfl ?_ | refine i_box rfl rfl ?_ | refine i_nv rfl ?_)
    refine i_alloc (hself _ (by decide)) ?_
    refine i_nil ?_
    refine e_seq ?_
    refine c_cut0 ?_
    refine c_seq ?_
    refine c_if noH_mono (fun ρ' σ' => ∃ n s3 L3, TlOk t qs.length out rows n s3 L3 ∧ Fits [] (EY t out gen L3.length ((t.length : Int) - s3.length)) (FY out gen rows n ++ dyn BX 0 L3) ρ' σ') ?_ ?_
    · by_cases hc41 : c = 41
      · subst hc41
        have hLne : L ≠ [] := fun e => hnb' (.inr (.inl ⟨rfl, by rw [e]; rfl⟩))
        obtain ⟨Bs, v, rfl⟩ : ∃ Bs v, L = Bs ++ [v] := ⟨L.dropLast, L.getLast hLne, (List.dropLast_concat_getLast hLne).symm⟩
        have hln : (Bs ++ [v]).length = Bs.length + 1 := by simp
        have hz : 0 + (((Bs ++ [v]).length : Int) - 1).toNat = Bs.length := by omega
        have hm5 : V.msl 384321 gen (0 + (0 : Int).toNat) ((((Bs ++ [v]).length : Int) - 1).toNat - (0 : Int).toNat) = V.msl 384321 gen 0 Bs.length := by
          rw [show (((Bs ++ [v]).length : Int) - 1).toNat - (0 : Int).toNat = Bs.length from by omega]; rfl
        have hrow := rowAt hrws
        have hlo : ∀ w ∈ Bs, LvOk w := fun w hw => hlv w (by simp [hw])
        have tok : TlOk t qs.length out rows ⟨[], v.ch⟩ r Bs := ⟨hr1, by omega, hlo, by omega, rwDrop hrws, by omega, fun w hw => by have := hcl w (by simp [hw]); omega, by
          have hmm : ((Bs ++ [v]).map Lv.ch).dropLast = Bs.map Lv.ch := by simp
          have hml : (((Bs ++ [v]).map Lv.ch).getLast?).getD [] = v.ch := by simp
          rw [← hit, hdn0, IT_close hss rfl (by simp), hmm, hml]⟩
        repeat (first | refine i_len rfl ?_ | refine i_s rfl ?_ | refine i_lenm rfl rfl rfl ?_ | refine sw ?_ | refine i_s0 rfl ?_ | refine i_gt rfl ?_ | refine i_gf rfl ?_ | refine i_gd rfl ?_ | refine c_t rfl ?_ | refine c_f rfl ?_ | refine jc rfl ?_ | refine ja rfl rfl ?_ | refine jb rfl rfl ?_ | refine jg rfl rfl ?_ | refine jf rfl rfl ?_ | refine jd rfl rfl ?_ | refine je rfl rfl ?_ | refine jh rfl rfl ?_ | refine i_stb rfl ?_ | refine i_alloc rfl ?_ | refine i_box rfl rfl ?_ | refine i_nv rfl ?_)
        refine i_ima rfl rfl rfl rfl (by omega) (by omega) rfl ?_
        rw [hz]
        by_cases hv : v.ch = []
        · refine i_ldp (row := .sl .nil []) rfl rfl rfl (by rw [← row_nil hv]; exact hrow) rfl ?_
          refine i_frzn rfl ?_
          repeat (first | refine i_len rfl ?_ | refine i_s rfl ?_ | refine i_lenm rfl rfl rfl ?_ | refine sw ?_ | refine i_s0 rfl ?_ | refine i_gt rfl ?_ | refine i_gf rfl ?_ | refine i_gd rfl ?_ | refine c_t rfl ?_ | refine c_f rfl ?_ | refine jc rfl ?_ | refine ja rfl rfl ?_ | refine jb rfl rfl ?_ | refine jg rfl rfl ?_ | refine jf rfl rfl ?_ | refine jd rfl rfl ?_ | refine je rfl rfl ?_ | refine jh rfl rfl ?_ | refine i_stb rfl ?_ | refine i_alloc rfl ?_ | refine i_box rfl rfl ?_ | refine i_nv rfl ?_)
          refine i_smh (k1 := .i64) (m := 0) (len := (Bs ++ [v]).length) (n := ((Bs ++ [v]).length : Int) - 1) rfl rfl rfl rfl rfl (by omega) (by omega) (by omega) rfl ?_
          repeat (first | refine i_len rfl ?_ | refine i_s rfl ?_ | refine i_lenm rfl rfl rfl ?_ | refine sw ?_ | refine i_s0 rfl ?_ | refine i_gt rfl ?_ | refine i_gf rfl ?_ | refine i_gd rfl ?_ | refine c_t rfl ?_ | refine c_f rfl ?_ | refine jc rfl ?_ | refine ja rfl rfl ?_ | refine jb rfl rfl ?_ | refine jg rfl rfl ?_ | refine jf rfl rfl ?_ | refine jd rfl rfl ?_ | refine je rfl rfl ?_ | refine jh rfl rfl ?_ | refine i_stb rfl ?_ | refine i_alloc rfl ?_ | refine i_box rfl rfl ?_ | refine i_nv rfl ?_)
          exact e_end (.inl ⟨rfl, ⟨[], v.ch⟩, r, Bs, tok, fitY hlo ⟨rfl, rfl, rfl, hm5, congrArg V.bool hdn0, hI1, rfl, trivial⟩ ⟨rfl, rfl, rfl, (by show _ = Blk.box (.agg [.str [], .sl .p (v.ch.map i64V)]); rw [hv]; rfl), trivial⟩ (dynLow FX_lt hlv fun j hj => by rw [upt_ne _ _ (hneX _ (by decide)), upt_ne _ _ (hneX _ (by decide))]) rfl⟩)
        · refine i_ldp (row := .rsl v.b v.ch.length v.c) rfl rfl rfl (by rw [← row_eq hv]; exact hrow) rfl ?_
          refine i_frzs (nm := nmL BX (2 * Bs.length + v.par)) (l := v.cs) (m := 1) (v.ch.map i64V) rfl (by rw [upt_ne _ _ (hneX _ (by decide))]; exact st_top FX_lt hlv hv) (by simp) (fun row hr => by obtain ⟨x, _, rfl⟩ := List.mem_map.1 hr; rfl) (by rw [flat_map1]; simp [i64V, pureB]) (by rw [flat_map1]; unfold Lv.cs; rw [Nat.mul_one, List.take_left' (by simp)]) ?_
          refine wi_fr ?_
          repeat (first | refine i_len rfl ?_ | refine i_s rfl ?_ | refine i_lenm rfl rfl rfl ?_ | refine sw ?_ | refine i_s0 rfl ?_ | refine i_gt rfl ?_ | refine i_gf rfl ?_ | refine i_gd rfl ?_ | refine c_t rfl ?_ | refine c_f rfl ?_ | refine jc rfl ?_ | refine ja rfl rfl ?_ | refine jb rfl rfl ?_ | refine jg rfl rfl ?_ | refine jf rfl rfl ?_ | refine jd rfl rfl ?_ | refine je rfl rfl ?_ | refine jh rfl rfl ?_ | refine i_stb rfl ?_ | refine i_alloc rfl ?_ | refine i_box rfl rfl ?_ | refine i_nv rfl ?_)
          refine i_smh (k1 := .i64) (m := 0) (len := (Bs ++ [v]).length) (n := ((Bs ++ [v]).length : Int) - 1) rfl rfl rfl rfl rfl (by omega) (by omega) (by omega) rfl ?_
          repeat (first | refine i_len rfl ?_ | refine i_s rfl ?_ | refine i_lenm rfl rfl rfl ?_ | refine sw ?_ | refine i_s0 rfl ?_ | refine i_gt rfl ?_ | refine i_gf rfl ?_ | refine i_gd rfl ?_ | refine c_t rfl ?_ | refine c_f rfl ?_ | refine jc rfl ?_ | refine ja rfl rfl ?_ | refine jb rfl rfl ?_ | refine jg rfl rfl ?_ | refine jf rfl rfl ?_ | refine jd rfl rfl ?_ | refine je rfl rfl ?_ | refine jh rfl rfl ?_ | refine i_stb rfl ?_ | refine i_alloc rfl ?_ | refine i_box rfl rfl ?_ | refine i_nv rfl ?_)
          exact e_end (.inl ⟨rfl, ⟨[], v.ch⟩, r, Bs, tok, fitY hlo ⟨rfl, rfl, rfl, hm5, congrArg V.bool hdn0, hI1, rfl, trivial⟩ ⟨rfl, rfl, rfl, rfl, trivial⟩ (dynLow FX_lt hlv fun j hj => by rw [upt_ne _ _ (hneX _ (by decide)), fr_at, upt_ne _ _ (fun e => by have := nmL_inj e; omega), upt_ne _ _ (hneX _ (by decide))]) rfl⟩)
      · have hnc : ¬ (c.toNat : Int) = 41 := fun e => hc41 (h41.1 e)
        have hL12 : L.length ≠ 12 := fun e => hnd ⟨hnc, by omega⟩
        have hsym : symB c = true := by
          cases hq : symB c with
          | true => rfl
          | false => exact absurd (.inr (.inr ⟨hc40, hc41, hq⟩)) hnb'
        have hD := tw_pos (c := c) (r := r) hsym
        have htd : ((c :: r).takeWhile symB).length + ((c :: r).dropWhile symB).length = (c :: r).length := by rw [← List.length_append, List.takeWhile_append_dropWhile]
        have hds : (c :: r).dropWhile symB <:+ t := (List.dropWhile_suffix _).trans hs2
        refine c_seq ?_
        refine c_ops ?_
        refine i_s rfl ?_
        refine i_s rfl ?_
        refine i_nil ?_
        refine e_seq ?_
        refine c_cut0 ?_
        refine c_cond rfl (fun h => ?_) (fun h => ?_)
        · exact absurd (by simpa using h) hnc
        clear hSy
        refine c_seq ?_
        refine c_ops ?_
        refine i_s rfl ?_
        refine i_s rfl ?_
        refine i_nil ?_
        refine e_seq ?_
        refine c_cut0 ?_
        refine c_seq ?_
        refine c_if noH_mono (fun ρ' σ' => Fits [] (EZ t out gen L.length ((t.length : Int) - ((c :: r).dropWhile symB).length) ((t.length : Int) - (c :: r).length)) (FY out gen rows ⟨[], []⟩ ++ dyn BX 0 L) ρ' σ') ?_ ?_
        · refine c_block ?_
          refine c_lp (fun s' : List UInt8 => EZ t out gen L.length ((t.length : Int) - s'.length) ((t.length : Int) - (c :: r).length)) (fun _ => FY out gen rows ⟨[], []⟩ ++ dyn BX 0 L) (fun s' => s' <:+ t ∧ s'.dropWhile symB = (c :: r).dropWhile symB) (fun s' => s'.length) (c :: r) ⟨hs2, rfl⟩
            (fitY hlv ⟨rfl, rfl, rfl, rfl, congrArg V.bool hdn0, rfl, rfl, rfl, trivial⟩ ⟨rfl, rfl, rfl, rfl, trivial⟩ (dyn_keep hlv (dyn_self hlv) (fun j => upt_ne _ _ (hneX j (by decide)))) rfl) fun s' hs' => ?_
          obtain ⟨hs3, hs4⟩ := hs'
          have hle3 := hs3.length_le
          have fitz : ∀ (E : List (Nat × V)) (ρ : Env) (σ : Store), closedE ((FY out gen rows ⟨[], []⟩ ++ dyn BX 0 L).map (·.1)) E = true → FitsE E ρ → σ = stOf (FY out gen rows ⟨[], []⟩ ++ dyn BX 0 L) → Fits [] E (FY out gen rows ⟨[], []⟩ ++ dyn BX 0 L) ρ σ := fun E ρ σ h0 h1 h2 => by
            subst h2
            exact fitY hlv h1 ⟨rfl, rfl, rfl, rfl, trivial⟩ (dyn_selfY hlv) h0
          clear hix fit hself
          cases s' with
          | nil =>
            have hs5 : (c :: r).dropWhile symB = [] := hs4.symm
            rw [hs5]
            repeat' (first | refine i_len rfl ?_ | refine i_s rfl ?_ | refine i_lenm rfl rfl rfl ?_ | refine sw ?_ | refine i_s0 rfl ?_ | refine i_gt rfl ?_ | refine i_gf rfl ?_ | refine i_gd rfl ?_ | refine c_t rfl ?_ | refine c_f rfl ?_ | refine jc rfl ?_ | refine ja rfl rfl ?_ | refine jb rfl rfl ?_ | refine jg rfl rfl ?_ | refine jf rfl rfl ?_ | refine jd rfl rfl ?_ | refine je rfl rfl ?_ | refine jh rfl rfl ?_ | refine i_stb rfl ?_ | refine i_alloc rfl ?_ | refine i_box rfl rfl ?_ | refine i_nv rfl ?_ | (refine sp ?_ ?_ <;> try intro h) | fail)
            all_goals first
              | (exfalso; simp at *; done)
              | exact e_end (.inl ⟨rfl, fitz _ _ _ rfl ⟨rfl, rfl, rfl, rfl, rfl, rfl, rfl, rfl, trivial⟩ rfl⟩)
          | cons c' r' =>
            have hix := suf_get hs3 rfl
            have hlr' : r'.length + 1 ≤ t.length := by simpa using hle3
            have hSy := f_R1_SymbolByte c'
            have fin : V.int .i64 ((t.length : Int) - (c' :: r').length + 1) = .int .i64 ((t.length : Int) - r'.length) := by simp only [List.length_cons]; congr 1; omega
            cases hcs : symB c' with
            | true =>
              rw [hcs] at hSy
              have hr2 : r' <:+ t := (List.suffix_cons c' r').trans hs3
              have hr3 : r'.dropWhile symB = (c :: r).dropWhile symB := by rw [← hs4, List.dropWhile_cons_of_pos hcs]
              repeat' (first | refine i_len rfl ?_ | refine i_s rfl ?_ | refine i_lenm rfl rfl rfl ?_ | refine sw ?_ | refine i_s0 rfl ?_ | refine i_gt rfl ?_ | refine i_gf rfl ?_ | refine i_gd rfl ?_ | refine c_t rfl ?_ | refine c_f rfl ?_ | refine jc rfl ?_ | refine ja rfl rfl ?_ | refine jb rfl rfl ?_ | refine jg rfl rfl ?_ | refine jf rfl rfl ?_ | refine jd rfl rfl ?_ | refine je rfl rfl ?_ | refine jh rfl rfl ?_ | refine i_stb rfl ?_ | refine i_alloc rfl ?_ | refine i_box rfl rfl ?_ | refine i_nv rfl ?_ | (refine sp ?_ ?_ <;> try intro h) | refine sf rfl rfl hSy ?_ | refine i_ix rfl rfl (by simp only [List.length_cons]; omega) hix ?_ | refine i_add rfl rfl (by simp only [InR, List.length_cons]; omega) ?_)
              all_goals first
                | (exfalso; clear hSy; simp at *; done)
                | (exfalso; clear hSy; simp at *; omega)
                | exact e_lp r' ⟨hr2, hr3⟩ (by simp) (fitz _ _ _ rfl ⟨rfl, rfl, rfl, rfl, rfl, fin, rfl, rfl, trivial⟩ rfl)
            | false =>
              rw [hcs] at hSy
              have hst : (c :: r).dropWhile symB = c' :: r' := by rw [← hs4, List.dropWhile_cons_of_neg (by simp [hcs])]
              rw [hst]
              repeat' (first | refine i_len rfl ?_ | refine i_s rfl ?_ | refine i_lenm rfl rfl rfl ?_ | refine sw ?_ | refine i_s0 rfl ?_ | refine i_gt rfl ?_ | refine i_gf rfl ?_ | refine i_gd rfl ?_ | refine c_t rfl ?_ | refine c_f rfl ?_ | refine jc rfl ?_ | refine ja rfl rfl ?_ | refine jb rfl rfl ?_ | refine jg rfl rfl ?_ | refine jf rfl rfl ?_ | refine jd rfl rfl ?_ | refine je rfl rfl ?_ | refine jh rfl rfl ?_ | refine i_stb rfl ?_ | refine i_alloc rfl ?_ | refine i_box rfl rfl ?_ | refine i_nv rfl ?_ | (refine sp ?_ ?_ <;> try intro h) | refine sf rfl rfl hSy ?_ | refine i_ix rfl rfl (by simp only [List.length_cons]; omega) hix ?_)
              all_goals first
                | (exfalso; clear hSy; simp at *; done)
                | (exfalso; clear hSy; simp at *; omega)
                | exact e_end (.inl ⟨rfl, fitz _ _ _ rfl ⟨rfl, rfl, rfl, rfl, rfl, rfl, rfl, rfl, trivial⟩ rfl⟩)
        rintro ρ' σ' g' hf0
        refine e_seq ?_
        refine c_cut _ _ hf0 ?_
        clear hf0 ρ' σ'
        have hdle := hds.length_le
        have hlong : ((c :: r).takeWhile symB).length > 12 → itF t = ⟨1, (t.length : Int) - (c :: r).length⟩ ∧ itL t = [] := fun h => by
          rw [hdn0, IT_long hss rfl (by rw [List.length_map]; exact hL12) hc40 hc41 hsym h] at hit
          exact it_code h4 hit.symm (by simp)
        have hsl : (t.take ((t.length : Int) - ((c :: r).dropWhile symB).length).toNat).drop ((t.length : Int) - (c :: r).length).toNat = (c :: r).takeWhile symB := by
          obtain ⟨pre, hpre⟩ := hs2
          have hpl := congrArg List.length hpre
          rw [List.length_append] at hpl
          rw [show ((t.length : Int) - ((c :: r).dropWhile symB).length).toNat = pre.length + ((c :: r).takeWhile symB).length from by omega, show ((t.length : Int) - (c :: r).length).toNat = pre.length from by omega, ← hpre, List.take_length_add_append, List.drop_left]
          conv => lhs; rw [← List.takeWhile_append_dropWhile (p := symB) (l := c :: r)]
          rw [List.take_left' (by rw [List.takeWhile_append_dropWhile])]
        generalize hW : (c :: r).takeWhile symB = W at *
        generalize hDD : (c :: r).dropWhile symB = D at *
        refine c_seq ?_
        refine c_if noH_mono (fun ρ' σ' => ¬ W.length > 12 ∧ Fits [] (EZ t out gen L.length ((t.length : Int) - D.length) ((t.length : Int) - (c :: r).length)) (FY out gen rows ⟨[], []⟩ ++ dyn BX 0 L) ρ' σ') ?_ ?_
        · repeat' (first | refine i_len rfl ?_ | refine i_s rfl ?_ | refine i_lenm rfl rfl rfl ?_ | refine sw ?_ | refine i_s0 rfl ?_ | refine i_gt rfl ?_ | refine i_gf rfl ?_ | refine i_gd rfl ?_ | refine c_t rfl ?_ | refine c_f rfl ?_ | refine jc rfl ?_ | refine ja rfl rfl ?_ | refine jb rfl rfl ?_ | refine jg rfl rfl ?_ | refine jf rfl rfl ?_ | refine jd rfl rfl ?_ | refine je rfl rfl ?_ | refine jh rfl rfl ?_ | refine i_stb rfl ?_ | refine i_alloc rfl ?_ | refine i_box rfl rfl ?_ | refine i_nv rfl ?_ | (refine sp ?_ ?_ <;> try intro h) | refine sf rfl rfl (f_R1_At _ _) ?_ | refine i_sub rfl rfl (by simp only [InR]; omega) ?_)
          all_goals simp at h
          all_goals have hcr : (c :: r).length = r.length + 1 := rfl
          all_goals first
            | (have hb := hlong (by omega)
               rw [hb.1, hb.2]
               exact e_ret (.inr ⟨rfl, .inr ⟨rfl, rfl, _, rfl, rfl⟩⟩))
            | exact e_end (.inl ⟨rfl, by omega, fitY hlv ⟨rfl, rfl, rfl, rfl, rfl, rfl, rfl, rfl, trivial⟩ ⟨rfl, rfl, rfl, rfl, trivial⟩ (dyn_selfY hlv) rfl⟩)
        rintro ρ' σ' g' ⟨hns, hf0⟩
        refine e_seq ?_
        refine c_cut _ _ hf0 ?_
        clear hf0 ρ' σ' hlong
        repeat (first | refine i_len rfl ?_ | refine i_s rfl ?_ | refine i_lenm rfl rfl rfl ?_ | refine sw ?_ | refine i_s0 rfl ?_ | refine i_gt rfl ?_ | refine i_gf rfl ?_ | refine i_gd rfl ?_ | refine c_t rfl ?_ | refine c_f rfl ?_ | refine jc rfl ?_ | refine ja rfl rfl ?_ | refine jb rfl rfl ?_ | refine jg rfl rfl ?_ | refine jf rfl rfl ?_ | refine jd rfl rfl ?_ | refine je rfl rfl ?_ | refine jh rfl rfl ?_ | refine i_stb rfl ?_ | refine i_alloc rfl ?_ | refine i_box rfl rfl ?_ | refine i_nv rfl ?_)
        refine i_ssh rfl rfl rfl (by omega) (by omega) (by omega) ?_
        rw [hsl]
        repeat (first | refine i_len rfl ?_ | refine i_s rfl ?_ | refine i_lenm rfl rfl rfl ?_ | refine sw ?_ | refine i_s0 rfl ?_ | refine i_gt rfl ?_ | refine i_gf rfl ?_ | refine i_gd rfl ?_ | refine c_t rfl ?_ | refine c_f rfl ?_ | refine jc rfl ?_ | refine ja rfl rfl ?_ | refine jb rfl rfl ?_ | refine jg rfl rfl ?_ | refine jf rfl rfl ?_ | refine jd rfl rfl ?_ | refine je rfl rfl ?_ | refine jh rfl rfl ?_ | refine i_stb rfl ?_ | refine i_alloc rfl ?_ | refine i_box rfl rfl ?_ | refine i_nv rfl ?_)
        refine e_end (.inl ⟨rfl, ⟨W, []⟩, D, L, ⟨hds, by simp only [List.length_cons] at *; omega, hlv, hLl, hrws, by simp only [List.length_cons] at *; omega, fun w hw => by have := hcl w hw; simp only [List.length_cons] at *; omega, ?_⟩, fitY hlv ⟨rfl, rfl, rfl, rfl, rfl, rfl, rfl, trivial⟩ ⟨rfl, rfl, rfl, rfl, trivial⟩ (dyn_keep hlv (dyn_selfY hlv) (fun j => upt_ne _ _ (hneX j (by decide)))) rfl⟩)
        rw [← hit, hdn0, IT_sym hss rfl (by rw [List.length_map]; exact hL12) hc40 hc41 hsym (by rw [hW]; exact hns), hW, hDD]
    rintro ρ' σ' g' ⟨n, s3, L3, tk, hf0⟩
    refine e_seq ?_
    refine c_cut _ _ hf0 ?_
    clear hf0 ρ' σ' hself fit hix hI hI1 hnb' hnd hSy hit hlv hrws hcl hLl hdnL hc40
    obtain ⟨hs3, hlt, hlv3, hlen3, hrws3, hol3, hcl3, hit3⟩ := tk
    have hs3l := hs3.length_le
    by_cases hL3 : L3 = []
    · subst hL3
      repeat (first | refine i_len rfl ?_ | refine i_s rfl ?_ | refine i_lenm rfl rfl rfl ?_ | refine sw ?_ | refine i_s0 rfl ?_ | refine i_gt rfl ?_ | refine i_gf rfl ?_ | refine i_gd rfl ?_ | refine c_t rfl ?_ | refine c_f rfl ?_ | refine jc rfl ?_ | refine ja rfl rfl ?_ | refine jb rfl rfl ?_ | refine jg rfl rfl ?_ | refine jf rfl rfl ?_ | refine jd rfl rfl ?_ | refine je rfl rfl ?_ | refine jh rfl rfl ?_ | refine i_stb rfl ?_ | refine i_alloc rfl ?_ | refine i_box rfl rfl ?_ | refine i_nv rfl ?_)
      refine i_appM (c := n) rfl rfl rfl rfl rfl (by omega) (by omega) ?_
      repeat (first | refine i_len rfl ?_ | refine i_s rfl ?_ | refine i_lenm rfl rfl rfl ?_ | refine sw ?_ | refine i_s0 rfl ?_ | refine i_gt rfl ?_ | refine i_gf rfl ?_ | refine i_gd rfl ?_ | refine c_t rfl ?_ | refine c_f rfl ?_ | refine jc rfl ?_ | refine ja rfl rfl ?_ | refine jb rfl rfl ?_ | refine jg rfl rfl ?_ | refine jf rfl rfl ?_ | refine jd rfl rfl ?_ | refine je rfl rfl ?_ | refine jh rfl rfl ?_ | refine i_stb rfl ?_ | refine i_alloc rfl ?_ | refine i_box rfl rfl ?_ | refine i_nv rfl ?_)
      refine e_lp ⟨s3, out ++ [n], [], rows, gen, true⟩ ⟨hs3, ?_, fun v hv => (by cases hv), by simp, by simp, by rw [List.length_append, List.length_singleton]; exact hol3, fun v hv => (by cases hv), fun _ => rfl⟩ hlt
        (fitX (L := []) (fun v hv => (by cases hv)) ⟨rfl, rfl, rfl, rfl, rfl, rfl, trivial⟩ ⟨rfl, (by show Blk.vec _ = Blk.vec _; rw [List.length_append]; rfl), rfl, trivial⟩ trivial rfl)
      show IT s3 (out ++ [n]) [] true = _
      rw [hit3, if_pos (show List.map Lv.ch [] = [] from rfl)]
    · obtain ⟨B, u, rfl⟩ : ∃ B u, L3 = B ++ [u] := ⟨L3.dropLast, L3.getLast hL3, (List.dropLast_concat_getLast hL3).symm⟩
      have hrow := rowAt hrws3
      have hln : (B ++ [u]).length = B.length + 1 := by simp
      have hz : 0 + (((B ++ [u]).length : Int) - 1).toNat = B.length := by omega
      have huo := hlv3 u (by simp)
      have hcu := hcl3 u (by simp)
      have hlow : ∀ v ∈ B, LvOk v := fun v hv => hlv3 v (by simp [hv])
      have hj : (((out ++ [n]).length : Int) - 1) = (out.length : Int) := by rw [List.length_append, List.length_singleton]; omega
      have hne0 : ¬ ((B ++ [u]).length : Int) = 0 := by omega
      have hmm : ∀ (b c p : Nat), (B ++ [(⟨u.ch ++ [(out.length : Int)], b, c, p⟩ : Lv)]).map Lv.ch = pushO ((B ++ [u]).map Lv.ch) out.length := fun b c p => by simp only [List.map_append, List.map_cons, List.map_nil, pushO_snoc]
      have itk : ∀ (b c p : Nat), IT s3 (out ++ [n]) ((B ++ [(⟨u.ch ++ [(out.length : Int)], b, c, p⟩ : Lv)]).map Lv.ch) false = IT t [] [] false := fun b c p => by rw [hit3, if_neg (by simp), hmm]
      have sok : ∀ (b c p : Nat), p < 2 → u.ch.length + 1 ≤ c → SXok t ⟨s3, out ++ [n], B ++ [⟨u.ch ++ [(out.length : Int)], b, c, p⟩], rows.set B.length (.rsl b (u.ch.length + 1) c), gen, false⟩ := fun b c p hp hc =>
        ⟨hs3, itk b c p, allSnoc hlow ⟨hp, by simpa using hc⟩, by simp at *; omega, by
          have e := rwSet (u' := ⟨u.ch ++ [(out.length : Int)], b, c, p⟩) hrws3
          rw [row_eq (by simp)] at e
          simpa using e, by simp; omega, allSnoc (fun v hv => by have := hcl3 v (by simp [hv]); simp; omega) (by simp; omega), fun h => by cases h⟩
      repeat (first | refine i_len rfl ?_ | refine i_s rfl ?_ | refine i_lenm rfl rfl rfl ?_ | refine sw ?_ | refine i_s0 rfl ?_ | refine i_gt rfl ?_ | refine i_gf rfl ?_ | refine i_gd rfl ?_ | refine c_t rfl ?_ | refine c_f rfl ?_ | refine jc rfl ?_ | refine ja rfl rfl ?_ | refine jb rfl rfl ?_ | refine jg rfl rfl ?_ | refine jf rfl rfl ?_ | refine jd rfl rfl ?_ | refine je rfl rfl ?_ | refine jh rfl rfl ?_ | refine i_stb rfl ?_ | refine i_alloc rfl ?_ | refine i_box rfl rfl ?_ | refine i_nv rfl ?_)
      refine i_appM (c := n) rfl rfl rfl rfl rfl (by omega) (by omega) ?_
      repeat (first | refine i_len rfl ?_ | refine i_s rfl ?_ | refine i_lenm rfl rfl rfl ?_ | refine sw ?_ | refine i_s0 rfl ?_ | refine i_gt rfl ?_ | refine i_gf rfl ?_ | refine i_gd rfl ?_ | refine c_t rfl ?_ | refine c_f rfl ?_ | refine jc rfl ?_ | refine ja rfl rfl ?_ | refine jb rfl rfl ?_ | refine jg rfl rfl ?_ | refine jf rfl rfl ?_ | refine jd rfl rfl ?_ | refine je rfl rfl ?_ | refine jh rfl rfl ?_ | refine i_stb rfl ?_ | refine i_alloc rfl ?_ | refine i_box rfl rfl ?_ | refine i_nv rfl ?_)
      refine c_cond rfl (fun h => ?_) (fun h => ?_)
      · exfalso
        exact hne0 (by simpa using h)
      repeat (first | refine i_len rfl ?_ | refine i_s rfl ?_ | refine i_lenm rfl rfl rfl ?_ | refine sw ?_ | refine i_s0 rfl ?_ | refine i_gt rfl ?_ | refine i_gf rfl ?_ | refine i_gd rfl ?_ | refine c_t rfl ?_ | refine c_f rfl ?_ | refine jc rfl ?_ | refine ja rfl rfl ?_ | refine jb rfl rfl ?_ | refine jg rfl rfl ?_ | refine jf rfl rfl ?_ | refine jd rfl rfl ?_ | refine je rfl rfl ?_ | refine jh rfl rfl ?_ | refine i_stb rfl ?_ | refine i_alloc rfl ?_ | refine i_box rfl rfl ?_ | refine i_nv rfl ?_)
      refine i_ima rfl rfl rfl rfl (by omega) (by omega) rfl ?_
      rw [hz]
      by_cases hu : u.ch = []
      · refine i_ldp (row := .sl .nil []) rfl rfl rfl (by rw [← row_nil hu]; exact hrow) rfl ?_
        repeat (first | refine i_len rfl ?_ | refine i_s rfl ?_ | refine i_lenm rfl rfl rfl ?_ | refine sw ?_ | refine i_s0 rfl ?_ | refine i_gt rfl ?_ | refine i_gf rfl ?_ | refine i_gd rfl ?_ | refine c_t rfl ?_ | refine c_f rfl ?_ | refine jc rfl ?_ | refine ja rfl rfl ?_ | refine jb rfl rfl ?_ | refine jg rfl rfl ?_ | refine jf rfl rfl ?_ | refine jd rfl rfl ?_ | refine je rfl rfl ?_ | refine jh rfl rfl ?_ | refine i_stb rfl ?_ | refine i_alloc rfl ?_ | refine i_box rfl rfl ?_ | refine i_nv rfl ?_)
        rw [hj]
        refine i_apn (nmL BX (2 * B.length + 0)) rfl rfl (by simp) (fun row hr => by rw [List.mem_singleton.1 hr]; exact ⟨rfl, rfl⟩) (by show 1 * 8 ≤ _; decide) (by show 1 ≤ _; decide) (by rw [upt_ne _ _ (hneX _ (by decide))]; exact st_free FY_lt hlv3 (.inl hu) (by decide)) (tyX hlen3 (by decide)) fun b c hbc => ?_
        refine wi_fr ?_
        repeat (first | refine i_len rfl ?_ | refine i_s rfl ?_ | refine i_lenm rfl rfl rfl ?_ | refine sw ?_ | refine i_s0 rfl ?_ | refine i_gt rfl ?_ | refine i_gf rfl ?_ | refine i_gd rfl ?_ | refine c_t rfl ?_ | refine c_f rfl ?_ | refine jc rfl ?_ | refine ja rfl rfl ?_ | refine jb rfl rfl ?_ | refine jg rfl rfl ?_ | refine jf rfl rfl ?_ | refine jd rfl rfl ?_ | refine je rfl rfl ?_ | refine jh rfl rfl ?_ | refine i_stb rfl ?_ | refine i_alloc rfl ?_ | refine i_box rfl rfl ?_ | refine i_nv rfl ?_)
        refine i_ima rfl rfl rfl rfl (by omega) (by omega) rfl ?_
        rw [hz]
        refine i_stp (row := .sl .nil []) (row' := .rsl b 1 c) rfl rfl rfl (by rw [← row_nil hu]; exact hrow) rfl rfl ?_
        repeat (first | refine i_len rfl ?_ | refine i_s rfl ?_ | refine i_lenm rfl rfl rfl ?_ | refine sw ?_ | refine i_s0 rfl ?_ | refine i_gt rfl ?_ | refine i_gf rfl ?_ | refine i_gd rfl ?_ | refine c_t rfl ?_ | refine c_f rfl ?_ | refine jc rfl ?_ | refine ja rfl rfl ?_ | refine jb rfl rfl ?_ | refine jg rfl rfl ?_ | refine jf rfl rfl ?_ | refine jd rfl rfl ?_ | refine je rfl rfl ?_ | refine jh rfl rfl ?_ | refine i_stb rfl ?_ | refine i_alloc rfl ?_ | refine i_box rfl rfl ?_ | refine i_nv rfl ?_)
        have hbc' : u.ch.length + 1 ≤ c := by rw [hu]; exact hbc
        have sk1 := sok b c 0 (by decide) hbc'
        rw [show u.ch.length + 1 = 1 from by rw [hu]; rfl] at sk1
        refine e_lp _ sk1 hlt
          (fitX sk1.lv ⟨rfl, rfl, rfl, (by show V.msl _ _ _ _ = V.msl _ _ _ _; rw [List.length_append, List.length_append]; rfl), rfl, rfl, trivial⟩ ⟨rfl, (by show Blk.vec _ = Blk.vec _; rw [List.length_append]; rfl), rfl, trivial⟩ (dynTop (dynLow FY_lt hlv3 fun j hj => by rw [upt_ne _ _ (hneX _ (by decide)), fr_at, upt_ne _ _ (fun e => by have := nmL_inj e; omega), upt_ne _ _ (hneX _ (by decide))]) (fun _ => ?_)) rfl)
        show _ = Blk.box (.tag b (Lv.cs ⟨u.ch ++ [(out.length : Int)], b, c, 0⟩))
        rw [← csGrow (u := u), upt_ne _ _ (hneX _ (by decide)), fr_at, upt_self]
        simp [hu, Lv.cs]
        rfl
      · refine i_ldp (row := .rsl u.b u.ch.length u.c) rfl rfl rfl (by rw [← row_eq hu]; exact hrow) rfl ?_
        repeat (first | refine i_len rfl ?_ | refine i_s rfl ?_ | refine i_lenm rfl rfl rfl ?_ | refine sw ?_ | refine i_s0 rfl ?_ | refine i_gt rfl ?_ | refine i_gf rfl ?_ | refine i_gd rfl ?_ | refine c_t rfl ?_ | refine c_f rfl ?_ | refine jc rfl ?_ | refine ja rfl rfl ?_ | refine jb rfl rfl ?_ | refine jg rfl rfl ?_ | refine jf rfl rfl ?_ | refine jd rfl rfl ?_ | refine je rfl rfl ?_ | refine jh rfl rfl ?_ | refine i_stb rfl ?_ | refine i_alloc rfl ?_ | refine i_box rfl rfl ?_ | refine i_nv rfl ?_)
        rw [hj]
        refine i_apr (nmL BX (2 * B.length + u.par)) (l := u.cs) rfl rfl (by simp) (fun row hr => by rw [List.mem_singleton.1 hr]; exact ⟨rfl, rfl⟩) (by show (u.ch.length + 1) * 8 ≤ _; omega) (by show u.ch.length + 1 ≤ _; omega) (by rw [upt_ne _ _ (hneX _ (by decide))]; exact st_top FY_lt hlv3 hu) (by have := huo.2; simp [Lv.cs]; omega) (fun hr => ?_) (fun hg => ⟨nmL BX (2 * B.length + (1 - u.par)), by rw [upt_ne _ _ (hneX _ (by decide))]; exact st_free FY_lt hlv3 (.inr (by have := huo.1; omega)) (by omega), tyX hlen3 (by omega), fun b c hbc => ?_⟩)
        · replace hr : u.ch.length + 1 ≤ u.c := hr
          refine wi_fr ?_
          repeat (first | refine i_len rfl ?_ | refine i_s rfl ?_ | refine i_lenm rfl rfl rfl ?_ | refine sw ?_ | refine i_s0 rfl ?_ | refine i_gt rfl ?_ | refine i_gf rfl ?_ | refine i_gd rfl ?_ | refine c_t rfl ?_ | refine c_f rfl ?_ | refine jc rfl ?_ | refine ja rfl rfl ?_ | refine jb rfl rfl ?_ | refine jg rfl rfl ?_ | refine jf rfl rfl ?_ | refine jd rfl rfl ?_ | refine je rfl rfl ?_ | refine jh rfl rfl ?_ | refine i_stb rfl ?_ | refine i_alloc rfl ?_ | refine i_box rfl rfl ?_ | refine i_nv rfl ?_)
          refine i_ima rfl rfl rfl rfl (by omega) (by omega) rfl ?_
          rw [hz]
          refine i_stp (row := .rsl u.b u.ch.length u.c) (row' := .rsl u.b (u.ch.length + 1) u.c) rfl rfl rfl (by rw [← row_eq hu]; exact hrow) rfl rfl ?_
          repeat (first | refine i_len rfl ?_ | refine i_s rfl ?_ | refine i_lenm rfl rfl rfl ?_ | refine sw ?_ | refine i_s0 rfl ?_ | refine i_gt rfl ?_ | refine i_gf rfl ?_ | refine i_gd rfl ?_ | refine c_t rfl ?_ | refine c_f rfl ?_ | refine jc rfl ?_ | refine ja rfl rfl ?_ | refine jb rfl rfl ?_ | refine jg rfl rfl ?_ | refine jf rfl rfl ?_ | refine jd rfl rfl ?_ | refine je rfl rfl ?_ | refine jh rfl rfl ?_ | refine i_stb rfl ?_ | refine i_alloc rfl ?_ | refine i_box rfl rfl ?_ | refine i_nv rfl ?_)
          have sk1 := sok u.b u.c u.par huo.1 hr
          refine e_lp _ sk1 hlt
            (fitX sk1.lv ⟨rfl, rfl, rfl, (by show V.msl _ _ _ _ = V.msl _ _ _ _; rw [List.length_append, List.length_append]; rfl), rfl, rfl, trivial⟩ ⟨rfl, (by show Blk.vec _ = Blk.vec _; rw [List.length_append]; rfl), rfl, trivial⟩ (dynTop (dynLow FY_lt hlv3 fun j hj => by rw [upt_ne _ _ (hneX _ (by decide)), fr_at, upt_ne _ _ (fun e => by have := nmL_inj e; omega), upt_ne _ _ (hneX _ (by decide))]) (fun _ => ?_)) rfl)
          show _ = Blk.box (.tag u.b (Lv.cs ⟨u.ch ++ [(out.length : Int)], u.b, u.c, u.par⟩))
          rw [← csRoom hr, upt_ne _ _ (hneX _ (by decide)), fr_at, upt_self]
          rfl
        · replace hbc : u.ch.length + 1 ≤ c := hbc
          refine wi_fr ?_
          repeat (first | refine i_len rfl ?_ | refine i_s rfl ?_ | refine i_lenm rfl rfl rfl ?_ | refine sw ?_ | refine i_s0 rfl ?_ | refine i_gt rfl ?_ | refine i_gf rfl ?_ | refine i_gd rfl ?_ | refine c_t rfl ?_ | refine c_f rfl ?_ | refine jc rfl ?_ | refine ja rfl rfl ?_ | refine jb rfl rfl ?_ | refine jg rfl rfl ?_ | refine jf rfl rfl ?_ | refine jd rfl rfl ?_ | refine je rfl rfl ?_ | refine jh rfl rfl ?_ | refine i_stb rfl ?_ | refine i_alloc rfl ?_ | refine i_box rfl rfl ?_ | refine i_nv rfl ?_)
          refine i_ima rfl rfl rfl rfl (by omega) (by omega) rfl ?_
          rw [hz]
          refine i_stp (row := .rsl u.b u.ch.length u.c) (row' := .rsl b (u.ch.length + 1) c) rfl rfl rfl (by rw [← row_eq hu]; exact hrow) rfl rfl ?_
          repeat (first | refine i_len rfl ?_ | refine i_s rfl ?_ | refine i_lenm rfl rfl rfl ?_ | refine sw ?_ | refine i_s0 rfl ?_ | refine i_gt rfl ?_ | refine i_gf rfl ?_ | refine i_gd rfl ?_ | refine c_t rfl ?_ | refine c_f rfl ?_ | refine jc rfl ?_ | refine ja rfl rfl ?_ | refine jb rfl rfl ?_ | refine jg rfl rfl ?_ | refine jf rfl rfl ?_ | refine jd rfl rfl ?_ | refine je rfl rfl ?_ | refine jh rfl rfl ?_ | refine i_stb rfl ?_ | refine i_alloc rfl ?_ | refine i_box rfl rfl ?_ | refine i_nv rfl ?_)
          have sk1 := sok b c (1 - u.par) (by omega) hbc
          refine e_lp _ sk1 hlt
            (fitX sk1.lv ⟨rfl, rfl, rfl, (by show V.msl _ _ _ _ = V.msl _ _ _ _; rw [List.length_append, List.length_append]; rfl), rfl, rfl, trivial⟩ ⟨rfl, (by show Blk.vec _ = Blk.vec _; rw [List.length_append]; rfl), rfl, trivial⟩ (dynTop (dynLow FY_lt hlv3 fun j hj => by rw [upt_ne _ _ (hneX _ (by decide)), fr_at, upt_ne _ _ (fun e => by have := nmL_inj e; omega), upt_ne _ _ (hneX _ (by decide))]) (fun _ => ?_)) rfl)
          show _ = Blk.box (.tag b (Lv.cs ⟨u.ch ++ [(out.length : Int)], b, c, 1 - u.par⟩))
          rw [← csGrow (u := u), upt_ne _ _ (hneX _ (by decide)), fr_at, upt_self]
          rfl
end Hm
end
section
namespace Hm
open Go
theorem rd_valid {m d s b acc r n ch} (h : Rd m d s b acc r n ch) : ∀ (L : List Sx), (∀ j, j < n.length → L[b + j]? = n[j]?) → okTo L b → okTo L (b + n.length) ∧ (m = true → 1 ≤ n.length ∧ sz L (b + n.length - 1) = n.length ∧ dp L (b + n.length - 1) + d ≤ 12 ∧ (tx L (b + n.length - 1)).length + 1 + 2 * r.length ≤ 2 * s.length) ∧
    (m = false → ∃ nc, ch = acc ++ nc ∧ chn L ((b + n.length : Nat) : Int) nc.reverse = some (b : Int) ∧ (∀ c ∈ nc, dp L c.toNat + d + 1 ≤ 12) ∧ (joinF (nc.map fun c => tx L c.toNat)).length + 2 + 2 * r.length ≤ 2 * s.length ∧ (nc ≠ [] → (joinF (nc.map fun c => tx L c.toNat)).length + 3 + 2 * r.length ≤ 2 * s.length)) := by
  induction h with
  | @sym d s b acc w r h h0 ha hl hr hd =>
    intro L hL ho
    have hw := List.length_pos_iff.2 h0
    have hb : L[b]? = some ⟨w, []⟩ := by have := hL 0 (by simp); simpa using this
    have hx : chL L b = [] := by unfold chL; rw [hb]
    have hlow : lowTo L (b + 1) := fun j hj => by
      by_cases e : j = b
      · subst e; intro c hc; rw [hx] at hc; cases hc
      · exact ho.low j (by omega)
    have hsz := sz_eq hlow
    have hdp := dp_eq hlow
    have htx := tx_eq hlow hb
    rw [hx] at hsz hdp
    simp only [sumN, maxN, Nat.add_zero] at hsz hdp
    rw [if_neg h0] at htx
    refine ⟨fun j hj x hjx => ?_, fun _ => ?_, fun h => by cases h⟩
    · simp only [List.length_singleton] at hj
      by_cases e : j = b
      · subst e
        rw [hb] at hjx
        cases hjx
        refine ⟨?_, ⟨_, rfl⟩, by omega⟩
        unfold shapeC
        rw [if_neg h0, if_neg (by simp only [Bool.not_eq_false, symbolB, Bool.and_eq_true, decide_eq_true_eq, List.all_eq_true]; exact ⟨ha, by omega, hl⟩), if_neg (by simp)]
      · exact ho j (by omega) x hjx
    · have hk := (sk_suf s).length_le
      rw [h, List.length_append] at hk
      simp only [List.length_singleton, Nat.add_sub_cancel]
      rw [hsz, hdp, htx]
      refine ⟨Nat.le_refl _, rfl, by omega, ?_⟩
      simp only
      omega
  | @lst d s b acc r r' new ch h hd hi ih =>
    intro L hL ho
    obtain ⟨i1, _, i3⟩ := ih L (fun j hj => by have := hL j (by simp; omega); rwa [List.getElem?_append_left hj] at this) ho
    obtain ⟨nc, e1, e2, e3, e4, e5⟩ := i3 rfl
    rw [List.nil_append] at e1
    subst e1
    have hb : L[b + new.length]? = some ⟨[], ch⟩ := by have := hL new.length (by simp); simpa using this
    have hx : chL L (b + new.length) = ch := by unfold chL; rw [hb]
    have hce := chn_end e2
    have hlow : lowTo L (b + new.length + 1) := fun j hj => by
      by_cases e : j = b + new.length
      · subst e; intro c hc; rw [hx] at hc; have := hce.2 c (List.mem_reverse.2 hc); omega
      · exact i1.low j (by omega)
    have hsz := sz_eq hlow
    have hdp := dp_eq hlow
    have htx := tx_eq hlow hb
    rw [hx] at hsz hdp
    rw [if_pos rfl] at htx
    have hse := hce.1
    rw [sumN_rev] at hse
    have hmx : maxN (dp L) ch + d + 1 ≤ 12 := by
      have : ∀ (cs : List Int), (∀ c ∈ cs, dp L c.toNat + d + 1 ≤ 12) → maxN (dp L) cs + d + 1 ≤ 12 := by
        intro cs
        induction cs with
        | nil => intro _; simp only [maxN]; omega
        | cons c cs ih => intro h; have := ih fun c' h' => h c' (by simp [h']); have := h c (by simp); simp only [maxN]; omega
      exact this ch e3
    have hk := (sk_suf s).length_le
    rw [h] at hk
    simp only [List.length_cons] at hk
    refine ⟨fun j hj x hjx => ?_, fun _ => ?_, fun h => by cases h⟩
    · simp only [List.length_append, List.length_singleton] at hj
      by_cases e : j = b + new.length
      · subst e
        rw [hb] at hjx
        cases hjx
        exact ⟨by unfold shapeC; rw [if_pos rfl], ⟨_, e2⟩, by omega⟩
      · exact i1 j (by omega) x hjx
    · simp only [List.length_append, List.length_singleton]
      rw [show b + (new.length + 1) - 1 = b + new.length from by omega, hsz, hdp, htx]
      simp only [List.length_cons, List.length_append, List.length_nil]
      omega
  | @close d s b acc r h =>
    intro L hL ho
    have hk := (sk_suf s).length_le
    rw [h] at hk
    simp only [List.length_cons] at hk
    refine ⟨by simpa using ho, (by intro h; cases h), fun _ => ⟨[], by simp, by simp [chn], by simp, by simp [joinF]; omega, fun h => absurd rfl h⟩⟩
  | @next d s b acc r1 n1 r2 n2 ch h hi hj i1 i2 =>
    intro L hL ho
    obtain ⟨a1, a2, _⟩ := i1 L (fun j hj => by have := hL j (by simp; omega); rwa [List.getElem?_append_left hj] at this) ho
    obtain ⟨b1, b2, b3, b4⟩ := a2 rfl
    obtain ⟨c1, _, c3⟩ := i2 L (fun j hj => by
      have := hL (n1.length + j) (by simp; omega)
      rw [List.getElem?_append_right (by omega)] at this
      rw [Nat.add_assoc, this]
      congr 1
      omega) a1
    obtain ⟨nc, e1, e2, e3, e4, e5⟩ := c3 rfl
    have hk := (sk_suf s).length_le
    refine ⟨by rw [List.length_append, ← Nat.add_assoc]; exact c1, (by intro h; cases h), fun _ => ⟨(((b + n1.length : Nat) : Int) - 1) :: nc, by rw [e1]; simp, ?_, ?_, ?_, ?_⟩⟩
    · rw [List.reverse_cons, chn_snoc, List.length_append, ← Nat.add_assoc, e2]
      simp only
      rw [if_neg (by omega)]
      congr 1
      rw [show (((b + n1.length : Nat) : Int) - 1).toNat = b + n1.length - 1 from by omega, b2]
      omega
    · intro c hc
      rcases List.mem_cons.1 hc with rfl | hc
      · rw [show (((b + n1.length : Nat) : Int) - 1).toNat = b + n1.length - 1 from by omega]; omega
      · exact e3 c hc
    · cases nc with
      | nil =>
        simp only [List.map_cons, List.map_nil, joinF, List.length_nil] at e4 ⊢
        rw [show (((b + n1.length : Nat) : Int) - 1).toNat = b + n1.length - 1 from by omega]
        omega
      | cons c2 cs =>
        have := e5 (by simp)
        simp only [List.map_cons, joinF, List.length_append, List.length_cons] at this ⊢
        rw [show (((b + n1.length : Nat) : Int) - 1).toNat = b + n1.length - 1 from by omega]
        omega
    · intro _
      cases nc with
      | nil =>
        simp only [List.map_cons, List.map_nil, joinF, List.length_nil] at e4 ⊢
        rw [show (((b + n1.length : Nat) : Int) - 1).toNat = b + n1.length - 1 from by omega]
        omega
      | cons c2 cs =>
        have := e5 (by simp)
        simp only [List.map_cons, joinF, List.length_append, List.length_cons] at this ⊢
        rw [show (((b + n1.length : Nat) : Int) - 1).toNat = b + n1.length - 1 from by omega]
        omega
theorem len_sumN {f : Nat → Nat} (hf : ∀ i, 1 ≤ f i) : ∀ l : List Int, l.length ≤ sumN f l
  | [] => Nat.le_refl _
  | a :: l => by have := len_sumN hf l; have := hf a.toNat; simp only [List.length_cons, sumN]; omega
theorem SxOk.mem {l : List Sx} (h : SxOk l) : SxsOk l := by
  have hl := h.len
  have key : ∀ x ∈ l, x.sym.length ≤ 12 ∧ x.ch.length ≤ 300 ∧ ∀ c ∈ x.ch, 0 ≤ c ∧ c < 300 := by
    intro x hx
    obtain ⟨i, hi, rfl⟩ := List.mem_iff_getElem.1 hx
    have hg := List.getElem?_eq_getElem hi
    have hv := h.node i hi _ hg
    have hlow := hv.low hg
    have hsz := sz_eq (fun j hj => h.node.low j (by omega) : lowTo l (i + 1))
    have hle := sz_le i l.length h.node hi
    have := len_sumN (fun j => sz_pos l j) (chL l i)
    unfold Hm.low at hlow
    rw [chL_get hg] at *
    refine ⟨?_, by omega, fun c hc => by have := hlow c hc; omega⟩
    have h1 := hv.shape
    unfold shapeC at h1
    split at h1
    · rename_i e; rw [e]; simp
    · split at h1
      · cases h1
      · rename_i h2
        simp only [Bool.not_eq_false, symbolB, Bool.and_eq_true, decide_eq_true_eq] at h2
        exact h2.2.2
  exact ⟨by omega, fun x hx => by have := key x hx; omega, fun x hx c hc => by have := (key x hx).2.2 c hc; exact ⟨by show (-9223372036854775808 : Int) ≤ c; omega, by show c ≤ 9223372036854775807; omega⟩⟩
theorem read_valid {t : List UInt8} (h : readF t = okF) : SxOk (readL t) ∧ (tx (readL t) ((readL t).length - 1)).length ≤ 2 * t.length := by
  obtain ⟨h1, h2, h3, h4⟩ := read_ok h
  have hR := rd_of _ true 0 t 0 [] (by simp) h2
  have hL : readL t = (rdQ t).new := by unfold readL; rw [if_pos h]
  have hv := rd_valid hR (rdQ t).new (fun j hj => by rw [Nat.zero_add]; rfl) (fun j hj => by omega)
  obtain ⟨v1, v2, _⟩ := hv
  obtain ⟨w1, w2, w3, w4⟩ := v2 rfl
  rw [hL]
  simp only [Nat.zero_add] at v1 w2 w3 w4
  refine ⟨⟨⟨w1, h4⟩, v1, w2⟩, ?_⟩
  have e : prs (2 * t.length + 1) true 0 t 0 [] = rdQ t := rfl
  rw [e] at w4
  omega
end Hm
end
section
namespace Hm
open Go
set_option maxRecDepth 100000
set_option maxHeartbeats 4000000
def c_L1_SexprReadMatchesSpec : Cmd :=
 (qS [qb 2 false]
 (qT (qS [qk 7 4 [], qq 8 (.not (.t 7))]
 (.cond (.t 8) (.seq (.ops [qb 2 false]) .ret) .skip))
 (qS [qm 10 0, qk 11 5 [10], qm 9 11, qq 12 (.extract (.t 9) 0), qq 13 (.extract (.t 9) 1), qq 4 (.alloc 192258 (.agg [.int .i64 0, .int .i64 0])), qm 3 12, qs 2 4 13]
 (qS [qm 15 0, qk 16 6 [15], qm 14 16, qq 17 (.extract (.t 14) 0), qq 18 (.extract (.t 14) 1), qq 6 (.alloc 192386 (.agg [.int .i64 0, .int .i64 0])), qm 5 17, qs 2 6 18]
 (.seq (.ops [qL 19 2 4, qL 20 2 6, qq 21 (.bin .eql true [.i, .i] (.t 19) (.t 20)), qm 22 21, qg 23 22 true (.mov (.t 3)), qg 24 22 true (.mov (.t 5)), qg 25 22 true (.call .f (.c (.fn 7 [])) [.t 23, .t 24]), qq 26 (.pick (.t 22) (.t 25) (.c (.bool false))), qm 2 26]) .ret)))))
def r_L1_SexprReadMatchesSpec : List RVar := [.tmp 2]
def n_L1_SexprReadMatchesSpec : Nat := 27
theorem k_L1_SexprReadMatchesSpec : chkFn Go.Proofs.Try.prog 3 n_L1_SexprReadMatchesSpec r_L1_SexprReadMatchesSpec c_L1_SexprReadMatchesSpec = true := by kernel_rfl
theorem f_L1_SexprReadMatchesSpec (t : List UInt8) (ht : t.length ≤ 140737488351232) : Fc Go.Proofs.Try.prog 3 [.str t] (.bool true) := by
  have hT := f_L1_reads
  have hR := f_sexpr_Read t (by omega)
  have hS := f_R1_SexprOf t (by omega)
  obtain ⟨e1, e2⟩ := it_read t
  rw [e1, e2] at hS
  have hok : SxsOk (readL t) := by
    by_cases h : readF t = okF
    · exact (read_valid h).1.mem
    · have : readL t = [] := by unfold readL; rw [if_neg h]
      rw [this]
      exact ⟨by simp, by simp, by simp⟩
  have hE := f_R1_SameSexpr (readL t) (readL t) hok
  rw [decide_eq_true rfl] at hE
  clear e1 e2 hok
  generalize readL t = L at *
  generalize readF t = f at *
  refine Fn.step mixed k_L1_SexprReadMatchesSpec ?_
  repeat' (first | refine i_len rfl ?_ | refine i_s rfl ?_ | refine i_lenm rfl rfl rfl ?_ | refine sw ?_ | refine i_s0 rfl ?_ | refine i_gt rfl ?_ | refine i_gf rfl ?_ | refine i_gd rfl ?_ | refine c_t rfl ?_ | refine c_f rfl ?_ | refine jc rfl ?_ | refine ja rfl rfl ?_ | refine jb rfl rfl ?_ | refine jg rfl rfl ?_ | refine jf rfl rfl ?_ | refine jd rfl rfl ?_ | refine je rfl rfl ?_ | refine jh rfl rfl ?_ | refine i_stb rfl ?_ | refine i_alloc rfl ?_ | refine i_box rfl rfl ?_ | refine i_nv rfl ?_ | (refine sp ?_ ?_ <;> try intro h) | refine sf rfl rfl hT ?_ | refine sf rfl rfl hR ?_ | refine sf rfl rfl hS ?_ | refine sf rfl rfl hE ?_ | fail)
  all_goals first
    | exact e_ret ⟨rfl, _, rfl, rfl⟩
    | (refine e_ret ⟨rfl, _, rfl, congrArg V.bool ?_⟩; first | rfl | (simp; done))
    | (exfalso; clear hT hR hS hE; simp at *; done)
end Hm
end
