/- Part VHA of the proof. -/
import Derived.Test.YtkbiopblaggdoaaGreatDoorVPB
import Derived.Shelf.Small.Strs
import Derived.Lib.IndexLaws
import Derived.Shelf.Strings.Builder1
import Derived.Shelf.Strconv.Itoa3
import Derived.Shelf.Strconv.AtoiAll
set_option linter.unusedVariables false
set_option linter.unusedSimpArgs false
section
namespace Go.Proofs
open Go.Shelf
def Tryz.ix_ren : Go.Shelf.Ren := ⟨fun | 137 => 121 | 217 => 149 | 266 => 163 | _ => 0, fun | 3 => 3 | 5 => 5 | 9 => 9 | _ => 0, fun x => x⟩
theorem Tryz.ix_lays : Lays.n137 Tryz.prog Tryz.ix_ren :=
 { mixed := by kernel_rfl,
   f137 := Tryz.func121.trans (congrArg some (by kernel_rfl)),
   f217 := Tryz.func149.trans (congrArg some (by kernel_rfl)),
   f266 := Tryz.func163.trans (congrArg some (by kernel_rfl)),
   t3 := Tryz.underlying3, a3 := Tryz.isAgg3, z3 := Tryz.sizeOf3, v3 := Tryz.zeroValue3,
   t5 := Tryz.underlying5, a5 := Tryz.isAgg5, z5 := Tryz.sizeOf5, v5 := Tryz.zeroValue5,
   t9 := Tryz.underlying9, a9 := Tryz.isAgg9, z9 := Tryz.sizeOf9, v9 := Tryz.zeroValue9 }
end Go.Proofs
namespace Hm
open Go
set_option maxRecDepth 100000
set_option maxHeartbeats 4000000
theorem u8leX (c : UInt8) : c.toNat ≤ 255 := by have := c.toNat_lt; omega
theorem ix_mem (s : List UInt8) (c : UInt8) : decide (Lib.indexByte s c ≥ 0) = decide (c ∈ s) := by
 have h1 := Lib.indexByte_ge s c
 rw [decide_eq_decide]
 constructor
 · intro h
   have := (Lib.indexByte_some (o := (Lib.indexByte s c).toNat) (l := s) (c := c) (by omega)).1
   exact List.mem_of_getElem? this
 · intro h
   obtain ⟨k, hk⟩ := List.getElem?_of_mem h
   by_cases e : Lib.indexByte s c = -1
   · exact absurd hk (Lib.indexByte_none e k)
   · omega
theorem f_strings_IndexByte (s : List UInt8) (c : UInt8) : Fc PG 121 [.str s, .int .u8 c.toNat] (.int .i64 (Lib.indexByte s c)) := ⟨⟨by kernel_rfl, fun w S xs hS _ hxs => by
 obtain ⟨hl, hr⟩ := hxs
 match xs, hl with
 | [x, y], _ =>
  have h0 := hr 0 _ x rfl rfl
  have h1 := hr 1 _ y rfl rfl
  cases h0
  cases h1
  refine ((callsIn_wide (n := 0)).2 (Go.Proofs.Any.strings_IndexByte Go.Proofs.Tryz.ix_lays ⟨s.toArray⟩ (c.toNat : Int) w)).mono fun e w' he => ?_
  obtain ⟨rfl, rfl⟩ := he
  refine ⟨_, S, rfl, ?_, fun b h => .inl h, hS, ⟨Nat.le_refl _, rfl, rfl, Out.refl _, fun _ _ => rfl⟩⟩
  have e1 : ((c.toNat : Int).toNat.toUInt8) = c := by simp
  rw [e1]
  exact .int _ _⟩⟩
def c_sexpr_isSymbolByte : Cmd :=
 (qS [qb 2 false]
 (.seq (.ops [qm 3 0, qq 4 (.bin .geq false [] (.t 3) (.c (.int .u8 97))), qm 5 4, qg 6 5 true (.mov (.t 0)), qg 7 5 true (.bin .leq false [] (.t 6) (.c (.int .u8 122))), qq 8 (.pick (.t 5) (.t 7) (.c (.bool false))), qm 9 8, qg 10 9 false (.mov (.t 0)), qg 11 9 false (.bin .geq false [] (.t 10) (.c (.int .u8 65))), qg 12 9 false (.mov (.t 11)), qg 13 12 true (.mov (.t 0)), qg 14 12 true (.bin .leq false [] (.t 13) (.c (.int .u8 90))), qg 15 9 false (.pick (.t 12) (.t 14) (.c (.bool false))), qq 16 (.pick (.t 9) (.c (.bool true)) (.t 15)), qm 17 16, qg 18 17 false (.mov (.t 0)), qg 19 17 false (.bin .geq false [] (.t 18) (.c (.int .u8 48))), qg 20 17 false (.mov (.t 19)), qg 21 20 true (.mov (.t 0)), qg 22 20 true (.bin .leq false [] (.t 21) (.c (.int .u8 57))), qg 23 17 false (.pick (.t 20) (.t 22) (.c (.bool false))), qq 24 (.pick (.t 17) (.c (.bool true)) (.t 23)), qm 25 24, qg 26 25 false (.mov (.t 0)), qg 27 25 false (.call .f (.c (.fn 121 [])) [.c (.str [45, 95, 63, 58, 61, 60, 62, 43, 42, 47, 46]), .t 26]), qg 28 25 false (.bin .geq false [] (.t 27) (.c (.int .i64 0))), qq 29 (.pick (.t 25) (.c (.bool true)) (.t 28)), qm 2 29]) .ret))
def r_sexpr_isSymbolByte : List RVar := [.tmp 2]
def n_sexpr_isSymbolByte : Nat := 30
theorem k_sexpr_isSymbolByte : chkFn PG 119 n_sexpr_isSymbolByte r_sexpr_isSymbolByte c_sexpr_isSymbolByte = true := by kernel_rfl
theorem f_sexpr_isSymbolByte (c : UInt8) : Fc PG 119 [.int .u8 c.toNat] (.bool (symB c)) := by
 have hI := f_strings_IndexByte others c
 have hm := ix_mem others c
 generalize Lib.indexByte others c = ix at *
 have he : symB c = ((decide (97 ≤ c.toNat) && decide (c.toNat ≤ 122)) || (decide (65 ≤ c.toNat) && decide (c.toNat ≤ 90)) || (decide (48 ≤ c.toNat) && decide (c.toNat ≤ 57)) || decide (ix ≥ 0)) := by rw [hm]; rfl
 rw [he]
 clear hm he
 generalize c.toNat = n at *
 refine Fn.step mixed k_sexpr_isSymbolByte ?_
 repeat' (first | refine i_s rfl ?_ | refine sw ?_ | refine i_gt rfl ?_ | refine i_gf rfl ?_ | refine i_gd rfl ?_ | refine i_g rfl (fun h => ?_) (fun h => ?_) | refine sf rfl rfl hI ?_ | fail)
 all_goals first
  | (refine e_ret ⟨rfl, _, rfl, congrArg V.bool ?_⟩; first | rfl | (clear hI; simp at *; omega) | (clear hI; simp at *; grind))
  | (exfalso; clear hI; simp at *; omega)
def c_sexpr_IsSymbol : Cmd :=
 (qS [qb 2 false]
 (qT (qS [qm 4 0, qq 5 (.len true (.t 4)), qc 6 0]
 (.block 0 (.loop (qS [qu 7 .lss [] 6 5]
 (qT (.cond (.t 7) .skip (.exit 0))
 (qT (.block 1 (qS [qm 8 6, qm 3 8]
 (qS [qm 9 0, qm 10 3, qq 11 (.index (.t 9) (.t 10)), qk 12 119 [11], qq 13 (.not (.t 12))]
 (.cond (.t 13) (.seq (.ops [qb 2 false]) .ret) .skip))))
 (.ops [qv 14 .add [] 6 1, qm 6 14])))))))
 (.seq (.ops [qm 15 0, qq 16 (.len true (.t 15)), qv 17 .geq [] 16 1, qm 18 17, qg 19 18 true (.mov (.t 0)), qg 20 18 true (.len true (.t 19)), qg 21 18 true (.bin .leq false [] (.t 20) (.c (.int .i64 12))), qq 22 (.pick (.t 18) (.t 21) (.c (.bool false))), qm 2 22]) .ret)))
def r_sexpr_IsSymbol : List RVar := [.tmp 2]
def n_sexpr_IsSymbol : Nat := 23
theorem k_sexpr_IsSymbol : chkFn PG 150 n_sexpr_IsSymbol r_sexpr_IsSymbol c_sexpr_IsSymbol = true := by kernel_rfl
theorem symbolB_all {s : List UInt8} (h : ∀ j, j < s.length → ∀ c, s[j]? = some c → symB c = true) : symbolB s = (decide (1 ≤ s.length) && decide (s.length ≤ 12)) := by
 have : s.all symB = true := by
  rw [List.all_eq_true]
  intro x hx
  obtain ⟨i, hi, e⟩ := List.getElem_of_mem hx
  exact h i hi x (by rw [← e]; exact List.getElem?_eq_getElem hi)
 unfold symbolB
 rw [this, Bool.true_and]
theorem symbolB_bad {s : List UInt8} {c : UInt8} (hc : c ∈ s) (h : symB c = false) : symbolB s = false := by
 have : s.all symB = false := by
  rw [List.all_eq_false]
  exact ⟨c, hc, by simp [h]⟩
 unfold symbolB
 rw [this, Bool.false_and]
theorem f_sexpr_IsSymbol (s : List UInt8) (hl : s.length ≤ 140737488355328) : Fc PG 150 [.str s] (.bool (symbolB s)) := by
 refine Fn.step mixed k_sexpr_IsSymbol ?_
 repeat (first | refine i_s rfl ?_ | refine sw ?_)
 refine c_for s.length (fun k => [(0, .str s), (5, .int .i64 s.length), (6, .int .i64 k)]) (fun _ => []) (fun k => ∀ j, j < k → ∀ c, s[j]? = some c → symB c = true) all_zero ft fun k hk hi => ?_
 repeat (first | refine i_s rfl ?_ | refine sw ?_)
 refine c_cond rfl (fun h => ?_) (fun h => ?_)
 · have hlt : k < s.length := by simpa using h
   obtain ⟨c, hc⟩ := get_some hlt
   have hF := f_sexpr_isSymbolByte c
   cases hs : symB c with
   | true =>
    rw [hs] at hF
    have next := all_succ hi fun c' hc' => by
     rw [hc] at hc'; injection hc' with hc'; rw [← hc']; exact hs
    clear hi h
    repeat' (first | refine i_s rfl ?_ | refine sw ?_ | refine c_f rfl ?_ | refine ja rfl rfl ?_ | refine jf rfl rfl ?_ | refine sf rfl rfl hF ?_ | fail)
    exact e_for hlt next ft
   | false =>
    rw [hs] at hF
    have hb := symbolB_bad (mem_get hc) hs
    clear hi h
    repeat' (first | refine i_s rfl ?_ | refine sw ?_ | refine c_t rfl ?_ | refine jf rfl rfl ?_ | refine sf rfl rfl hF ?_ | fail)
    exact e_ret ⟨rfl, _, rfl, congrArg V.bool hb⟩
 · have hge : k = s.length := by have : ¬ k < s.length := by simpa using h
                                 omega
   subst hge
   rw [symbolB_all hi]
   clear hi h
   repeat' (first | refine i_s rfl ?_ | refine sw ?_ | refine i_gt rfl ?_ | refine i_gf rfl ?_ | refine i_g rfl (fun h => ?_) (fun h => ?_))
   all_goals refine e_ret ⟨rfl, _, rfl, congrArg V.bool ?_⟩
   all_goals first
    | (have h9 := of_decide_eq_true h; rw [decide_eq_true (show 1 ≤ s.length by omega), Bool.true_and]; exact decide_eq_decide.2 (by omega))
    | (have h9 := of_decide_eq_false h; rw [decide_eq_false (show ¬ 1 ≤ s.length by omega)]; rfl)
def c_R1_SymbolByte : Cmd :=
 (qS [qb 2 false]
 (qS [qm 6 0, qq 7 (.conv .i64 (.t 6)), qm 3 7]
 (qT (qS [qm 8 3, qq 9 (.call .f (.c (.fn 17 [])) [.t 8, .c (.int .i64 97), .c (.int .i64 122)]), qm 10 9, qg 11 10 false (.mov (.t 3)), qg 12 10 false (.call .f (.c (.fn 17 [])) [.t 11, .c (.int .i64 65), .c (.int .i64 90)]), qq 13 (.pick (.t 10) (.c (.bool true)) (.t 12)), qm 14 13, qg 15 14 false (.mov (.t 3)), qg 16 14 false (.call .f (.c (.fn 17 [])) [.t 15, .c (.int .i64 48), .c (.int .i64 57)]), qq 17 (.pick (.t 14) (.c (.bool true)) (.t 16))]
 (.cond (.t 17) (.seq (.ops [qb 2 true]) .ret) .skip))
 (qS [qq 4 (.mov (.c (.str [45, 95, 63, 58, 61, 60, 62, 43, 42, 47, 46])))]
 (qT (qS [qc 5 0]
 (.block 0 (.loop (qT (qS [qm 18 5, qm 19 4, qq 20 (.len true (.t 19)), qu 21 .lss [] 18 20]
 (.cond (.t 21) .skip (.exit 0)))
 (qT (.block 1 (qS [qm 24 4, qm 25 5, qq 26 (.index (.t 24) (.t 25)), qm 27 0, qu 28 .eql [.i] 26 27]
 (.cond (.t 28) (.seq (.ops [qb 2 true]) .ret) .skip)))
 (.ops [qm 22 5, qv 23 .add [] 22 1, qm 5 23]))))))
 (.seq (.ops [qb 2 false]) .ret))))))
def r_R1_SymbolByte : List RVar := [.tmp 2]
def n_R1_SymbolByte : Nat := 29
theorem k_R1_SymbolByte : chkFn PG 89 n_R1_SymbolByte r_R1_SymbolByte c_R1_SymbolByte = true := by kernel_rfl
theorem and_dec (n lo hi : Nat) : (decide (lo ≤ n) && decide (n ≤ hi)) = (decide ((lo : Int) ≤ (n : Int)) && decide ((n : Int) ≤ (hi : Int))) := by
 congr 1 <;> exact decide_eq_decide.2 (by omega)
theorem others_get (k : Nat) (h : k < 11) : ∃ c, others[k]? = some c := get_some h
theorem f_R1_SymbolByte (c : UInt8) : Fc PG 89 [.int .u8 c.toNat] (.bool (symB c)) := by
 have h1 := f_R1_In c.toNat 97 122
 have h2 := f_R1_In c.toNat 65 90
 have h3 := f_R1_In c.toNat 48 57
 have hu := u8leX c
 have hs : symB c = ((decide ((97 : Int) ≤ c.toNat) && decide ((c.toNat : Int) ≤ 122)) || (decide ((65 : Int) ≤ c.toNat) && decide ((c.toNat : Int) ≤ 90)) || (decide ((48 : Int) ≤ c.toNat) && decide ((c.toNat : Int) ≤ 57)) || decide (c ∈ others)) := by
  unfold symB
  rw [and_dec _ 97 122, and_dec _ 65 90, and_dec _ 48 57]
  rfl
 rw [hs]
 generalize (decide ((97 : Int) ≤ c.toNat) && decide ((c.toNat : Int) ≤ 122)) = b1 at *
 generalize (decide ((65 : Int) ≤ c.toNat) && decide ((c.toNat : Int) ≤ 90)) = b2 at *
 generalize (decide ((48 : Int) ≤ c.toNat) && decide ((c.toNat : Int) ≤ 57)) = b3 at *
 clear hs
 cases hb : (b1 || b2 || b3) with
 | true =>
  rw [Bool.true_or]
  refine Fn.step mixed k_R1_SymbolByte ?_
  repeat' (first | refine i_s rfl ?_ | refine sw ?_ | refine i_gt rfl ?_ | refine i_gf rfl ?_ | refine c_t rfl ?_ | refine jc rfl ?_ | (refine sp ?_ ?_ <;> try intro h) | refine sf rfl rfl h1 ?_ | refine sf rfl rfl h2 ?_ | refine sf rfl rfl h3 ?_ | fail)
  all_goals first
   | exact e_ret ⟨rfl, _, rfl, rfl⟩
   | (exfalso; clear h1 h2 h3; simp_all; done)
 | false =>
  simp only [Bool.or_eq_false_iff] at hb
  obtain ⟨⟨rfl, rfl⟩, rfl⟩ := hb
  rw [Bool.false_or]
  refine Fn.step mixed k_R1_SymbolByte ?_
  repeat' (first | refine i_s rfl ?_ | refine sw ?_ | refine i_gt rfl ?_ | refine c_f rfl ?_ | refine jc rfl ?_ | refine sf rfl rfl h1 ?_ | refine sf rfl rfl h2 ?_ | refine sf rfl rfl h3 ?_ | fail)
  refine c_for 11 (fun k => [(0, .int .u8 c.toNat), (4, .str others), (5, .int .i64 k)]) (fun _ => []) (fun k => ∀ j, j < k → ∀ d, others[j]? = some d → d ≠ c) all_zero ft fun k hk hi => ?_
  clear h1 h2 h3
  repeat (first | refine i_s rfl ?_ | refine sw ?_)
  refine c_cond rfl (fun h => ?_) (fun h => ?_)
  · have hlt : k < 11 := by have : (k : Int) < 11 := by simpa [others] using h
                            omega
    obtain ⟨d, hd⟩ := others_get k hlt
    clear h
    repeat' (first | refine i_s rfl ?_ | refine sw ?_ | refine ja rfl rfl ?_ | refine jf rfl rfl ?_ | refine c_cond rfl (fun h => ?_) (fun h => ?_))
    · refine e_ret ⟨rfl, _, rfl, congrArg V.bool ?_⟩
      have e0 : (d.toNat : Int) = c.toNat := by simpa using h
      have e : d = c := UInt8.toNat_inj.1 (by omega)
      subst e
      exact decide_eq_true (mem_get hd)
    · refine e_for hlt (all_succ hi fun d' hd' e => ?_) ft
      rw [hd] at hd'
      injection hd' with hd'
      subst hd' e
      simp at h
  · have hge : k = 11 := by have : ¬ (k : Int) < 11 := by simpa [others] using h
                            omega
    subst hge
    clear h
    repeat' (first | refine i_s rfl ?_ | refine sw ?_ | fail)
    refine e_ret ⟨rfl, _, rfl, congrArg V.bool ?_⟩
    refine decide_eq_false fun hm => ?_
    obtain ⟨i, hi2, e⟩ := List.getElem_of_mem hm
    exact hi i hi2 c (by rw [← e]; exact List.getElem?_eq_getElem hi2) rfl
def c_sexpr_shape : Cmd :=
 (qS [qx 1 7808066 2 0, qc 2 0]
 (qT (.block 0 (qS [qf 4 0 1, ql 5 1 4, qq 6 (.bin .eql false [.s] (.t 5) (.c (.str []))), qm 3 6]
 (.cond (.t 3) (.seq (.ops [qc 2 0]) .ret) (qS [qf 8 0 1, ql 9 1 8, qk 10 150 [9], qq 11 (.not (.t 10)), qm 7 11]
 (.cond (.t 7) (.seq (.ops [qc 2 12]) .ret) (qS [qf 13 1 1, ql 14 1 13, qn 15 14, qv 16 .gtr [] 15 0, qm 12 16]
 (.cond (.t 12) (.seq (.ops [qc 2 5]) .ret) .skip)))))))
 (.seq (.ops [qc 2 0]) .ret)))
def r_sexpr_shape : List RVar := [.tmp 2]
def n_sexpr_shape : Nat := 17
theorem k_sexpr_shape : chkFn PG 122 n_sexpr_shape r_sexpr_shape c_sexpr_shape = true := by kernel_rfl
theorem f_sexpr_shape (n : Sx) (h1 : n.sym.length ≤ 140737488355328) (h2 : n.ch.length ≤ 140737488355328) : Fc PG 122 [sxV n] (.int .i64 (shapeC n)) := by
 have hS := f_sexpr_IsSymbol n.sym h1
 unfold shapeC
 refine Fn.step mixed k_sexpr_shape ?_
 generalize hb : symbolB n.sym = b at *
 by_cases c1 : n.sym = []
 · rw [if_pos c1]
   repeat' (first | refine i_len rfl ?_ | refine i_s rfl ?_ | refine sw ?_ | refine i_box rfl rfl ?_ | refine c_cond rfl (fun h => ?_) (fun h => ?_) | refine sf rfl rfl hS ?_ | fail)
   all_goals first
    | exact e_ret ⟨rfl, _, rfl, rfl⟩
    | (exfalso; clear hS; simp_all; done)
 · rw [if_neg c1]
   have c1' : (n.sym == []) = false := by simpa using c1
   cases b with
   | false =>
    rw [if_pos rfl]
    repeat' (first | refine i_s rfl ?_ | refine sw ?_ | refine c_t rfl ?_ | refine i_box rfl rfl ?_ | refine c_cond rfl (fun h => ?_) (fun h => ?_) | refine sf rfl rfl hS ?_ | fail)
    all_goals first
     | exact e_ret ⟨rfl, _, rfl, rfl⟩
     | (exfalso; clear hS; simp_all; done)
   | true =>
    rw [if_neg (by simp)]
    by_cases c2 : n.ch ≠ []
    · have hp := List.length_pos_iff.2 c2
      rw [if_pos c2]
      repeat' (first | refine i_len rfl ?_ | refine i_s rfl ?_ | refine sw ?_ | refine c_f rfl ?_ | refine i_box rfl rfl ?_ | refine c_cond rfl (fun h => ?_) (fun h => ?_) | refine sf rfl rfl hS ?_ | fail)
      all_goals first
       | exact e_ret ⟨rfl, _, rfl, rfl⟩
       | (exfalso; clear hS; simp_all; done)
       | (exfalso; clear hS; simp at *; omega)
    · rw [if_neg c2]
      have c3 : n.ch = [] := by simpa using c2
      repeat' (first | refine i_len rfl ?_ | refine i_s rfl ?_ | refine sw ?_ | refine c_f rfl ?_ | refine i_box rfl rfl ?_ | refine c_cond rfl (fun h => ?_) (fun h => ?_) | refine sf rfl rfl hS ?_ | fail)
      all_goals first
       | exact e_ret ⟨rfl, _, rfl, rfl⟩
       | (exfalso; clear hS; simp_all; done)
end Hm
end
section
namespace Hm
open Go
set_option maxRecDepth 100000
set_option maxHeartbeats 4000000
def fsL (l : List Sx) (i n : Nat) : List Int := (List.range n).map fun (j : Nat) => if j < i then fst_ l j else 0
def dpL (l : List Sx) (i : Nat) (d : Int) (n : Nat) : List Int := (List.range n).map fun (j : Nat) => if j < i then (dp l j : Int) else if j = i then d else 0
theorem fsL_len (l : List Sx) (i n : Nat) : (fsL l i n).length = n := by simp [fsL]
theorem dpL_len (l : List Sx) (i : Nat) (d : Int) (n : Nat) : (dpL l i d n).length = n := by simp [dpL]
theorem fsL_get (l : List Sx) {i n j : Nat} (h : j < n) : (fsL l i n)[j]? = some (if j < i then fst_ l j else 0) := by
 unfold fsL
 rw [List.getElem?_map, List.getElem?_range h]; rfl
theorem dpL_get (l : List Sx) {i n j : Nat} (d : Int) (h : j < n) : (dpL l i d n)[j]? = some (if j < i then (dp l j : Int) else if j = i then d else 0) := by
 unfold dpL
 rw [List.getElem?_map, List.getElem?_range h]; rfl
theorem fsL_set (l : List Sx) {i n : Nat} (h : i < n) : (fsL l i n).set i (fst_ l i) = fsL l (i + 1) n := by
 apply List.ext_getElem?
 intro j
 by_cases hj : j < n
 · rw [List.getElem?_set, fsL_get l hj, fsL_get l hj]
   by_cases e : i = j
   · subst e; simp [fsL_len, h]
   · rw [if_neg e]
     congr 1
     by_cases c : j < i
     · rw [if_pos c, if_pos (by omega)]
     · rw [if_neg c, if_neg (by omega)]
 · rw [List.getElem?_eq_none (by simp [fsL_len]; omega), List.getElem?_eq_none (by rw [fsL_len]; omega)]
theorem dpL_set (l : List Sx) {i n : Nat} (d e : Int) (h : i < n) : (dpL l i d n).set i e = dpL l i e n := by
 apply List.ext_getElem?
 intro j
 by_cases hj : j < n
 · rw [List.getElem?_set, dpL_get l d hj, dpL_get l e hj]
   by_cases q : i = j
   · subst q; simp [dpL_len, h]
   · rw [if_neg q]
     congr 1
     by_cases c : j < i
     · rw [if_pos c, if_pos c]
     · rw [if_neg c, if_neg c, if_neg (fun e => q e.symm), if_neg (fun e => q e.symm)]
 · rw [List.getElem?_eq_none (by simp [dpL_len]; omega), List.getElem?_eq_none (by rw [dpL_len]; omega)]
theorem dpL_next (l : List Sx) {i n : Nat} : dpL l i (dp l i) n = dpL l (i + 1) 0 n := by
 unfold dpL
 refine List.map_congr_left fun j _ => ?_
 by_cases c : j < i
 · rw [if_pos c, if_pos (by omega)]
 · rw [if_neg c]
   by_cases e : j = i
   · subst e; rw [if_pos rfl, if_pos (by omega)]
   · rw [if_neg e, if_neg (by omega)]
     split <;> rfl
theorem fsL_zero (l : List Sx) (n : Nat) : (fsL l 0 n).map i64V = List.replicate n (.int .i64 0) := by
 apply List.ext_getElem?
 intro j
 by_cases hj : j < n
 · rw [List.getElem?_map, fsL_get l hj, List.getElem?_replicate, if_pos hj]; rfl
 · rw [List.getElem?_eq_none (by simp [fsL_len]; omega), List.getElem?_eq_none (by simp; omega)]
theorem dpL_zero (l : List Sx) (n : Nat) : (dpL l 0 0 n).map i64V = List.replicate n (.int .i64 0) := by
 apply List.ext_getElem?
 intro j
 by_cases hj : j < n
 · rw [List.getElem?_map, dpL_get l 0 hj, List.getElem?_replicate, if_pos hj]
   simp [i64V]
 · rw [List.getElem?_eq_none (by simp [dpL_len]; omega), List.getElem?_eq_none (by simp; omega)]
theorem sx_hit {l : List Sx} {i : Nat} {f : Flt} (h0 : ¬ (l.length = 0 ∨ l.length > 300)) (hi : i < l.length) (hp : ∀ j, j < i → nodeBad l j = none) (hf : nodeBad l i = some f) : sxFault l = f := by
 unfold sxFault
 rw [if_neg h0, scan0_hit hp hi hf]
theorem sx_all {l : List Sx} (h0 : ¬ (l.length = 0 ∨ l.length > 300)) (hp : ∀ j, j < l.length → nodeBad l j = none) : sxFault l = if sz l (l.length - 1) ≠ l.length then ⟨5, -1⟩ else okF := by
 unfold sxFault
 rw [if_neg h0, scan0_none hp]
theorem okTo_of {l : List Sx} {i : Nat} (hp : ∀ j, j < i → nodeBad l j = none) : okTo l i := fun j hj x hx => (nodeBad_none hx).1 (hp j hj)
theorem chTo_succ {l : List Sx} {i : Nat} {x : Sx} (h : okTo l i) (hx : l[i]? = some x) {e : Int} (he : chn l i x.ch.reverse = some e) : chTo l (i + 1) := fun j hj y hy => by
 by_cases c : j < i
 · exact h.chs j c y hy
 · have : j = i := by omega
   subst this
   rw [hx] at hy
   cases hy
   exact ⟨e, he⟩
theorem len0 {n : Nat} (h : ((n : Int) == 0) = true) : n = 0 := by have : (n : Int) = 0 := by simpa using h
                                                                   omega
def c_sexpr_Validate : Cmd :=
 (qS [qq 2 (.alloc 4160130 (.agg [.int .i64 0, .int .i64 0]))]
 (qT (qS [qm 11 0, qn 12 11, qv 13 .eql [.i] 12 0, qm 14 13, qg 15 14 false (.mov (.t 0)), qg 16 14 false (.len false (.t 15)), qg 17 14 false (.bin .gtr false [] (.t 16) (.c (.int .i64 300))), qq 18 (.pick (.t 14) (.c (.bool true)) (.t 17))]
 (.cond (.t 18) (.seq (.ops [qq 19 (.build [.int .i64 0, .int .i64 0] [(0 , 1 , .c (.int .i64 2)), (1 , 1 , .c (.int .i64 (-1)))]), qs 2 2 19]) .ret) .skip))
 (qS [qm 20 0, qn 21 20, qq 22 (.mkSl 4161409 1 8 (.int .i64 0) (.t 21) (.t 21)), qm 3 22]
 (qS [qm 23 0, qn 24 23, qq 25 (.mkSl 4161601 1 8 (.int .i64 0) (.t 24) (.t 24)), qm 4 25]
 (qT (qS [qm 26 0, qn 27 26, qc 28 0]
 (.block 0 (.loop (qS [qu 29 .lss [] 28 27]
 (qT (.cond (.t 29) .skip (.exit 0))
 (qT (.block 1 (qS [qm 30 28, qi 31 2 26 28, qL 32 2 31, qq 6 (.alloc 4160386 (.agg [.str [], .sl .nil []])), qm 5 30, qs 2 6 32]
 (qT (qS [qL 33 2 6, qk 34 122 [33], qm 7 34]
 (qS [qm 35 7, qv 36 .neq [.i] 35 0]
 (.cond (.t 36) (.seq (.ops [qm 37 7, qm 38 5, qq 39 (.build [.int .i64 0, .int .i64 0] [(0 , 1 , .t 37), (1 , 1 , .t 38)]), qs 2 2 39]) .ret) .skip)))
 (qS [qm 40 5, qm 8 40]
 (qT (qS [qf 41 1 6, ql 42 1 41, qn 43 42, qv 44 .sub [] 43 1, qm 9 44]
 (.block 2 (.loop (qT (qS [qm 45 9, qv 46 .geq [] 45 0]
 (.cond (.t 46) .skip (.exit 2)))
 (qT (.block 3 (qS [qf 49 1 6, ql 50 1 49, qm 51 9, qi 52 1 50 51, ql 53 1 52, qm 10 53]
 (qT (qS [qm 54 10, qv 55 .lss [] 54 0, qm 56 55, qg 57 56 false (.mov (.t 10)), qg 58 56 false (.mov (.t 8)), qg 59 56 false (.bin .sub false [] (.t 58) (.c (.int .i64 1))), qg 60 56 false (.bin .neq false [.i] (.t 57) (.t 59)), qq 61 (.pick (.t 56) (.c (.bool true)) (.t 60))]
 (.cond (.t 61) (.seq (.ops [qm 62 5, qq 63 (.build [.int .i64 0, .int .i64 0] [(0 , 1 , .c (.int .i64 5)), (1 , 1 , .t 62)]), qs 2 2 63]) .ret) .skip))
 (qS [qm 64 3, qm 65 10, qi 66 1 64 65, ql 67 1 66, qm 8 67]
 (.ops [qm 68 4, qm 69 5, qm 70 4, qm 71 5, qi 72 1 70 71, ql 73 1 72, qm 74 4, qm 75 10, qi 76 1 74 75, ql 77 1 76, qq 78 (.max (.t 73) (.t 77)), qi 79 1 68 69, qs 1 79 78])))))
 (.ops [qm 47 9, qv 48 .sub [] 47 1, qm 9 48]))))))
 (qS [qm 80 3, qm 81 5, qm 82 8, qi 83 1 80 81, qs 1 83 82]
 (qS [qm 84 4, qm 85 5, qi 86 1 84 85, ql 87 1 86, qv 88 .add [] 87 1, qi 89 1 84 85, qs 1 89 88]
 (qS [qm 90 4, qm 91 5, qi 92 1 90 91, ql 93 1 92, qv 94 .gtr [] 93 12]
 (.cond (.t 94) (.seq (.ops [qm 95 5, qq 96 (.build [.int .i64 0, .int .i64 0] [(0 , 1 , .c (.int .i64 10)), (1 , 1 , .t 95)]), qs 2 2 96]) .ret) .skip)))))))))
 (.ops [qv 97 .add [] 28 1, qm 28 97])))))))
 (qT (qS [qm 98 3, qm 99 0, qn 100 99, qv 101 .sub [] 100 1, qi 102 1 98 101, ql 103 1 102, qv 104 .neq [.i] 103 0]
 (.cond (.t 104) (.seq (.ops [qq 105 (.build [.int .i64 0, .int .i64 0] [(0 , 1 , .c (.int .i64 5)), (1 , 1 , .c (.int .i64 (-1)))]), qs 2 2 105]) .ret) .skip))
 (.seq (.ops [qq 106 (.build [.int .i64 0, .int .i64 0] []), qs 2 2 106]) .ret)))))))
def r_sexpr_Validate : List RVar := [.cell true 2 2]
def n_sexpr_Validate : Nat := 107
theorem k_sexpr_Validate : chkFn PG 65 n_sexpr_Validate r_sexpr_Validate c_sexpr_Validate = true := by kernel_rfl
theorem f_sexpr_Validate (l : List Sx) (ho : SxsOk l) : Fc PG 65 [.sl .p (l.map sxV)] (ftV (sxFault l)) := by
 by_cases hb : l.length = 0 ∨ l.length > 300
 · have e : sxFault l = ⟨2, -1⟩ := by unfold sxFault; rw [if_pos hb]
   rw [e]
   refine Fn.step mixed k_sexpr_Validate ?_
   repeat' (first | refine i_len rfl ?_ | refine i_s rfl ?_ | refine sw ?_ | refine i_gt rfl ?_ | refine i_gf rfl ?_ | refine c_t rfl ?_ | refine i_stb rfl ?_ | refine i_alloc rfl ?_ | (refine sp ?_ ?_ <;> try intro h) | fail)
   all_goals first
    | exact e_ret ⟨rfl, _, rfl, rfl⟩
    | (exfalso; have h1 := of_decide_eq_false h; rename_i h0; have h2 : ¬ (l.length : Int) = 0 := (by simpa using h0); omega)
 have hl : 1 ≤ l.length ∧ l.length ≤ 300 := by omega
 have hol := ho.len
 refine Fn.step mixed k_sexpr_Validate ?_
 repeat' (first | refine i_len rfl ?_ | refine i_s rfl ?_ | refine sw ?_ | refine i_gt rfl ?_ | refine i_gf rfl ?_ | refine c_t rfl ?_ | refine i_stb rfl ?_ | refine i_alloc rfl ?_ | (refine sp ?_ ?_ <;> try intro h) | fail)
 all_goals first
  | exact absurd (len0 h) (by omega)
  | (exfalso; have := of_decide_eq_true h; omega)
  | skip
 refine i_mks rfl rfl rfl (by omega) (by omega) (by omega) (by omega) rfl ?_
 repeat (first | refine i_len rfl ?_ | refine i_s rfl ?_ | refine sw ?_)
 refine i_mks rfl rfl rfl (by omega) (by omega) (by omega) (by omega) rfl ?_
 repeat (first | refine i_len rfl ?_ | refine i_s rfl ?_ | refine sw ?_)
 refine c_for l.length (fun i => [(0, .sl .p (l.map sxV)), (2, .bptr 4160130 0), (3, .msl 4161409 0 0 l.length), (4, .msl 4161601 0 0 l.length), (26, .sl .p (l.map sxV)), (27, .int .i64 l.length), (28, .int .i64 i)])
  (fun i => [(4160130, .box (.agg [.int .i64 0, .int .i64 0])), (4161409, .arr 0 ((fsL l i l.length).map i64V)), (4161601, .arr 0 ((dpL l i 0 l.length).map i64V))]) (fun i => ∀ j, j < i → nodeBad l j = none) all_zero
  ⟨⟨rfl, rfl, rfl, rfl, rfl, rfl, rfl, trivial⟩, ⟨rfl, by rw [fsL_zero]; rfl, by rw [dpL_zero]; rfl, trivial⟩, rfl⟩ fun i hi hp => ?_
 have hfl := fsL_len l i l.length
 have hok := okTo_of hp
 repeat (first | refine i_s rfl ?_ | refine sw ?_)
 refine c_cond rfl (fun h => ?_) (fun h => ?_)
 · have hlt : i < l.length := by simpa using h
   obtain ⟨x, hx⟩ := get_some hlt
   obtain ⟨b1, b2⟩ := ho.e x (mem_get hx)
   have hS := f_sexpr_shape x b1 b2
   clear h
   by_cases hsh : shapeC x ≠ 0
   · have hbad : nodeBad l i = some ⟨shapeC x, i⟩ := by unfold nodeBad; rw [hx]; simp only; rw [if_pos hsh]
     rw [sx_hit hb hlt hp hbad]
     generalize shapeC x = e at *
     clear hp hok hbad ho
     repeat' (first | refine i_len rfl ?_ | refine i_s rfl ?_ | refine sw ?_ | refine jb rfl rfl ?_ | refine jd rfl rfl ?_ | refine i_stb rfl ?_ | refine i_alloc rfl ?_ | refine c_cond rfl (fun h => ?_) (fun h => ?_) | refine sf rfl rfl hS ?_ | fail)
     all_goals first
      | exact e_ret ⟨rfl, _, rfl, rfl⟩
      | (exfalso; have h9 : e = 0 := (by simpa using h); exact hsh h9)
   have hsh0 : shapeC x = 0 := by simpa using hsh
   rw [hsh0] at hS
   have hcl : x.ch.reverse.length = x.ch.length := List.length_reverse
   repeat (first | refine i_len rfl ?_ | refine i_s rfl ?_ | refine sw ?_ | refine c_f rfl ?_ | refine jb rfl rfl ?_ | refine jd rfl rfl ?_ | refine i_stb rfl ?_ | refine i_alloc rfl ?_ | refine sf rfl rfl hS ?_)
   refine c_for x.ch.length (fun k => [(0, .sl .p (l.map sxV)), (2, .bptr 4160130 0), (3, .msl 4161409 0 0 l.length), (4, .msl 4161601 0 0 l.length), (5, .int .i64 i), (6, .bptr 4160386 0), (8, .int .i64 ((i : Int) - sumN (sz l) (x.ch.reverse.take k))), (9, .int .i64 ((x.ch.length : Int) - 1 - k)), (26, .sl .p (l.map sxV)), (27, .int .i64 l.length), (28, .int .i64 i)])
    (fun k => [(4160130, .box (.agg [.int .i64 0, .int .i64 0])), (4161409, .arr 0 ((fsL l i l.length).map i64V)), (4161601, .arr 0 ((dpL l i (maxN (dp l) (x.ch.reverse.take k)) l.length).map i64V)), (4160386, .box (sxV x))])
    (fun k => chn l i (x.ch.reverse.take k) = some ((i : Int) - sumN (sz l) (x.ch.reverse.take k))) (by simp [chn, sumN])
    ⟨⟨rfl, rfl, rfl, rfl, rfl, rfl, ?_, ?_, rfl, rfl, rfl, trivial⟩, ⟨rfl, rfl, rfl, rfl, trivial⟩, rfl⟩ fun k hk hc => ?_
   · show V.int _ _ = V.int _ _
     simp [sumN]
   · show V.int _ _ = V.int _ _
     simp
   have hmt := maxN_take (dp l) x.ch.reverse k
   have hst := sumN_take (sz l) x.ch.reverse k
   have hrl : (x.ch.reverse.take k).length = k := by rw [List.length_take]; omega
   clear hS
   repeat (first | refine i_s rfl ?_ | refine sw ?_)
   refine c_cond rfl (fun h => ?_) (fun h => ?_)
   · have hkl : k < x.ch.length := by have := of_decide_eq_true h; omega
     obtain ⟨c, hcr⟩ := get_some (l := x.ch.reverse) (k := k) (by omega)
     have hcx : x.ch[((x.ch.length : Int) - 1 - k).toNat]? = some c := by
      rw [List.getElem?_reverse hkl] at hcr
      rw [show ((x.ch.length : Int) - 1 - k).toNat = x.ch.length - 1 - k from by omega]; exact hcr
     have hk0 : (0 : Int) ≤ (x.ch.length : Int) - 1 - k := by omega
     have hsn := chn_snoc (l := l) (x.ch.reverse.take k) i c
     rw [← take_succ_get hcr, hc] at hsn
     simp only at hsn
     have hS1 : sumN (sz l) (x.ch.reverse.take (k + 1)) = sumN (sz l) (x.ch.reverse.take k) + sz l c.toNat := by rw [take_succ_get hcr, sumN_snoc]
     have hM1 : maxN (dp l) (x.ch.reverse.take (k + 1)) = max (maxN (dp l) (x.ch.reverse.take k)) (dp l c.toNat) := by rw [take_succ_get hcr, maxN_snoc]
     have hsb : (sumN (sz l) (x.ch.reverse.take k) : Int) ≤ 400 := by have := chn_nn hok.chs _ _ _ (by omega) (Int.le_refl _) hc; omega
     clear h
     by_cases hbd : c < 0 ∨ c ≠ (i : Int) - sumN (sz l) (x.ch.reverse.take k) - 1
     · rw [if_pos hbd] at hsn
       have hno : chn l i x.ch.reverse = none := by
        have := chn_none (l := l) (x.ch.reverse.take (k + 1)) (x.ch.reverse.drop (k + 1)) i hsn
        rwa [List.take_append_drop] at this
       have hbad : nodeBad l i = some ⟨5, i⟩ := by unfold nodeBad; rw [hx]; simp only; rw [if_neg hsh, hno]; rfl
       rw [sx_hit hb hlt hp hbad]
       clear hp hok hbad ho hsn hc hno
       generalize sumN (sz l) (x.ch.reverse.take k) = S at *
       repeat' (first | refine i_s rfl ?_ | refine sw ?_ | refine i_gt rfl ?_ | refine i_gf rfl ?_ | refine c_t rfl ?_ | refine jb rfl rfl ?_ | refine jd rfl rfl ?_ | refine i_stb rfl ?_ | (refine sp ?_ ?_ <;> try intro h) | fail)
       all_goals first
        | exact e_ret ⟨rfl, _, rfl, rfl⟩
        | (exfalso; simp at *; omega)
     · rw [if_neg hbd] at hsn
       simp only [not_or, Decidable.not_not] at hbd
       obtain ⟨hc0, hc1⟩ := hbd
       have hc0' : 0 ≤ c := by omega
       have hci : c < i := by omega
       have hg1 : ((fsL l i l.length).map i64V)[0 + c.toNat]? = some (i64V (fst_ l c.toNat)) := by rw [Nat.zero_add, List.getElem?_map, fsL_get l (by omega), if_pos (by omega)]; rfl
       have hg2 : ((dpL l i (maxN (dp l) (x.ch.reverse.take k)) l.length).map i64V)[0 + ((i : Nat) : Int).toNat]? = some (i64V (maxN (dp l) (x.ch.reverse.take k))) := by
        rw [Nat.zero_add, show ((i : Nat) : Int).toNat = i from rfl, List.getElem?_map, dpL_get l _ hlt, if_neg (by omega), if_pos rfl]; rfl
       have hg3 : ((dpL l i (maxN (dp l) (x.ch.reverse.take k)) l.length).map i64V)[0 + c.toNat]? = some (i64V (dp l c.toNat)) := by rw [Nat.zero_add, List.getElem?_map, dpL_get l _ (by omega), if_pos (by omega)]; rfl
       have hds := dpL_set l (n := l.length) (maxN (dp l) (x.ch.reverse.take k)) (maxN (dp l) (x.ch.reverse.take (k + 1))) hlt
       have hdl := dpL_len l i (maxN (dp l) (x.ch.reverse.take k)) l.length
       clear hp hok ho hc
       generalize hSg : sumN (sz l) (x.ch.reverse.take k) = S at *
       generalize hMg : maxN (dp l) (x.ch.reverse.take k) = M at *
       repeat' (first | refine i_s rfl ?_ | refine sw ?_ | refine i_gt rfl ?_ | refine i_gf rfl ?_ | refine c_t rfl ?_ | refine jb rfl rfl ?_ | refine jd rfl rfl ?_ | refine i_stb rfl ?_ | (refine sp ?_ ?_ <;> try intro h) | fail)
       all_goals first
        | (exfalso; simp at *; omega)
        | skip
       refine i_ima rfl rfl rfl rfl (by omega) (by omega) rfl ?_
       refine i_ldp rfl rfl rfl hg1 rfl ?_
       repeat (first | refine i_s rfl ?_ | refine sw ?_)
       refine i_ima rfl rfl rfl rfl (by omega) (by omega) rfl ?_
       refine i_ldp rfl rfl rfl hg2 rfl ?_
       repeat refine i_s rfl ?_
       refine i_ima rfl rfl rfl rfl (by omega) (by omega) rfl ?_
       refine i_ldp rfl rfl rfl hg3 rfl ?_
       skip
       refine i_max rfl rfl rfl ?_
       refine i_ima rfl rfl rfl rfl (by omega) (by omega) rfl ?_
       refine i_sti rfl rfl rfl rfl rfl (by rw [hdl]; omega) ?_
       repeat (first | refine i_s rfl ?_ | refine sw ?_ | refine jb rfl rfl ?_)
       refine e_for hkl (by rw [hsn, hS1]; congr 1; omega) ⟨⟨rfl, rfl, rfl, rfl, rfl, rfl, ?_, ?_, rfl, rfl, rfl, trivial⟩, ⟨rfl, rfl, ?_, rfl, trivial⟩, rfl⟩
       · show V.int _ _ = V.int _ _
         congr 1
         rw [hS1]
         unfold fst_
         omega
       · show V.int _ _ = V.int _ _
         congr 1
         omega
       · have hmx : ((max M (dp l c.toNat) : Nat) : Int) = if (dp l c.toNat : Int) > (M : Int) then (dp l c.toNat : Int) else (M : Int) := by split <;> omega
         refine congrArg (Blk.arr 0) ?_
         rw [Nat.zero_add, show ((i : Nat) : Int).toNat = i from rfl, ← hmx, ← hM1]
         exact congrArg (List.map i64V) hds
   · have hkl : k = x.ch.length := by have := of_decide_eq_false h; omega
     subst hkl
     rw [show x.ch.reverse.take x.ch.length = x.ch.reverse from by rw [← hcl, List.take_length]] at *
     rw [sumN_rev, maxN_rev] at *
     have hch1 := chTo_succ hok hx hc
     have hlow := hch1.low
     have hsz := sz_eq hlow
     have hdp := dp_eq hlow
     have hle := sz_leC i (i + 1) hch1 (by omega)
     have hdle := dp_le i (i + 1) hlow (by omega)
     rw [chL_get hx] at hsz hdp
     have hat : (i : Int) - (sumN (sz l) x.ch : Nat) = fst_ l i := by unfold fst_; omega
     rw [hat]
     have hfs := fsL_set l (n := l.length) hlt
     have hds := dpL_set l (n := l.length) (maxN (dp l) x.ch : Nat) (dp l i) hlt
     have hdl := dpL_len l i ((maxN (dp l) x.ch : Nat) : Int) l.length
     have hdl2 := dpL_len l i (dp l i) l.length
     have hg2 : ((dpL l i (maxN (dp l) x.ch : Nat) l.length).map i64V)[0 + ((i : Nat) : Int).toNat]? = some (i64V (maxN (dp l) x.ch : Nat)) := by
      rw [Nat.zero_add, show ((i : Nat) : Int).toNat = i from rfl, List.getElem?_map, dpL_get l _ hlt, if_neg (by omega), if_pos rfl]; rfl
     have hg3 : ((dpL l i (dp l i) l.length).map i64V)[0 + ((i : Nat) : Int).toNat]? = some (i64V (dp l i)) := by
      rw [Nat.zero_add, show ((i : Nat) : Int).toNat = i from rfl, List.getElem?_map, dpL_get l _ hlt, if_neg (by omega), if_pos rfl]; rfl
     clear h
     repeat (first | refine i_s rfl ?_ | refine sw ?_)
     refine i_ima rfl rfl rfl rfl (by omega) (by omega) rfl ?_
     refine i_sti rfl rfl rfl rfl rfl (by rw [hfl]; omega) ?_
     rw [show (0 : Nat) + ((i : Nat) : Int).toNat = i from Nat.zero_add i, hfs]
     repeat (first | refine i_s rfl ?_ | refine sw ?_)
     refine i_ima rfl rfl rfl rfl (by omega) (by omega) rfl ?_
     refine i_ldp rfl rfl rfl hg2 rfl ?_
     repeat refine ja rfl rfl ?_
     refine i_ima rfl rfl rfl rfl (by omega) (by omega) rfl ?_
     refine i_sti rfl rfl rfl rfl rfl (by rw [hdl]; omega) ?_
     rw [show (0 : Nat) + ((i : Nat) : Int).toNat = i from Nat.zero_add i, show ((maxN (dp l) x.ch : Nat) : Int) + 1 = (dp l i : Int) from by omega, hds]
     repeat (first | refine i_s rfl ?_ | refine sw ?_)
     refine i_ima rfl rfl rfl rfl (by omega) (by omega) rfl ?_
     refine i_ldp rfl rfl rfl hg3 rfl ?_
     repeat (first | refine i_s rfl ?_ | refine sw ?_)
     refine c_cond rfl (fun h => ?_) (fun h => ?_)
     · have hd12 : dp l i > 12 := by have := of_decide_eq_true h; omega
       have hbad : nodeBad l i = some ⟨10, i⟩ := by unfold nodeBad; rw [hx]; simp only; rw [if_neg hsh, hc, if_neg (by simp), if_pos hd12]
       rw [sx_hit hb hlt hp hbad]
       clear hp hok hbad ho
       repeat' (first | refine i_s rfl ?_ | refine sw ?_ | refine i_stb rfl ?_)
       exact e_ret ⟨rfl, _, rfl, rfl⟩
     · have hd12 : dp l i ≤ 12 := by have := of_decide_eq_false h; omega
       have hgood : nodeBad l i = none := (nodeBad_none hx).2 ⟨hsh0, ⟨_, hc⟩, hd12⟩
       have hnx := dpL_next l (i := i) (n := l.length)
       clear h
       repeat (first | refine i_s rfl ?_ | refine sw ?_ | refine ja rfl rfl ?_)
       refine e_for hlt (all_succ hp hgood) ⟨⟨rfl, rfl, rfl, rfl, rfl, rfl, rfl, trivial⟩, ⟨rfl, rfl, ?_, trivial⟩, rfl⟩
       rw [← hnx]; rfl
 · have hge : i = l.length := by have : ¬ i < l.length := by simpa using h
                                 omega
   subst hge
   rw [sx_all hb hp]
   have hok2 := hok
   have hle := sz_leC (l.length - 1) l.length hok.chs (by omega)
   have hg : ((fsL l l.length l.length).map i64V)[0 + ((l.length : Int) - 1).toNat]? = some (i64V (fst_ l (l.length - 1))) := by
    rw [Nat.zero_add, show ((l.length : Int) - 1).toNat = l.length - 1 from by omega, List.getElem?_map, fsL_get l (by omega), if_pos (by omega)]; rfl
   clear h hp hok hok2
   repeat (first | refine i_len rfl ?_ | refine i_s rfl ?_ | refine sw ?_ | refine jb rfl rfl ?_)
   refine i_ima rfl rfl rfl rfl (by omega) (by omega) rfl ?_
   refine i_ldp rfl rfl rfl hg rfl ?_
   have hf : fst_ l (l.length - 1) = (l.length : Int) - sz l (l.length - 1) := by unfold fst_; omega
   rw [hf]
   repeat' (first | refine i_s rfl ?_ | refine sw ?_ | refine i_stb rfl ?_ | refine c_cond rfl (fun h => ?_) (fun h => ?_))
   · have h1 : sz l (l.length - 1) ≠ l.length := fun e => by rw [e] at h; simp at h
     rw [if_pos h1]
     exact e_ret ⟨rfl, _, rfl, rfl⟩
   · have h1 : ¬ sz l (l.length - 1) ≠ l.length := by have : (l.length : Int) - sz l (l.length - 1) = 0 := by simpa using h
                                                      omega
     rw [if_neg h1]
     exact e_ret ⟨rfl, _, rfl, rfl⟩
end Hm
end
section
namespace Go.Proofs
open Go.Shelf Go.RowKit
variable {P : Program} {ρ : Ren}
set_option maxHeartbeats 1000000 in
set_option maxRecDepth 100000 in
theorem Builder_String_row (L : Lays.n169 P ρ) (X : Builder.Extra P ρ) (b g cap : Nat) (p : Value) (cur : Array Value) (l : List UInt8) (w : World) (h0 : l ≠ []) (hbk : w.heap[b]? = some (.cells #[p, .slice (some ⟨g, 0, none⟩) l.length cap] (ρ.t 72) (0, 0)))
  (hg : w.heap[g]? = some (.cells cur (ρ.t 5) (0, 0))) (hc : cap ≠ 0) (hle : l.length ≤ cur.size) (h63 : l.length ≤ 9223372036854775807) (hcell : ∀ (j : Nat) (x : UInt8), l[j]? = some x → w.cell? ⟨g, j, none⟩ = some (.int .u8 x.toNat)) :
  Calls P (ρ.f 169) #[.pointer (some ⟨b, 0, none⟩)] w fun e w' => e = .returned (.string ⟨l.toArray⟩) ∧ w' = w.drew.freeze ⟨g, 0, none⟩ l.length := by
 have c1 : w.drew.cell? ⟨b, 1, none⟩ = some (.slice (some ⟨g, 0, none⟩) l.length cap) := by
  have : w.drew.heap[b]? = some (.cells #[p, .slice (some ⟨g, 0, none⟩) l.length cap] (ρ.t 72) (0, 0)) := hbk
  rw [Lib.cell_of_heap this]; rfl
 have hSD : (Builtin.unsafeSliceData_ #[(ρ.t 37)] (ρ.t 127) #[.slice (some ⟨g, 0, none⟩) l.length cap]).run P w.drew = .ok (.pointer (some ⟨g, 0, none⟩)) w.drew :=
  Lib.run_unsafeSliceData_row _ _ _ _ _ _ hc
 have hUS : (Builtin.unsafeString_ #[(ρ.t 127), (ρ.t 3)] (ρ.t 9) #[.pointer (some ⟨g, 0, none⟩), .int .i64 l.length]).run P w.drew = .ok (.string ⟨l.toArray⟩) (w.drew.freeze ⟨g, 0, none⟩ l.length) := by
  refine Lib.run_unsafeString_row w.drew (ρ.t 127) (ρ.t 3) (ρ.t 9) (ρ.t 5) L.t127 X.cellsByte g cur.size (by have hg' : w.drew.heap[g]? = some (.cells cur (ρ.t 5) (0, 0)) := hg; simp [World.shape?, hg']) l h0 hle h63 ?_
  intro j x hx
  have := hcell j x hx
  by_cases hj : j = 0
  · subst hj
    simpa [Addr.add] using this
  · simpa [Addr.add, hj] using this
 have mixed := L.mixed
 have t72 := L.t72; have a72 := L.a72; have z72 := L.z72; have v72 := L.v72; have u72 := run_underlying L.t72
 have t70 := L.t70; have a70 := L.a70; have z70 := L.z70; have v70 := L.v70; have u70 := run_underlying L.t70
 have t37 := L.t37; have a37 := L.a37; have z37 := L.z37; have v37 := L.v37; have u37 := run_underlying L.t37
 have t127 := L.t127; have a127 := L.a127; have z127 := L.z127; have v127 := L.v127; have u127 := run_underlying L.t127
 have t3 := L.t3; have a3 := L.a3; have z3 := L.z3; have v3 := L.v3; have u3 := run_underlying L.t3
 have t9 := L.t9; have a9 := L.a9; have z9 := L.z9; have v9 := L.v9; have u9 := run_underlying L.t9
 have t5 := X.t5; have a5 := X.a5; have z5 := X.z5; have v5 := X.v5; have u5 := run_underlying X.t5
 go_enter L.f169, Body.n169_ntmps ρ
 go_wp2
 go_region_o
 all_goals (go_wp2; go_ret; exact ⟨rfl, rfl⟩)
end Go.Proofs
namespace Hm
open Go
set_option maxRecDepth 100000
def u8V (c : UInt8) : V := .int .u8 c.toNat
theorem ups_id {σ : Store} {nm : Nat} {b : Blk} (h : σ nm = b) : ups σ nm b = σ := by
 funext k
 unfold ups
 cases hb : Nat.beq k nm with
 | true => have := Nat.eq_of_beq_eq_true hb; subst this; exact h.symm
 | false => rfl
theorem setCell_row (w : World) (b j : Nat) (c : Array Value) (e : TypeId) (fr : Nat × Nat) (v : Value) (hb : w.heap[b]? = some (.cells c e fr)) : w.setCell ⟨b, j, none⟩ v = w.setRow b (c.setIfInBounds j v) := by
 unfold World.setCell World.setRow
 congr 1
 apply Array.ext_getElem?
 intro k
 simp only [Array.getElem?_modify]
 by_cases hk : b = k
 · subst hk
   simp [hb]
 · simp [hk]
theorem freeze_facts (w : World) (b n : Nat) (c : Array Value) (e : TypeId) (h0 : n ≠ 0) (hb : w.heap[b]? = some (.cells c e (0, 0))) :
  (w.drew.freeze ⟨b, 0, none⟩ n).heap.size = w.heap.size ∧ (w.drew.freeze ⟨b, 0, none⟩ n).os = w.os ∧ (w.drew.freeze ⟨b, 0, none⟩ n).tape = w.tape ∧ Out w (w.drew.freeze ⟨b, 0, none⟩ n) ∧
    (∀ k, k ≠ b → (w.drew.freeze ⟨b, 0, none⟩ n).heap[k]? = w.heap[k]?) ∧ (w.drew.freeze ⟨b, 0, none⟩ n).heap[b]? = some (.cells c e (0, 0 + n)) := by
 unfold World.freeze
 rw [if_neg h0]
 refine ⟨(by show (w.heap.modify b _).size = _; exact Array.size_modify), rfl, rfl, ⟨rfl, fun _ => Nat.le_succ _⟩, fun k hk => ?_, ?_⟩
 · show (w.heap.modify b _)[k]? = _
   rw [Array.getElem?_modify, if_neg (fun e => hk e.symm)]
 · show (w.heap.modify b _)[b]? = _
   rw [Array.getElem?_modify, if_pos rfl, hb]
   rfl
theorem ct_copyCheck {G : Type} {P : Program} {H : HT G} {ρ : Shelf.Ren} (L : Go.Proofs.Lays.n240 P ρ) (X : Go.Proofs.Builder.X72 P ρ) (nm : Nat) (p buf : V) {pn : List Nat} {σ : Store} {g : G} (hty : nm / 1099511627776 = ρ.t 72 + 1)
  (hσ : σ nm = .box (.agg [p, buf])) (hp : p = .nilptr ∨ p = .bptr nm 0) (hpn : ∀ nm', nm' ∉ pn → σ nm' = .unused) :
  CT P H (ρ.f 240) [.bptr nm 0] pn σ g fun v σ' g' => v = .tup [] ∧ σ' = ups σ nm (.box (.agg [.bptr nm 0, buf])) ∧ g' = g := by
 refine ⟨by simp only [callable, L.f240]; rfl, fun J lc hst hM hH w S F θ xs hs hargs => ?_⟩
 obtain ⟨hlen, hrep⟩ := hargs
 match xs, hlen with
 | [x], _ =>
 have hx := hrep 0 _ x rfl rfl
 have hn : σ nm ≠ .unused := by rw [hσ]; intro h; cases h
 obtain ⟨b, m, hθ, rfl⟩ : ∃ b m, θ nm = some (b, m) ∧ x = .pointer (some ⟨b, 0, none⟩) := by
  cases hx with
  | pure h => cases h
  | bptr _ _ _ _ _ h => exact h _ hσ
 have hblk := hs.hblk nm
 rw [hσ] at hblk
 obtain ⟨b', c, e, hθ', hb, ⟨hsz, hte⟩, hcell⟩ := hblk
 rw [hθ] at hθ'
 injection hθ' with hθ'
 injection hθ' with e1 e2
 subst e1
 have hte' : e = ρ.t 72 := by
  rcases hte with h | h
  · exact absurd (hty.symm.trans h) (Nat.succ_ne_zero _)
  · exact Nat.succ.inj (h.symm.trans hty)
 subst hte'
 have hsz2 : c.size = 2 := hsz
 obtain ⟨y0, hy0, hr0⟩ := hcell 0 p rfl
 obtain ⟨y1, hy1, hr1⟩ := hcell 1 buf rfl
 have hc0 : w.cell? ⟨b, 0, none⟩ = some y0 := by simp [World.cell?, hb, hy0]
 rcases hp with rfl | rfl
 ·
  have hy : y0 = .pointer none := by
   cases hr0 with
   | pure h => cases h; rfl
  subst hy
  have hcall := (callsIn_wide (n := 0)).2 (Go.Proofs.Any.Builder_copyCheck_fresh L X b w hc0 (by simp [World.shape?, hb, hsz2]) (by simp [World.frozen?, hb]))
  refine hcall.mono fun en w' he' => ?_
  obtain ⟨rfl, rfl⟩ := he'
  rw [setCell_row w b 0 c (ρ.t 72) (0, 0) _ hb]
  have hl : (σ nm).live := live_box hσ
  have hcs : (c.setIfInBounds 0 (Value.pointer (some ⟨b, 0, none⟩))).size = c.size := by simp
  have hfr := Fr.write hs nm b m c (c.setIfInBounds 0 (Value.pointer (some ⟨b, 0, none⟩))) (ρ.t 72) (.box (.agg [.bptr nm 0, buf])) hl hθ hb hcs (by rw [hσ]; exact ⟨_, rfl⟩)
  have hst2 := St.write hst hs nm b m (c.setIfInBounds 0 (Value.pointer (some ⟨b, 0, none⟩))) (.box (.agg [.bptr nm 0, buf])) hl hθ hfr (by
   refine ⟨b, _, ρ.t 72, by rw [hθ]; exact congrArg (fun q => some (b, q)) e2, setRow_heap w b c _ _ _ hb, ⟨by rw [hcs]; exact hsz, hte⟩, fun j v hj => ?_⟩
   match j, hj with
   | 0, hj =>
    cases hj
    refine ⟨.pointer (some ⟨b, 0, none⟩), ?_, .bptr nm 0 _ rfl (by rw [upt_self]; intro h; cases h) fun row _ => ⟨b, m, hθ, rfl⟩⟩
    rw [Array.getElem?_setIfInBounds_self_of_lt (by omega)]
   | 1, hj =>
    cases hj
    refine ⟨y1, ?_, hr1.fr hfr hs⟩
    rw [Array.getElem?_setIfInBounds_ne (by omega)]
    exact hy1)
  exact ⟨.tup [], _, _, g, S, F, θ, rfl, ⟨rfl, rfl, rfl⟩, hst2, .pure (.tup [] [] rfl fun i v x h1 h2 => by simp at h1), hfr, fun nm' hnm => by
   have h5 : nm' ≠ nm := fun h => by rw [h] at hnm; exact hn (hpn nm hnm)
   rw [upt_ne σ _ h5]
   exact hpn nm' hnm⟩
 · have hy : y0 = .pointer (some ⟨b, 0, none⟩) := by
    cases hr0 with
    | pure h => cases h
    | bptr _ _ _ _ _ h =>
     obtain ⟨b2, m2, h1, h2⟩ := h _ hσ
     rw [hθ] at h1
     injection h1 with h1
     injection h1 with h1 _
     subst h1
     exact h2
   subst hy
   have hcall := (callsIn_wide (n := 0)).2 (Go.Proofs.Any.Builder_copyCheck_used L X b w hc0)
   refine hcall.mono fun en w' he' => ?_
   obtain ⟨rfl, rfl⟩ := he'
   exact ⟨.tup [], _, σ, g, S, F, θ, rfl, ⟨rfl, (ups_id hσ).symm, rfl⟩, hs, .pure (.tup [] [] rfl fun i v x h1 h2 => by simp at h1), Fr.refl _ _ _ _ _, hpn⟩
theorem ct_String {G : Type} {P : Program} {H : HT G} {ρ : Shelf.Ren} (L : Go.Proofs.Lays.n169 P ρ) (X : Go.Proofs.Builder.Extra P ρ) (nm vn : Nat) (p : V) (s : List UInt8) {pn : List Nat} {σ : Store} {g : G} (hne : s ≠ []) (h63 : s.length ≤ 9223372036854775807)
  (hty : nm / 1099511627776 = ρ.t 72 + 1) (htv : vn / 1099511627776 = ρ.t 5 + 1) (hwd : wd vn = 1) (hσ : σ nm = .box (.agg [p, .sl (.own vn) (s.map u8V)])) (hv : σ vn = .vec s.length) (hpn : ∀ nm', nm' ∉ pn → σ nm' = .unused) :
  CT P H (ρ.f 169) [.bptr nm 0] pn σ g fun v σ' g' => v = .str s ∧ σ' = ups (ups σ vn .dead) nm .dead ∧ g' = g := by
 refine ⟨by simp only [callable, L.f169]; rfl, fun J lc hst hM hH w S F θ xs hs hargs => ?_⟩
 obtain ⟨hlen, hrep⟩ := hargs
 match xs, hlen with
 | [x], _ =>
 have hx := hrep 0 _ x rfl rfl
 have hn : σ nm ≠ .unused := by rw [hσ]; intro h; cases h
 have hnv : nm ≠ vn := fun h => by rw [h, hv] at hσ; cases hσ
 obtain ⟨b, m, hθ, rfl⟩ : ∃ b m, θ nm = some (b, m) ∧ x = .pointer (some ⟨b, 0, none⟩) := by
  cases hx with
  | pure h => cases h
  | bptr _ _ _ _ _ h => exact h _ hσ
 have hblk := hs.hblk nm
 rw [hσ] at hblk
 obtain ⟨b', c, e, hθ', hb, ⟨hsz, hte⟩, hcell⟩ := hblk
 rw [hθ] at hθ'
 injection hθ' with hθ'
 injection hθ' with e1 e2
 subst e1
 have hte' : e = ρ.t 72 := by
  rcases hte with h | h
  · exact absurd (hty.symm.trans h) (Nat.succ_ne_zero _)
  · exact Nat.succ.inj (h.symm.trans hty)
 subst hte'
 have hsz2 : c.size = 2 := hsz
 obtain ⟨y0, hy0, hr0⟩ := hcell 0 p rfl
 obtain ⟨y1, hy1, hr1⟩ := hcell 1 _ rfl
 have hrow : c = #[y0, y1] := by
  apply Array.ext_getElem?
  intro k
  match k with
  | 0 => rw [hy0]; rfl
  | 1 => rw [hy1]; rfl
  | k + 2 => rw [Array.getElem?_eq_none (by omega), Array.getElem?_eq_none (by simp)]
 generalize hL : s.map u8V = L at hr1
 cases hr1 with
 | pure h => cases h
 | ownemp _ a hn0 => exact absurd (List.map_eq_nil_iff.1 hL) hne
 | own _ _ b2 off cap m2 ys hn2 hb2 hcap2 hw2 hc2 hr2 hf2 =>
  subst hL
  obtain ⟨hk1, hk2⟩ := hf2 _ hv
  obtain ⟨hθ2, rfl, hco⟩ := hk2 (by simp)
  have hblk2 := hs.hblk vn
  rw [hv] at hblk2
  rcases hblk2 with ⟨h1, _⟩ | ⟨b3, m3, cur, e3, hθ3, hb3, hm3, hk3, ht3⟩
  · rw [hθ2] at h1; cases h1
  rw [hθ2] at hθ3
  injection hθ3 with hθ3
  injection hθ3 with q1 q2
  subst q1 q2
  have hte3 : e3 = ρ.t 5 := by
   rcases ht3 with h | h
   · exact absurd (htv.symm.trans h) (Nat.succ_ne_zero _)
   · exact Nat.succ.inj (h.symm.trans htv)
  subst hte3
  rw [hwd] at hm3
  subst hm3
  have hsl : (s.map u8V).length = s.length := by simp
  have hpos : 0 < s.length := List.length_pos_iff.2 hne
  rw [hsl] at hy1 hcap2
  have hcell2 : ∀ (j : Nat) (x : UInt8), s[j]? = some x → w.cell? ⟨b2, j, none⟩ = some (.int .u8 x.toNat) := by
   intro j x hj
   have h1 := hc2 j 0 (u8V x) (u8V x) (by rw [List.getElem?_map, hj]; rfl) rfl
   have h2 : RepP w S (.int .u8 x.toNat) (ys j 0) := hr2 j 0 (u8V x) (u8V x) (by rw [List.getElem?_map, hj]; rfl) rfl
   generalize ys j 0 = y at h1 h2
   cases h2
   have h3 : (0 + j * 1 + 0 : Nat) = j := by omega
   rw [h3] at h1
   exact h1
  have hcall := (callsIn_wide (n := 0)).2 (Go.Proofs.Builder_String_row L X b b2 cap y0 cur s w hne (by rw [hb, hrow, hsl]) hb3 (by omega) (by omega) h63 hcell2)
  refine hcall.mono fun en w' he' => ?_
  obtain ⟨rfl, rfl⟩ := he'
  have hlv := live_vec hv
  have hlb := live_box hσ
  obtain ⟨f1, f2, f3, f4, f5, f6⟩ := freeze_facts w b2 s.length cur (ρ.t 5) (by omega) hb3
  generalize w.drew.freeze ⟨b2, 0, none⟩ s.length = w' at f1 f2 f3 f4 f5 f6 ⊢
  have hs1 := St.freeze hst hs vn hlv
  have hfr1 : Fr w S F θ σ w _ F θ (ups σ vn .dead) := Fr.freeze vn hlv
  have hlb1 : (ups σ vn .dead nm).live := by rw [upt_ne σ _ hnv]; exact hlb
  have hs2 := St.freeze hst hs1 nm hlb1
  have hfr2 := hfr1.trans hs1 (Fr.freeze nm hlb1)
  have hs2l : ∀ k, (ups (ups σ vn .dead) nm .dead k).live → k ≠ nm ∧ k ≠ vn ∧ (σ k).live := fun k hk => by
   by_cases e1 : k = nm
   · subst e1; rw [upt_self] at hk; exact hk.elim
   · rw [upt_ne _ _ e1] at hk
     by_cases e2 : k = vn
     · subst e2; rw [upt_self] at hk; exact hk.elim
     · rw [upt_ne _ _ e2] at hk; exact ⟨e1, e2, hk⟩
  have hnl : ¬ LiveB θ (ups (ups σ vn .dead) nm .dead) b2 := fun ⟨k, mk, h1, h2⟩ => by
   obtain ⟨_, h3, h4⟩ := hs2l k h1
   exact h3 (hs.hinj k vn b2 mk 1 h4 hlv h2 hθ2)
  have hLb2 : LiveB θ σ b2 := ⟨vn, 1, hlv, hθ2⟩
  have hfr : Fr w S F θ σ w' (fun q => (S q ∨ ∃ m, θ vn = some (q, m)) ∨ ∃ m, θ nm = some (q, m)) F θ (ups (ups σ vn .dead) nm .dead) := { hfr2 with
   size := by omega
   os := f2
   tape := f3
   output := f4
   same := fun k hk hl hF => f5 k fun e => hl (by rw [e]; exact hLb2)
   sized := fun k c0 e0 fr h => by
    by_cases ek : k = b2
    · subst ek
      rw [hb3] at h
      injection h with h
      injection h with h1 h2 h3
      subst h1 h2 h3
      exact ⟨cur, _, f6, rfl, .inr ⟨.inl (.inr ⟨1, hθ2⟩), hnl⟩⟩
    · exact ⟨c0, fr, by rw [f5 k ek]; exact h, rfl, .inl rfl⟩
   vecs := fun k q b0 m0 h1 h2 j hj => by
    by_cases ek : b0 = b2
    · subst ek
      simp [World.cell?, f6, hb3]
    · exact cell_of_heap (f5 b0 ek) }
  refine ⟨.str s, .string ⟨s.toArray⟩, ups (ups σ vn .dead) nm .dead, g, _, F, θ, rfl, ⟨rfl, rfl, rfl⟩, ⟨fun q hq => by rw [f1]; exact hs2.hS q hq, fun k => ?_, fun k k' b0 m0 m1 h1 h2 h3 h4 => hs.hinj k k' b0 m0 m1 (hs2l k h1).2.2 (hs2l k' h2).2.2 h3 h4, hs2.hliveS, fun q hq => by rw [f1]; exact hs2.hF q hq, ?_⟩, .pure (.str s), hfr, fun k hk => ?_⟩
  · by_cases e1 : k = nm
    · subst e1; rw [upt_self]; trivial
    · by_cases e2 : k = vn
      · subst e2; rw [upt_ne _ _ e1, upt_self]; trivial
      · exact BlkOk.later hs hfr k (by rw [upt_ne _ _ e1, upt_ne _ _ e2]) rfl fun b0 m0 h1 h2 => f5 b0 fun e => e2 (hs.hinj k vn b0 m0 1 h1 hlv h2 (by rw [e]; exact hθ2))
  · exact hst.2 g w S F w' _ hs.hJ hs.hS (fun q hq => (hs.hF q hq).1) (fun q hq => f5 q fun e => by
     subst e
     rcases hq with hq | hq
     · exact hs.hliveS q hLb2 hq
     · exact (hs.hF q hq).2.2 hLb2) hfr.smono hfr.size f2 f3 f4 (fun q hq => ⟨by rw [f1]; exact hs2.hS q hq, fun hf => (hs2.hF q hf).2.1 hq⟩) hfr.sizedS
  · have h5 : k ≠ nm := fun h => by rw [h] at hk; exact hn (hpn nm hk)
    have h6 : k ≠ vn := fun h => by rw [h] at hk; have := hpn vn hk; rw [this] at hv; cases hv
    rw [upt_ne _ _ h5, upt_ne _ _ h6]
    exact hpn k hk
end Hm
end
section
namespace Go.Proofs
open Go.Shelf
def Tryz.bl_ren : Go.Shelf.Ren := ⟨fun | 240 => 123 | 276 => 151 | 169 => 69 | _ => 0,
 fun | 0 => 0 | 3 => 3 | 4 => 4 | 5 => 5 | 9 => 9 | 20 => 20 | 37 => 115 | 70 => 114 | 72 => 117 | 127 => 168 | 164 => 182 | _ => 0, fun x => x⟩
theorem Tryz.bl_240 : Lays.n240 Tryz.prog Tryz.bl_ren :=
 { mixed := by kernel_rfl,
   f240 := Tryz.func123.trans (congrArg some (by kernel_rfl)),
   f276 := Tryz.func151.trans (congrArg some (by kernel_rfl)),
   t0 := Tryz.underlying0, a0 := Tryz.isAgg0, z0 := Tryz.sizeOf0, v0 := Tryz.zeroValue0,
   t4 := Tryz.underlying4, a4 := Tryz.isAgg4, z4 := Tryz.sizeOf4, v4 := Tryz.zeroValue4,
   t9 := Tryz.underlying9, a9 := Tryz.isAgg9, z9 := Tryz.sizeOf9, v9 := Tryz.zeroValue9,
   t20 := Tryz.underlying20, a20 := Tryz.isAgg20, z20 := Tryz.sizeOf20, v20 := Tryz.zeroValue20,
   t70 := Tryz.underlying114, a70 := Tryz.isAgg114, z70 := Tryz.sizeOf114, v70 := Tryz.zeroValue114,
   t72 := Tryz.underlying117, a72 := Tryz.isAgg117, z72 := Tryz.sizeOf117, v72 := Tryz.zeroValue117,
   t164 := Tryz.underlying182, a164 := Tryz.isAgg182, z164 := Tryz.sizeOf182, v164 := Tryz.zeroValue182 }
theorem Tryz.bl_169 : Lays.n169 Tryz.prog Tryz.bl_ren :=
 { mixed := by kernel_rfl,
   f169 := Tryz.func69.trans (congrArg some (by kernel_rfl)),
   t0 := Tryz.underlying0, a0 := Tryz.isAgg0, z0 := Tryz.sizeOf0, v0 := Tryz.zeroValue0,
   t3 := Tryz.underlying3, a3 := Tryz.isAgg3, z3 := Tryz.sizeOf3, v3 := Tryz.zeroValue3,
   t9 := Tryz.underlying9, a9 := Tryz.isAgg9, z9 := Tryz.sizeOf9, v9 := Tryz.zeroValue9,
   t37 := Tryz.underlying115, a37 := Tryz.isAgg115, z37 := Tryz.sizeOf115, v37 := Tryz.zeroValue115,
   t70 := Tryz.underlying114, a70 := Tryz.isAgg114, z70 := Tryz.sizeOf114, v70 := Tryz.zeroValue114,
   t72 := Tryz.underlying117, a72 := Tryz.isAgg117, z72 := Tryz.sizeOf117, v72 := Tryz.zeroValue117,
   t127 := Tryz.underlying168, a127 := Tryz.isAgg168, z127 := Tryz.sizeOf168, v127 := Tryz.zeroValue168 }
theorem Tryz.bl_x : Builder.Extra Tryz.prog Tryz.bl_ren :=
 { sizeBuilder := by kernel_rfl, liesBuilder := by kernel_rfl, t5 := Tryz.underlying5, a5 := Tryz.isAgg5, z5 := Tryz.sizeOf5, v5 := Tryz.zeroValue5,
   infoByte := by kernel_rfl, cellsByte := by kernel_rfl, sizeByte := by kernel_rfl, neB5 := by decide }
end Go.Proofs
namespace Hm
open Go
set_option maxRecDepth 100000
set_option maxHeartbeats 4000000
section
variable {G : Type} {P : Program} {H : HT G} {pn : List Nat} {Q : Exit → Env → Store → G → Prop} {fs : List (Frm G)} {ρ : Env} {σ : Store} {g : G} {r : List GItem} {d : Nat}
theorem i_apps {l s : List UInt8} {bytes et nm k : Nat} {x y : Opd} (hx : ev ρ x = .sl (.own nm) (l.map u8V)) (hy : ev ρ y = .str s) (hs : σ nm = .vec k) (hk : l.length = k) (hw : (Nat.beq (wd nm) 1 && tyOkB nm et) = true)
  (h1 : (k + s.length) * bytes ≤ 140737488355328) (h2 : k + s.length ≤ 140737488355328)
  (h : WI P H pn Q fs r (upd ρ d (.sl (.own nm) ((l ++ s).map u8V))) (ups σ nm (.vec (k + s.length))) g) : WI P H pn Q fs (.op (some d) none (.append 1 bytes et x y) :: r) ρ σ g := i_out (by
 have e : (s.map fun c => V.int .u8 c.toNat).length = s.length := by simp
 simp only [AWop, hx, hy, srcR, hs, e]
 refine ⟨by simpa using hk, hw, fun row hrow => ?_, h1, h2, ?_⟩
 · obtain ⟨c, _, rfl⟩ := List.mem_map.1 hrow
   exact ⟨rfl, rfl⟩
 · rw [List.map_append] at h
   exact h.out)
end
def bldS (p : V) (s : List UInt8) : List (Nat × Blk) := [(129742373101890, .box (.agg [p, .sl (.own 6597070793921) (s.map u8V)])), (6597070793921, .vec s.length)]
def bldN : V := .bptr 129742373101890 0
theorem bld_eq {σ : Store} {p : V} {s : List UInt8} (h1 : σ 129742373101890 = .box (.agg [p, .sl (.own 6597070793921) (s.map u8V)])) (h2 : σ 6597070793921 = .vec s.length)
  (hpn : ∀ nm, σ nm ≠ .unused → nm ∈ [129742373101890, 6597070793921]) : σ = stOf (bldS p s) := by
 funext k
 simp only [stOf, bldS]
 cases e1 : Nat.beq k 129742373101890 with
 | true => rw [Nat.eq_of_beq_eq_true e1]; exact h1
 | false =>
  cases e2 : Nat.beq k 6597070793921 with
  | true => rw [Nat.eq_of_beq_eq_true e2]; exact h2
  | false =>
   refine Classical.byContradiction fun h => ?_
   have := hpn k h
   simp only [List.mem_cons, List.not_mem_nil, or_false] at this
   rcases this with rfl | rfl
   · rw [Nat.beq_refl] at e1; cases e1
   · rw [Nat.beq_refl] at e2; cases e2
theorem ct_cc {G : Type} {H : HT G} (p : V) (hp : p = .nilptr ∨ p = bldN) (s : List UInt8) (σ : Store) (hσ : σ = stOf (bldS p s)) (g : G) : Cc PG H 123 [bldN] [129742373101890, 6597070793921] σ g fun r σ' g' => r = .tup [] ∧ σ' = stOf (bldS bldN s) ∧ g' = g := by
 subst hσ
 refine Cc_mono (fun v σ' g' h => ?_) ⟨ct_copyCheck (ρ := Go.Proofs.Tryz.bl_ren) Go.Proofs.Tryz.bl_240 Go.Proofs.Tryz.bl_x.toX72 129742373101890 p (.sl (.own 6597070793921) (s.map u8V)) (by decide +kernel) rfl hp (fun nm h => Classical.byContradiction fun h' => h (stOf_mem (bldS p s) nm h'))⟩
 obtain ⟨rfl, rfl, rfl⟩ := h
 refine ⟨rfl, ?_, rfl⟩
 funext k
 simp only [ups, stOf, bldS, bldN]
 cases Nat.beq k 129742373101890 <;> rfl
def c_strings_Builder_WriteByte : Cmd :=
 (qS [qq 4 (.mov (.c (.any)))]
 (qS [qm 5 0, qq 6 (.call (.s [129742373101890, 6597070793921]) (.c (.fn 123 [])) [.t 5])]
 (qS [qm 7 0, qm 8 0, qq 9 (.nilck (.t 8)), qf 10 1 9, ql 11 1 10, qm 12 1, qq 13 (.bsl 1 [.t 12]), qq 14 (.append 1 1 5 (.t 11) (.t 13)), qq 15 (.nilck (.t 7)), qf 16 1 15, qs 1 16 14]
 (.seq (.ops [qq 4 (.mov (.c (.any)))]) .ret))))
def r_strings_Builder_WriteByte : List RVar := [.tmp 4]
def n_strings_Builder_WriteByte : Nat := 17
theorem k_strings_Builder_WriteByte : chkFn PG 68 n_strings_Builder_WriteByte r_strings_Builder_WriteByte c_strings_Builder_WriteByte = true := by kernel_rfl
theorem ct_WriteByte {G : Type} {H : HT G} (p : V) (hp : p = .nilptr ∨ p = bldN) (s : List UInt8) (c : UInt8) (hl : s.length ≤ 1000000) (σ : Store) (hσ : σ = stOf (bldS p s)) (g : G) :
  Cc PG H 68 [bldN, u8V c] [129742373101890, 6597070793921] σ g fun r σ' g' => r = .any ∧ σ' = stOf (bldS bldN (s ++ [c])) ∧ g' = g := by
 subst hσ
 rcases hp with rfl | rfl
 all_goals
  refine CT.step _ mixed k_strings_Builder_WriteByte (fun nm h => stOf_mem (bldS _ s) nm h) fun hM => ?_
  repeat (first | refine i_s rfl ?_ | refine sw ?_)
  refine i_c rfl rfl rfl (ct_cc _ (by first | exact .inl rfl | exact .inr rfl) s _ (bld_eq rfl rfl fun nm h => restr_mem nm h) g) ?_
  rintro _ _ _ ⟨rfl, rfl, rfl⟩
  repeat (first | refine i_s rfl ?_ | refine sw ?_)
  refine i_appM rfl rfl rfl rfl rfl (by omega) (by omega) ?_
  repeat (first | refine i_s rfl ?_ | refine sw ?_ | refine i_stb rfl ?_)
  refine e_ret ⟨rfl, _, rfl, rfl, rfl, rfl, ?_, rfl⟩
  refine bld_eq rfl ?_ fun nm h => restr_mem nm h
  rw [List.length_append]
  rfl
def c_strings_Builder_WriteString : Cmd :=
 (qS [qc 4 0, qq 5 (.mov (.c (.any)))]
 (qS [qm 6 0, qq 7 (.call (.s [129742373101890, 6597070793921]) (.c (.fn 123 [])) [.t 6])]
 (qS [qm 8 0, qm 9 0, qq 10 (.nilck (.t 9)), qf 11 1 10, ql 12 1 11, qm 13 1, qq 14 (.append 1 1 5 (.t 12) (.t 13)), qq 15 (.nilck (.t 8)), qf 16 1 15, qs 1 16 14]
 (.seq (.ops [qm 17 1, qq 18 (.len true (.t 17)), qm 4 18, qq 5 (.mov (.c (.any)))]) .ret))))
def r_strings_Builder_WriteString : List RVar := [.tmp 4, .tmp 5]
def n_strings_Builder_WriteString : Nat := 19
theorem k_strings_Builder_WriteString : chkFn PG 67 n_strings_Builder_WriteString r_strings_Builder_WriteString c_strings_Builder_WriteString = true := by kernel_rfl
theorem ct_WriteString {G : Type} {H : HT G} (p : V) (hp : p = .nilptr ∨ p = bldN) (s c : List UInt8) (hl : s.length ≤ 1000000) (hc : c.length ≤ 1000000) (σ : Store) (hσ : σ = stOf (bldS p s)) (g : G) :
  Cc PG H 67 [bldN, .str c] [129742373101890, 6597070793921] σ g fun r σ' g' => r = .tup [.int .i64 c.length, .any] ∧ σ' = stOf (bldS bldN (s ++ c)) ∧ g' = g := by
 subst hσ
 rcases hp with rfl | rfl
 all_goals
  refine CT.step _ mixed k_strings_Builder_WriteString (fun nm h => stOf_mem (bldS _ s) nm h) fun hM => ?_
  repeat (first | refine i_s rfl ?_ | refine sw ?_)
  refine i_c rfl rfl rfl (ct_cc _ (by first | exact .inl rfl | exact .inr rfl) s _ (bld_eq rfl rfl fun nm h => restr_mem nm h) g) ?_
  rintro _ _ _ ⟨rfl, rfl, rfl⟩
  repeat (first | refine i_s rfl ?_ | refine sw ?_)
  refine i_apps rfl rfl rfl rfl rfl (by omega) (by omega) ?_
  repeat (first | refine i_s rfl ?_ | refine sw ?_ | refine i_stb rfl ?_)
  refine e_ret ⟨rfl, _, rfl, rfl, rfl, rfl, ?_, rfl⟩
  refine bld_eq rfl ?_ fun nm h => restr_mem nm h
  rw [List.length_append]
  rfl
def wrF (l : List Sx) : V := .fn 66 [.cptr .p (.sl .p (l.map sxV)) 0, bldN, .bptr 1024385 0]
def bld3 (l : List Sx) (p : V) (s : List UInt8) : List (Nat × Blk) := [(129742373101890, .box (.agg [p, .sl (.own 6597070793921) (s.map u8V)])), (6597070793921, .vec s.length), (1024385, .box (wrF l))]
theorem bld3_eq {σ : Store} {l : List Sx} {p : V} {s : List UInt8} (h1 : σ 129742373101890 = .box (.agg [p, .sl (.own 6597070793921) (s.map u8V)])) (h2 : σ 6597070793921 = .vec s.length) (h3 : σ 1024385 = .box (wrF l))
  (hpn : ∀ nm, σ nm ≠ .unused → nm ∈ [129742373101890, 6597070793921, 1024385]) : σ = stOf (bld3 l p s) := by
 funext k
 simp only [stOf, bld3]
 cases e1 : Nat.beq k 129742373101890 with
 | true => rw [Nat.eq_of_beq_eq_true e1]; exact h1
 | false =>
  cases e2 : Nat.beq k 6597070793921 with
  | true => rw [Nat.eq_of_beq_eq_true e2]; exact h2
  | false =>
   cases e3 : Nat.beq k 1024385 with
   | true => rw [Nat.eq_of_beq_eq_true e3]; exact h3
   | false =>
    refine Classical.byContradiction fun h => ?_
    have := hpn k h
    simp only [List.mem_cons, List.not_mem_nil, or_false] at this
    rcases this with rfl | rfl | rfl
    · rw [Nat.beq_refl] at e1; cases e1
    · rw [Nat.beq_refl] at e2; cases e2
    · rw [Nat.beq_refl] at e3; cases e3
theorem joinF_take_len (xs : List (List UInt8)) : ∀ k, (joinF (xs.take k)).length ≤ (joinF xs).length := by
 induction xs with
 | nil => intro k; simp
 | cons a xs ih =>
  intro k
  cases k with
  | zero => simp [joinF]
  | succ k =>
   cases xs with
   | nil => simp [joinF]
   | cons b r =>
    have := ih k
    rw [List.take_succ_cons]
    cases k with
    | zero => simp [joinF]
    | succ k =>
     rw [List.take_succ_cons] at this ⊢
     simp only [joinF, List.length_append, List.length_cons] at this ⊢
     omega
def c_sexpr_Print_1 : Cmd :=
 (qT (qS [ql 7 1 1, qm 8 0, qi 9 2 7 8, qf 10 0 9, ql 11 1 10, qq 12 (.bin .neq false [.s] (.t 11) (.c (.str [])))]
 (.cond (.t 12) (.seq (.ops [ql 13 1 1, qm 14 0, qi 15 2 13 14, qf 16 0 15, ql 17 1 16, qq 18 (.call (.s [129742373101890, 6597070793921]) (.c (.fn 67 [])) [.t 2, .t 17])]) .ret) .skip))
 (qS [qq 19 (.call (.s [129742373101890, 6597070793921]) (.c (.fn 68 [])) [.t 2, .c (.int .u8 40)])]
 (qT (qS [ql 20 1 1, qm 21 0, qi 22 2 20 21, qf 23 1 22, ql 24 1 23, qn 25 24, qc 26 0]
 (.block 0 (.loop (qS [qu 27 .lss [] 26 25]
 (qT (.cond (.t 27) .skip (.exit 0))
 (qT (.block 1 (qS [qm 28 26, qi 29 1 24 26, ql 30 1 29, qm 5 28, qm 6 30]
 (qT (qS [qm 31 5, qv 32 .gtr [] 31 0]
 (.cond (.t 32) (.ops [qq 33 (.call (.s [129742373101890, 6597070793921]) (.c (.fn 68 [])) [.t 2, .c (.int .u8 32)])]) .skip))
 (.ops [ql 34 1 3, qm 35 6, qq 36 (.call (.s [129742373101890, 6597070793921, 1024385]) (.t 34) [.t 35])]))))
 (.ops [qv 37 .add [] 26 1, qm 26 37])))))))
 (.ops [qq 38 (.call (.s [129742373101890, 6597070793921]) (.c (.fn 68 [])) [.t 2, .c (.int .u8 41)])]))))
def r_sexpr_Print_1 : List RVar := []
def n_sexpr_Print_1 : Nat := 39
theorem k_sexpr_Print_1 : chkFn PG 66 n_sexpr_Print_1 r_sexpr_Print_1 c_sexpr_Print_1 = true := by kernel_rfl
theorem ct_write {G : Type} {H : HT G} (l : List Sx) (ho : SxsOk l) (hv : okTo l l.length) : ∀ (i : Nat), i < l.length → ∀ (p : V), (p = .nilptr ∨ p = bldN) → ∀ (acc : List UInt8), acc.length + (tx l i).length ≤ 100000 → ∀ (σ : Store), σ = stOf (bld3 l p acc) → ∀ g : G,
  Cc PG H 66 [.int .i64 i, .cptr .p (.sl .p (l.map sxV)) 0, bldN, .bptr 1024385 0] [129742373101890, 6597070793921, 1024385] σ g fun r σ' g' => r = .tup [] ∧ σ' = stOf (bld3 l bldN (acc ++ tx l i)) ∧ g' = g := by
 intro i
 induction i using Nat.strongRecOn with
 | ind i ih =>
  intro hi p hp acc hacc σ hσ g
  subst hσ
  obtain ⟨n, hn⟩ := get_some hi
  have hlow : lowTo l (i + 1) := fun j hj => hv.low j (by omega)
  have htx := tx_eq hlow hn
  have hcl := (ho.e n (mem_get hn)).2
  by_cases c1 : n.sym = []
  · rw [if_pos c1] at htx
    rw [htx] at hacc ⊢
    simp only [List.length_cons, List.length_append, List.length_nil] at hacc
    rcases hp with rfl | rfl
    all_goals
     refine CT.step _ mixed k_sexpr_Print_1 (fun nm h => stOf_mem (bld3 l _ acc) nm h) fun hM => ?_
     repeat' (first | refine i_s rfl ?_ | refine sw ?_ | refine jd rfl rfl ?_ | refine c_cond rfl (fun h => ?_) (fun h => ?_))
     all_goals first
      | (exfalso; clear ih ho hv; simp_all; done)
      | skip
     refine i_c rfl rfl rfl (ct_WriteByte _ (by first | exact .inl rfl | exact .inr rfl) acc 40 (by omega) _ (bld_eq rfl rfl fun nm h => restr_mem nm h) g) ?_
     rintro _ _ g ⟨rfl, rfl, rfl⟩
     repeat (first | refine i_len rfl ?_ | refine i_s rfl ?_ | refine sw ?_ | refine jd rfl rfl ?_)
     refine c_for n.ch.length (fun k => [(1, .cptr .p (.sl .p (l.map sxV)) 0), (2, bldN), (3, .bptr 1024385 0), (24, .sl .p (n.ch.map i64V)), (25, .int .i64 n.ch.length), (26, .int .i64 k)])
      (fun k => bld3 l bldN (acc ++ 40 :: joinF ((n.ch.take k).map fun c => tx l c.toNat))) (fun _ => True) trivial ft fun k hk _ => ?_
     have hjl := joinF_take_len (n.ch.map fun c => tx l c.toNat) k
     rw [← List.map_take] at hjl
     have hal : (acc ++ 40 :: joinF ((n.ch.take k).map fun c => tx l c.toNat)).length ≤ 100000 := by simp only [List.length_append, List.length_cons]; omega
     repeat (first | refine i_s rfl ?_ | refine sw ?_)
     refine c_cond rfl (fun h => ?_) (fun h => ?_)
     · have hkl : k < n.ch.length := by simpa using h
       obtain ⟨c, hc⟩ := get_some hkl
       have hcr := hlow i (by omega) c (by rw [chL_get hn]; exact mem_get hc)
       have hj2 := joinF_take_len (n.ch.map fun c => tx l c.toNat) (k + 1)
       rw [← List.map_take, take_succ_get hc, List.map_append, List.map_singleton, joinF_snoc] at hj2
       have hih := fun p hp acc hacc σ hσ => ih c.toNat (by omega) (by omega) p hp acc hacc σ hσ g
       rw [show ((c.toNat : Nat) : Int) = c from by omega] at hih
       have hk0 : ((n.ch.take k).map fun c => tx l c.toNat) = [] ↔ k = 0 := by
        rw [List.map_eq_nil_iff, List.take_eq_nil_iff]
        constructor
        · rintro (h | h)
          · exact h
          · rw [h] at hkl; simp at hkl
        · exact .inl
       have e : joinF ((n.ch.take (k + 1)).map fun c => tx l c.toNat) = if k = 0 then tx l c.toNat else joinF ((n.ch.take k).map fun c => tx l c.toNat) ++ 32 :: tx l c.toNat := by
        rw [take_succ_get hc, List.map_append, List.map_singleton, joinF_snoc]
        by_cases h0 : k = 0
        · subst h0; simp
        · rw [if_neg h0, if_neg fun e => h0 (hk0.1 e)]
       clear h ih hv ho
       by_cases h0 : k = 0
       · subst h0
         rw [if_pos rfl] at e
         rw [if_pos (hk0.2 rfl)] at hj2
         repeat' (first | refine i_s rfl ?_ | refine sw ?_ | refine c_f rfl ?_ | refine jd rfl rfl ?_ | fail)
         all_goals first
          | (exfalso; have := of_decide_eq_true h; omega)
          | skip
         refine i_c rfl rfl rfl (hih bldN (.inr rfl) (acc ++ 40 :: joinF ((n.ch.take 0).map fun c => tx l c.toNat)) (by simp [joinF]; omega) _ (bld3_eq rfl rfl rfl fun nm h => restr_mem nm h)) ?_
         rintro _ _ g ⟨rfl, rfl, rfl⟩
         repeat (first | refine i_s rfl ?_ | refine sw ?_ | refine ja rfl rfl ?_)
         have eA : acc ++ 40 :: joinF ((n.ch.take (0 + 1)).map fun c => tx l c.toNat) = (acc ++ 40 :: joinF ((n.ch.take 0).map fun c => tx l c.toNat)) ++ tx l c.toNat := by rw [e]; simp [joinF]
         refine e_for hkl trivial ⟨⟨rfl, rfl, rfl, rfl, rfl, rfl, trivial⟩, ⟨?_, ?_, rfl, trivial⟩, rfl⟩
         · rw [eA]; rfl
         · rw [eA]; rfl
       · rw [if_neg h0] at e
         rw [if_neg (fun e => h0 (hk0.1 e))] at hj2
         generalize joinF ((n.ch.take k).map fun c => tx l c.toNat) = J at *
         simp only [List.length_append, List.length_cons] at hj2 hal
         repeat' (first | refine i_s rfl ?_ | refine sw ?_ | refine jd rfl rfl ?_ | refine c_cond rfl (fun h => ?_) (fun h => ?_))
         all_goals first
          | (exfalso; have := of_decide_eq_false h; omega)
          | skip
         refine i_c rfl rfl rfl (ct_WriteByte bldN (.inr rfl) (acc ++ 40 :: J) 32 (by simp; omega) _ (bld_eq rfl rfl fun nm h => restr_mem nm h) g) ?_
         rintro _ _ g ⟨rfl, rfl, rfl⟩
         repeat (first | refine i_s rfl ?_ | refine sw ?_)
         refine i_c rfl rfl rfl (hih bldN (.inr rfl) ((acc ++ 40 :: J) ++ [32]) (by simp; omega) _ (bld3_eq rfl rfl rfl fun nm h => restr_mem nm h)) ?_
         rintro _ _ g ⟨rfl, rfl, rfl⟩
         repeat (first | refine i_s rfl ?_ | refine sw ?_ | refine ja rfl rfl ?_)
         have eA : acc ++ 40 :: joinF ((n.ch.take (k + 1)).map fun c => tx l c.toNat) = ((acc ++ 40 :: J) ++ [32]) ++ tx l c.toNat := by rw [e]; simp
         refine e_for hkl trivial ⟨⟨rfl, rfl, rfl, rfl, rfl, rfl, trivial⟩, ⟨?_, ?_, rfl, trivial⟩, rfl⟩
         · rw [eA]; rfl
         · rw [eA]; rfl
     · have hge : k = n.ch.length := by have : ¬ k < n.ch.length := by simpa using h
                                        omega
       subst hge
       rw [List.take_length] at *
       clear h ih hv ho
       generalize joinF (n.ch.map fun c => tx l c.toNat) = J at *
       repeat refine sw ?_
       refine i_c rfl rfl rfl (ct_WriteByte bldN (.inr rfl) (acc ++ 40 :: J) 41 (by omega) _ (bld_eq rfl rfl fun nm h => restr_mem nm h) g) ?_
       rintro _ _ g ⟨rfl, rfl, rfl⟩
       repeat refine sw ?_
       have eA : acc ++ 40 :: (J ++ [41]) = (acc ++ 40 :: J) ++ [41] := by simp
       refine e_end ⟨rfl, _, rfl, rfl, rfl, rfl, ?_, rfl⟩
       rw [eA]
       exact bld3_eq rfl rfl rfl fun nm h => restr_mem nm h
  · rw [if_neg c1] at htx
    rw [htx] at hacc ⊢
    rcases hp with rfl | rfl
    all_goals
     refine CT.step _ mixed k_sexpr_Print_1 (fun nm h => stOf_mem (bld3 l _ acc) nm h) fun hM => ?_
     repeat' (first | refine i_s rfl ?_ | refine sw ?_ | refine jd rfl rfl ?_ | refine c_cond rfl (fun h => ?_) (fun h => ?_))
     all_goals first
      | (exfalso; clear ih ho hv; simp_all; done)
      | skip
     refine i_c rfl rfl rfl (ct_WriteString _ (by first | exact .inl rfl | exact .inr rfl) acc n.sym (by omega) (by omega) _ (bld_eq rfl rfl fun nm h => restr_mem nm h) g) ?_
     rintro _ _ g ⟨rfl, rfl, rfl⟩
     repeat refine sw ?_
     refine e_ret ⟨rfl, _, rfl, rfl, rfl, rfl, ?_, rfl⟩
     exact bld3_eq rfl rfl rfl fun nm h => restr_mem nm h
end Hm
end
section
namespace Hm
open Go
set_option maxRecDepth 100000
set_option maxHeartbeats 4000000
theorem tx_ne {l : List Sx} {i : Nat} {n : Sx} (h : lowTo l (i + 1)) (hn : l[i]? = some n) : tx l i ≠ [] := by
 rw [tx_eq h hn]
 split
 · simp
 · assumption
def c_sexpr_Print : Cmd :=
 (qS [qx 1 1024065 1 0, qq 2 (.mov (.c (.str []))), qq 3 (.alloc 1024194 (.agg [.int .i64 0, .int .i64 0]))]
 (.seq (qS [ql 7 1 1, qk 8 65 [7], qq 4 (.alloc 1024258 (.agg [.int .i64 0, .int .i64 0])), qs 2 4 8]
 (qS [qL 9 2 4, qq 10 (.build [.int .i64 0, .int .i64 0] []), qq 11 (.bin .neq true [.i, .i] (.t 9) (.t 10))]
 (.cond (.t 11) (.seq (.ops [qL 12 2 4, qq 2 (.mov (.c (.str []))), qs 2 3 12]) .ret) .skip))) (qT (.frz 1)
 (.seq (.ops [qq 5 (.alloc 129742373101890 (.agg [.nilptr, .sl .nil []]))]) (.nvb 5 1 6597070793921 (.cut (qS [qq 6 (.alloc 1024385 (.nilfn))]
 (qS [qq 13 (.mkfn 66 [.t 1, .t 5, .t 6]), qs 1 6 13]
 (qS [ql 14 1 6, ql 15 1 1, qn 16 15, qv 17 .sub [] 16 1, qq 18 (.call (.s [129742373101890, 6597070793921, 1024385]) (.t 14) [.t 17])]
 (.seq (.ops [qq 19 (.call (.s [129742373101890, 6597070793921]) (.c (.fn 69 [])) [.t 5]), qq 20 (.build [.int .i64 0, .int .i64 0] []), qm 2 19, qs 2 3 20]) .ret))))))))))
def r_sexpr_Print : List RVar := [.tmp 2, .cell true 2 3]
def n_sexpr_Print : Nat := 21
theorem k_sexpr_Print : chkFn PG 16 n_sexpr_Print r_sexpr_Print c_sexpr_Print = true := by kernel_rfl
theorem f_sexpr_Print_bad (l : List Sx) (ho : SxsOk l) (hb : sxFault l ≠ okF) : Fc PG 16 [.sl .p (l.map sxV)] (.tup [.str [], ftV (sxFault l)]) := by
 have hV := f_sexpr_Validate l ho
 refine Fn.step mixed k_sexpr_Print ?_
 repeat' (first | refine i_s rfl ?_ | refine sw ?_ | refine i_stb rfl ?_ | refine i_alloc rfl ?_ | refine i_box rfl rfl ?_ | refine c_cond rfl (fun h => ?_) (fun h => ?_) | refine sf rfl rfl hV ?_ | fail)
 all_goals first
  | exact e_ret ⟨rfl, _, rfl, rfl⟩
  | exact absurd (eq_ok (by assumption)) hb
theorem f_sexpr_Print_ok (l : List Sx) (ho : SxsOk l) (hb : SxOk l) : Fc PG 16 [.sl .p (l.map sxV)] (.tup [.str (tx l (l.length - 1)), ftV okF]) := by
 have hV := f_sexpr_Validate l ho
 rw [sxOk_to hb] at hV
 obtain ⟨hl1, hl2⟩ := hb.len
 obtain ⟨n, hn⟩ := get_some (l := l) (k := l.length - 1) (by omega)
 have htl := tx_len (l.length - 1) l.length hb.node (by omega)
 have hsz := sz_leC (l.length - 1) l.length hb.node.chs (by omega)
 have hne := tx_ne (fun j hj => hb.node.low j (by omega)) hn
 refine Fn.step mixed k_sexpr_Print ?_
 repeat (first | refine i_s rfl ?_ | refine sw ?_ | refine c_f rfl ?_ | refine i_stb rfl ?_ | refine i_alloc rfl ?_ | refine i_box rfl rfl ?_ | refine sf rfl rfl hV ?_)
 refine c_frzb rfl rfl rfl ?_
 repeat (first | refine sw ?_ | refine i_alloc rfl ?_)
 refine c_nvb rfl rfl rfl rfl ?_
 repeat (first | refine i_len rfl ?_ | refine i_s rfl ?_ | refine sw ?_ | refine jb rfl rfl ?_ | refine i_stb rfl ?_ | refine i_alloc rfl ?_)
 have hW := @ct_write Unit noH l ho hb.node (l.length - 1) (by omega) .nilptr (.inl rfl) [] (by simp; omega)
 rw [show ((l.length - 1 : Nat) : Int) = (l.length : Int) - 1 from by omega] at hW
 refine i_c rfl rfl rfl (hW _ (bld3_eq rfl rfl rfl fun nm h => restr_mem nm h) _) ?_
 rintro _ _ g ⟨rfl, rfl, rfl⟩
 rw [List.nil_append]
 generalize tx l (l.length - 1) = s at *
 refine i_nil ?_
 repeat refine sw ?_
 refine i_c rfl rfl rfl ⟨ct_String (ρ := Go.Proofs.Tryz.bl_ren) Go.Proofs.Tryz.bl_169 Go.Proofs.Tryz.bl_x 129742373101890 6597070793921 bldN s hne (by omega) (by decide +kernel) (by decide +kernel) rfl rfl rfl (fun nm h => (restr_out (θ := θ0) h).1)⟩ ?_
 rintro _ _ g ⟨rfl, rfl, rfl⟩
 repeat (first | refine i_s rfl ?_ | refine sw ?_ | refine i_stb rfl ?_)
 exact e_ret ⟨rfl, _, rfl, rfl⟩
abbrev nmE (b : Nat) (s : List UInt8) : Nat × List V := (92, [.cptr .p (.raw b 0) 0, .cptr .p (.str s) 0])
theorem ct_list2 {G : Type} {H : HT G} (b : Nat) (e f : Nat × List V) (t u : Tr) (he : El b e t) (hf : El b f u) (R : List Sx) (hR : R.length + tsz (.lst [t, u]) ≤ 1000000) (g : G) : Cc PG H 41 [.raw b 0, .sl .p ([e, f].map fnV)] WNS (stOf (wS b R)) g fun r σ' g' => (r = .int .i64 ((R.length + tsz (.lst [t, u]) : Nat) - 1 : Int) ∧ σ' = stOf (wS b (R ++ flt R.length (.lst [t, u])))) ∧ g' = g :=
 ct_wlist b [e, f] [t, u] (Els.cons he (Els.cons hf (Els.nil b))) R hR (by simp) g
def c_domain_writer_schema_1 : Cmd :=
 (qS [qx 2 6336130 2 0, qc 3 0]
 (.seq (.ops [ql 4 1 1, ql 5 1 1, qf 6 0 2, ql 7 1 6, qk 8 100 [7], qk 9 42 [5, 8], ql 10 1 1, qf 11 1 2, ql 12 1 11, qk 13 100 [12], qk 14 42 [10, 13], qq 15 (.bsl 1 [.t 9, .t 14]), qq 16 (.call (.s [705153, 715522]) (.c (.fn 41 [])) [.t 4, .t 15]), qm 3 16]) .ret))
def r_domain_writer_schema_1 : List RVar := [.tmp 3]
def n_domain_writer_schema_1 : Nat := 17
theorem k_domain_writer_schema_1 : chkFn PG 99 n_domain_writer_schema_1 r_domain_writer_schema_1 c_domain_writer_schema_1 = true := by kernel_rfl
abbrev wfPair (b : Nat) : Nat × List V := (99, [.cptr .p (.raw b 0) 0])
theorem wr_pair (hI : ItoaOk) (b : Nat) : Wr b (wfPair b) pairV pairT (fun p => 0 ≤ p.1 ∧ p.1 ≤ 100 ∧ 0 ≤ p.2 ∧ p.2 ≤ 100) := by
 refine ⟨rfl, fun ns => rfl, fun p hp G H g R hR => ?_⟩
 obtain ⟨h1, h2, h3, h4⟩ := hp
 have i1 := itoa_at hI h1 h2
 have i2 := itoa_at hI h3 h4
 have n1 := f_writer_name b (dig p.1.toNat)
 have n2 := f_writer_name b (dig p.2.toNat)
 have hrun := ct_list2 (G := G) (H := H) b (nmE b (dig p.1.toNat)) (nmE b (dig p.2.toNat)) _ _ (el_name b _) (el_name b _) R hR g
 refine CT.step _ mixed k_domain_writer_schema_1 (fun nm hnm => stOf_mem _ nm hnm) fun hM => ?_
 repeat (first | refine i_s rfl ?_ | refine sw ?_ | refine i_box rfl rfl ?_ | refine sf rfl rfl i1 ?_ | refine sf rfl rfl n1 ?_ | refine sf rfl rfl i2 ?_ | refine sf rfl rfl n2 ?_)
 refine i_cs rfl rfl rfl rfl hrun ?_
 rintro _ _ _ ⟨⟨rfl, rfl⟩, rfl⟩
 repeat (first | refine i_s rfl ?_ | refine sw ?_)
 exact e_ret ⟨rfl, _, rfl, rfl, rfl, ⟨rfl, restr_stOf _ _⟩, rfl⟩
def c_domain_writer_schema_2 : Cmd :=
 (qS [qc 3 0]
 (.seq (.ops [ql 4 1 0, ql 5 1 0, qL 6 6 1, qf 7 1 2, ql 8 1 7, qk 9 48 [5, 6, 8], qq 10 (.call (.s [705153, 715522]) (.c (.fn 41 [])) [.t 4, .t 9]), qm 3 10]) .ret))
def r_domain_writer_schema_2 : List RVar := [.tmp 3]
def n_domain_writer_schema_2 : Nat := 11
theorem k_domain_writer_schema_2 : chkFn PG 101 n_domain_writer_schema_2 r_domain_writer_schema_2 c_domain_writer_schema_2 = true := by kernel_rfl
abbrev eTys (b : Nat) (d : Dom) (s : Sch) : Nat × List V := (101, [.cptr .p (.raw b 0) 0, .cptr .p (domV d) 0, .cptr .p (schV s) 0])
theorem el_tys (b : Nat) (d : Dom) (s : Sch) (hl : s.types.length ≤ 1000) (ht : ∀ t ∈ s.types, t < d.types.length) : El b (eTys b d s) (.lst (s.types.map (nmT d))) := by
 refine ⟨rfl, fun ns => rfl, fun G H g R hR => ?_⟩
 have hT := f_typeNamesW b d s.types (by omega)
 have hrun := ct_wlist (G := G) (H := H) b (s.types.map (eE_int (wfNm b d))) (s.types.map (nmT d)) (els_each_int (wr_nm b d) ht) R hR (by simp; omega) g
 refine CT.step _ mixed k_domain_writer_schema_2 (fun nm hnm => stOf_mem _ nm hnm) fun hM => ?_
 repeat (first | refine i_s rfl ?_ | refine sw ?_ | refine sf rfl rfl hT ?_)
 refine i_cs rfl rfl rfl rfl hrun ?_
 rintro _ _ _ ⟨⟨rfl, rfl⟩, rfl⟩
 repeat (first | refine i_s rfl ?_ | refine sw ?_)
 exact e_ret ⟨rfl, _, rfl, rfl, rfl, ⟨rfl, restr_stOf _ _⟩, rfl⟩
def c_domain_writer_schema : Cmd :=
 (.seq (.ops [qx 3 3136193 1 0, qx 4 3136262 6 1, qx 5 3136327 7 2, qq 6 (.mov (.c (.nilfn)))]) (.seq (.frz 5) (.seq (.frz 4) (qT (.frz 3)
 (qS [qf 8 2 5, ql 9 1 8, qq 10 (.mkfn 99 [.t 3]), qk 11 98 [9, 10], qm 7 11]
 (.seq (.ops [ql 12 1 3, ql 13 1 3, qf 14 0 5, ql 15 1 14, qk 16 42 [13, 15], qq 17 (.mkfn 101 [.t 3, .t 4, .t 5]), ql 18 1 3, qm 19 7, qq 20 (.call .f (.c (.fn 38 [])) [.t 18, .c (.str [100, 105, 102, 102, 101, 114, 101, 110, 116]), .t 19]), ql 21 1 3, qL 22 6 4, qf 23 3 5, ql 24 1 23, qq 25 (.call .f (.c (.fn 51 [])) [.t 21, .t 22, .c (.str [112, 114, 101]), .t 24]), ql 26 1 3, qL 27 6 4, qf 28 4 5, ql 29 1 28, qq 30 (.call .f (.c (.fn 50 [])) [.t 26, .t 27, .c (.str [97, 100, 100]), .t 29]), ql 31 1 3, qL 32 6 4, qf 33 5 5, ql 34 1 33, qq 35 (.call .f (.c (.fn 50 [])) [.t 31, .t 32, .c (.str [100, 101, 108]), .t 34]), ql 36 1 3, qf 37 6 5, ql 38 1 37, qk 39 100 [38], qk 40 42 [36, 39], qq 41 (.bsl 1 [.t 16, .t 17, .t 20, .t 25, .t 30, .t 35, .t 40]), qq 42 (.call .f (.c (.fn 38 [])) [.t 12, .c (.str [97, 99, 116, 105, 111, 110]), .t 41]), qm 6 42]) .ret))))))
def r_domain_writer_schema : List RVar := [.tmp 6]
def n_domain_writer_schema : Nat := 43
theorem k_domain_writer_schema : chkFn PG 49 n_domain_writer_schema r_domain_writer_schema c_domain_writer_schema = true := by kernel_rfl
abbrev schEs (b : Nat) (d : Dom) (s : Sch) : List (Nat × List V) := [nmE b s.name, eTys b d s, secE b sDifferent (s.diff.map (eE_2_int (wfPair b))), secE b sPre (s.pre.map (eE_Literal (wfLit b d))), secE b sAdd (s.add.map (eE_Atom (wfAt b d))), secE b sDel (s.del.map (eE_Atom (wfAt b d))), nmE b (dig s.cost.toNat)]
abbrev schE (b : Nat) (d : Dom) (s : Sch) : Nat × List V := secE b sAction (schEs b d s)
theorem f_schemaW (hI : ItoaOk) (b : Nat) (d : Dom) (s : Sch) (h1 : s.diff.length ≤ 1000) (h2 : s.pre.length ≤ 1000) (h3 : s.add.length ≤ 1000) (h4 : s.del.length ≤ 1000) (c0 : 0 ≤ s.cost) (c1 : s.cost ≤ 100) : Fc PG 49 [.raw b 0, domV d, schV s] (fnV (schE b d s)) := by
 have hP := f_each_2_int (wfPair b) rfl s.diff (by omega)
 have n1 := f_writer_name b s.name
 have s1 := f_writer_section b sDifferent (s.diff.map (eE_2_int (wfPair b)))
 have s2 := f_literalsW b d sPre s.pre (by omega)
 have s3 := f_atomsW b d sAdd s.add (by omega)
 have s4 := f_atomsW b d sDel s.del (by omega)
 have i1 := itoa_at hI c0 c1
 have n2 := f_writer_name b (dig s.cost.toNat)
 have s5 := f_writer_section b sAction (schEs b d s)
 refine Fn.step mixed k_domain_writer_schema ?_
 repeat (first | refine i_s rfl ?_ | refine sw ?_ | refine i_box rfl rfl ?_)
 refine c_frzb rfl rfl rfl ?_
 repeat refine sw ?_
 refine c_frzb rfl rfl rfl ?_
 repeat refine sw ?_
 refine c_frzb rfl rfl rfl ?_
 repeat (first | refine i_s rfl ?_ | refine sw ?_ | refine sf rfl rfl hP ?_ | refine sf rfl rfl n1 ?_ | refine sf rfl rfl s1 ?_ | refine sf rfl rfl s2 ?_ | refine sf rfl rfl s3 ?_ | refine sf rfl rfl s4 ?_ | refine sf rfl rfl i1 ?_ | refine sf rfl rfl n2 ?_ | refine sf rfl rfl s5 ?_)
 exact e_ret ⟨rfl, _, rfl, rfl⟩
theorem el_sch (hI : ItoaOk) (b : Nat) {d : Dom} (hd : DomV d) {s : Sch} (hs : s ∈ d.schemas) : El b (schE b d s) (schT d s) := by
 obtain ⟨i, hi⟩ := List.getElem?_of_mem hs
 have hv := (schV2_of hd hi).val
 have h0 := hv.types
 have q2 := hv.dl
 have q3 := hv.prel
 have q4 := hv.addl
 have q5 := hv.dell
 have a3 := fun x hx => (atW_of hd (ps := s.types) (by omega) (hv.pre x hx)).1
 have a4 := fun x hx => (atW_of hd (ps := s.types) (by omega) (hv.add x hx)).1
 have a5 := fun x hx => (atW_of hd (ps := s.types) (by omega) (hv.del x hx)).1
 refine el_section b sAction (schEs b d s) [.sym s.name, .lst (s.types.map (nmT d)), secT sDifferent (s.diff.map pairT), secT sPre (s.pre.map (litT d)), secT sAdd (s.add.map (atT d)), secT sDel (s.del.map (atT d)), .sym (dig s.cost.toNat)] ?_ (by simp)
 refine Els.cons (el_name b _) (Els.cons (el_tys b d s (by omega) fun t ht => (h0.2 t ht).2) (Els.cons ?_ (Els.cons ?_ (Els.cons ?_ (Els.cons ?_ (Els.cons (el_name b _) (Els.nil b)))))))
 · exact el_section b sDifferent _ _ (els_each_2_int (wr_pair hI b) fun p hp => by have := hv.diff p hp; omega) (by simp; omega)
 · exact el_section b sPre _ _ (els_each_Literal (wr_lit hI b d) a3) (by simp; omega)
 · exact el_section b sAdd _ _ (els_each_Atom (wr_at hI b d) a4) (by simp; omega)
 · exact el_section b sDel _ _ (els_each_Atom (wr_at hI b d) a5) (by simp; omega)
def c_domain_Print_1 : Cmd :=
 (qS [qx 3 2560194 2 0, qc 4 0]
 (.seq (.ops [ql 5 1 1, ql 6 1 1, qf 7 0 3, ql 8 1 7, qk 9 42 [6, 8], ql 10 1 1, qL 11 6 2, qf 12 1 3, ql 13 1 12, qk 14 43 [11, 13], qk 15 42 [10, 14], qq 16 (.bsl 1 [.t 9, .t 15]), qq 17 (.call (.s [705153, 715522]) (.c (.fn 41 [])) [.t 5, .t 16]), qm 4 17]) .ret))
def r_domain_Print_1 : List RVar := [.tmp 4]
def n_domain_Print_1 : Nat := 18
theorem k_domain_Print_1 : chkFn PG 40 n_domain_Print_1 r_domain_Print_1 c_domain_Print_1 = true := by kernel_rfl
abbrev wfTy (b : Nat) (d : Dom) : Nat × List V := (40, rdC b d)
theorem wr_ty (b : Nat) (d : Dom) : Wr b (wfTy b d) tyV (tyT d) (fun t => t.parent < d.types.length) := by
 refine ⟨rfl, fun ns => rfl, fun t ht G H g R hR => ?_⟩
 have hT := f_typeName d t.parent ht
 have n1 := f_writer_name b t.name
 have n2 := f_writer_name b (typeNm d t.parent)
 have hrun := ct_list2 (G := G) (H := H) b (nmE b t.name) (nmE b (typeNm d t.parent)) _ _ (el_name b _) (el_name b _) R hR g
 refine CT.step _ mixed k_domain_Print_1 (fun nm hnm => stOf_mem _ nm hnm) fun hM => ?_
 repeat (first | refine i_s rfl ?_ | refine sw ?_ | refine i_box rfl rfl ?_ | refine sf rfl rfl hT ?_ | refine sf rfl rfl n1 ?_ | refine sf rfl rfl n2 ?_)
 refine i_cs rfl rfl rfl rfl hrun ?_
 rintro _ _ _ ⟨⟨rfl, rfl⟩, rfl⟩
 repeat (first | refine i_s rfl ?_ | refine sw ?_)
 exact e_ret ⟨rfl, _, rfl, rfl, rfl, ⟨rfl, restr_stOf _ _⟩, rfl⟩
def c_domain_Print_2 : Cmd :=
 (qS [qx 3 2880194 2 0, qc 4 0]
 (.seq (.ops [ql 5 1 1, ql 6 1 1, qf 7 0 3, ql 8 1 7, qk 9 42 [6, 8], ql 10 1 1, qL 11 6 2, qf 12 1 3, ql 13 1 12, qk 14 43 [11, 13], qk 15 42 [10, 14], qq 16 (.bsl 1 [.t 9, .t 15]), qq 17 (.call (.s [705153, 715522]) (.c (.fn 41 [])) [.t 5, .t 16]), qm 4 17]) .ret))
def r_domain_Print_2 : List RVar := [.tmp 4]
def n_domain_Print_2 : Nat := 18
theorem k_domain_Print_2 : chkFn PG 45 n_domain_Print_2 r_domain_Print_2 c_domain_Print_2 = true := by kernel_rfl
abbrev wfOb (b : Nat) (d : Dom) : Nat × List V := (45, rdC b d)
theorem wr_ob (b : Nat) (d : Dom) : Wr b (wfOb b d) obV (obT d) (fun t => t.type < d.types.length) := by
 refine ⟨rfl, fun ns => rfl, fun t ht G H g R hR => ?_⟩
 have hT := f_typeName d t.type ht
 have n1 := f_writer_name b t.name
 have n2 := f_writer_name b (typeNm d t.type)
 have hrun := ct_list2 (G := G) (H := H) b (nmE b t.name) (nmE b (typeNm d t.type)) _ _ (el_name b _) (el_name b _) R hR g
 refine CT.step _ mixed k_domain_Print_2 (fun nm hnm => stOf_mem _ nm hnm) fun hM => ?_
 repeat (first | refine i_s rfl ?_ | refine sw ?_ | refine i_box rfl rfl ?_ | refine sf rfl rfl hT ?_ | refine sf rfl rfl n1 ?_ | refine sf rfl rfl n2 ?_)
 refine i_cs rfl rfl rfl rfl hrun ?_
 rintro _ _ _ ⟨⟨rfl, rfl⟩, rfl⟩
 repeat (first | refine i_s rfl ?_ | refine sw ?_)
 exact e_ret ⟨rfl, _, rfl, rfl, rfl, ⟨rfl, restr_stOf _ _⟩, rfl⟩
def c_domain_Print_3 : Cmd :=
 (qS [qx 3 3008194 2 0, qc 4 0]
 (.seq (.ops [ql 5 1 1, qf 6 0 3, ql 7 1 6, ql 8 1 1, qL 9 6 2, qf 10 1 3, ql 11 1 10, qk 12 48 [8, 9, 11], qk 13 38 [5, 7, 12], qq 14 (.call (.s [705153, 715522]) (.t 13) []), qm 4 14]) .ret))
def r_domain_Print_3 : List RVar := [.tmp 4]
def n_domain_Print_3 : Nat := 15
theorem k_domain_Print_3 : chkFn PG 47 n_domain_Print_3 r_domain_Print_3 c_domain_Print_3 = true := by kernel_rfl
abbrev wfPr (b : Nat) (d : Dom) : Nat × List V := (47, rdC b d)
theorem wr_pr (b : Nat) (d : Dom) : Wr b (wfPr b d) prdV (prT d) (fun p => p.types.length ≤ 1000 ∧ ∀ t ∈ p.types, t < d.types.length) := by
 refine ⟨rfl, fun ns => rfl, fun p hp G H g R hR => ?_⟩
 obtain ⟨hl, ht⟩ := hp
 have hT := f_typeNamesW b d p.types (by omega)
 have hS := f_writer_section b p.name (p.types.map (eE_int (wfNm b d)))
 have hrun := (el_section b p.name _ _ (els_each_int (wr_nm b d) ht) (by simp; omega)).run G H g R hR
 refine CT.step _ mixed k_domain_Print_3 (fun nm hnm => stOf_mem _ nm hnm) fun hM => ?_
 repeat (first | refine i_s rfl ?_ | refine sw ?_ | refine i_box rfl rfl ?_ | refine sf rfl rfl hT ?_ | refine sf rfl rfl hS ?_)
 refine i_cs rfl rfl rfl rfl hrun ?_
 rintro _ _ _ ⟨⟨rfl, rfl⟩, rfl⟩
 repeat (first | refine i_s rfl ?_ | refine sw ?_)
 exact e_ret ⟨rfl, _, rfl, rfl, rfl, ⟨rfl, restr_stOf _ _⟩, rfl⟩
def c_domain_Print : Cmd :=
 (qS [qx 1 704070 6 0, qq 2 (.mov (.c (.str []))), qq 3 (.alloc 704194 (.agg [.int .i64 0, .int .i64 0]))]
 (qT (qS [qL 11 6 1, qk 12 8 [11], qq 4 (.alloc 704258 (.agg [.int .i64 0, .int .i64 0])), qs 2 4 12]
 (qS [qL 13 2 4, qq 14 (.build [.int .i64 0, .int .i64 0] []), qq 15 (.bin .neq true [.i, .i] (.t 13) (.t 14))]
 (.cond (.t 15) (.seq (.ops [qL 16 2 4, qq 2 (.mov (.c (.str []))), qs 2 3 16]) .ret) .skip)))
 (.seq (.ops [qq 17 (.build [.sl .nil []] []), qx 18 705153 1 17, qq 5 (.alloc 704321 (.nilptr)), qs 1 5 18]) (.nvb 18 0 715522 (.tagb 5 (.seq (.frz 5) (qT (.frz 1)
 (qS [ql 19 1 5, qf 20 0 1, ql 21 1 20, qq 22 (.mkfn 40 [.t 5, .t 1]), qk 23 39 [21, 22], qq 24 (.call .f (.c (.fn 38 [])) [.t 19, .c (.str [116, 121, 112, 101, 115]), .t 23]), ql 25 1 5, qf 26 1 1, ql 27 1 26, qq 28 (.mkfn 45 [.t 5, .t 1]), qk 29 44 [27, 28], qq 30 (.call .f (.c (.fn 38 [])) [.t 25, .c (.str [111, 98, 106, 101, 99, 116, 115]), .t 29]), ql 31 1 5, qf 32 2 1, ql 33 1 32, qq 34 (.mkfn 47 [.t 5, .t 1]), qk 35 46 [33, 34], qq 36 (.call .f (.c (.fn 38 [])) [.t 31, .c (.str [112, 114, 101, 100, 105, 99, 97, 116, 101, 115]), .t 35]), qq 37 (.bslA 706369 1 [.t 24, .t 30, .t 36]), qm 6 37]
 (qT (qS [qf 38 3 1, ql 39 1 38, qn 40 39, qc 41 0]
 (.block 0 (.loop (qS [qu 42 .lss [] 41 40]
 (qT (.cond (.t 42) .skip (.exit 0))
 (qT (.block 1 (qS [qi 43 7 39 41, qL 44 7 43, qq 8 (.alloc 704519 (.agg [.str [], .sl .nil [], .sl .nil [], .sl .nil [], .sl .nil [], .sl .nil [], .int .i64 0])), qs 7 8 44]
 (.ops [qm 45 6, ql 46 1 5, qL 47 6 1, qL 48 7 8, qk 49 49 [46, 47, 48], qq 50 (.bsl 1 [.t 49]), qq 51 (.append 1 8 78 (.t 45) (.t 50)), qm 6 51])))
 (.ops [qv 52 .add [] 41 1, qm 41 52])))))))
 (.seq (.ops [qm 53 6, ql 54 1 5, qL 55 6 1, qf 56 4 1, ql 57 1 56, qq 58 (.call .f (.c (.fn 50 [])) [.t 54, .t 55, .c (.str [105, 110, 105, 116]), .t 57]), ql 59 1 5, qL 60 6 1, qf 61 5 1, ql 62 1 61, qq 63 (.call .f (.c (.fn 51 [])) [.t 59, .t 60, .c (.str [103, 111, 97, 108]), .t 62]), qq 64 (.bsl 1 [.t 58, .t 63]), qq 65 (.append 1 8 78 (.t 53) (.t 64)), qm 6 65]) (qT (.frz 6)
 (qS [ql 66 1 5, qm 67 6, qq 68 (.call .f (.c (.fn 38 [])) [.t 66, .c (.str [100, 111, 109, 97, 105, 110]), .t 67]), qq 69 (.call (.s [705153, 715522]) (.t 68) [])]
 (qS [ql 71 1 5, qq 72 (.nilck (.t 71)), qf 73 0 72, ql 74 1 73, qk 75 16 [74], qm 70 75, qq 76 (.extract (.t 70) 0), qq 77 (.extract (.t 70) 1), qq 10 (.alloc 704642 (.agg [.int .i64 0, .int .i64 0])), qm 9 76, qs 2 10 77]
 (qT (qS [qL 78 2 10, qq 79 (.build [.int .i64 0, .int .i64 0] []), qq 80 (.bin .neq true [.i, .i] (.t 78) (.t 79)), qm 81 80, qg 82 81 false (.mov (.t 9)), qg 83 81 false (.len true (.t 82)), qg 84 81 false (.bin .gtr false [] (.t 83) (.c (.int .i64 4096))), qq 85 (.pick (.t 81) (.c (.bool true)) (.t 84))]
 (.cond (.t 85) (.seq (.ops [qq 86 (.build [.int .i64 0, .int .i64 0] [(0 , 1 , .c (.int .i64 10)), (1 , 1 , .c (.int .i64 (-7)))]), qq 2 (.mov (.c (.str []))), qs 2 3 86]) .ret) .skip))
 (.seq (.ops [qm 87 9, qq 88 (.build [.int .i64 0, .int .i64 0] []), qm 2 87, qs 2 3 88]) .ret)))))))))))))))
def r_domain_Print : List RVar := [.tmp 2, .cell true 2 3]
def n_domain_Print : Nat := 89
theorem k_domain_Print : chkFn PG 11 n_domain_Print r_domain_Print c_domain_Print = true := by kernel_rfl
abbrev es0 (b : Nat) (d : Dom) : List (Nat × List V) := [secE b sTypes (d.types.map (eE_Type (wfTy b d))), secE b sObjects (d.objects.map (eE_Object (wfOb b d))), secE b sPredicates (d.preds.map (eE_Predicate (wfPr b d)))]
abbrev esK (b : Nat) (d : Dom) (k : Nat) : List (Nat × List V) := es0 b d ++ (d.schemas.take k).map (schE b d)
abbrev esD (b : Nat) (d : Dom) : List (Nat × List V) := (es0 b d ++ d.schemas.map (schE b d)) ++ [secE b sInit (d.init.map (eE_Atom (wfAt b d))), secE b sGoal (d.goal.map (eE_Literal (wfLit b d)))]
theorem els_dom (hI : ItoaOk) (b : Nat) {d : Dom} (hd : DomV d) : Els b (esD b d) ([secT sTypes (d.types.map (tyT d)), secT sObjects (d.objects.map (obT d)), secT sPredicates (d.preds.map (prT d))] ++ d.schemas.map (schT d) ++ [secT sInit (d.init.map (atT d)), secT sGoal (d.goal.map (litT d))]) := by
 have hi := atomsCode_all hd.ini
 have hg := atomsCode_all hd.goal
 have q0 := hd.ty.ty.1
 have q1 := hd.ty.ol
 have q2 := hd.pl
 have q4 := hi.1
 have q5 := hg.1
 rw [List.length_map] at q5
 refine Els.append (Els.append ?_ (Els.map fun s hs => el_sch hI b hd hs)) ?_
 · refine Els.cons ?_ (Els.cons ?_ (Els.cons ?_ (Els.nil b)))
   · exact el_section b sTypes _ _ (els_each_Type (wr_ty b d) fun t ht => by
      obtain ⟨i, hi⟩ := List.getElem?_of_mem ht
      have := hd.ty.ty.2 i t hi
      have := get_lt hi
      omega) (by simp; omega)
   · exact el_section b sObjects _ _ (els_each_Object (wr_ob b d) fun o ho => (hd.ty.o o ho).2) (by simp; omega)
   · exact el_section b sPredicates _ _ (els_each_Predicate (wr_pr b d) fun p hp => by
      obtain ⟨i, hi⟩ := List.getElem?_of_mem hp
      have := (prdVal_of hd hi).types
      exact ⟨by omega, fun t ht => (this.2 t ht).2⟩) (by simp; omega)
 · refine Els.cons ?_ (Els.cons ?_ (Els.nil b))
   · exact el_section b sInit _ _ (els_each_Atom (wr_at hI b d) fun a ha => (atW_of hd (by simp) (hi.2 a ha)).1) (by simp; omega)
   · exact el_section b sGoal _ _ (els_each_Literal (wr_lit hI b d) fun x hx => (atW_of hd (by simp) (hg.2 x.at_ (List.mem_map_of_mem hx))).1) (by simp; omega)
theorem f_domain_Print (hI : ItoaOk) (d : Dom) (ho : DoOk d) : Fc PG 11 [domV d] (.tup [.str (printS d), ftV (printF d)]) := by
 have hV := f_domain_Validate d ho
 by_cases hdf : domFault d = okF
 · rw [hdf] at hV
   have hd := domV_of hdf
   have hsz := tsz_dom hd (by have := hd.ty.ty.1; omega)
   have htok := domT_tok hd
   have hso := flt_sxsOk htok (by omega)
   have q0 := hd.ty.ty.1
   have q1 := hd.ty.ol
   have q2 := hd.pl
   have q3 := hd.sl
   have hi := (atomsCode_all hd.ini).1
   have hg := (atomsCode_all hd.goal).1
   rw [List.length_map] at hg
   refine Fn.step mixed k_domain_Print ?_
   repeat' (first | refine i_s rfl ?_ | refine sw ?_ | refine c_f rfl ?_ | refine i_stb rfl ?_ | refine i_alloc rfl ?_ | refine i_box rfl rfl ?_ | refine sf rfl rfl hV ?_ | fail)
   all_goals first
    | (exfalso; clear hV; simp at *; done)
    | skip
   clear hV
   refine c_nvb rfl rfl rfl rfl ?_
   refine c_tagv rfl rfl rfl fun b => ?_
   repeat refine sw ?_
   refine c_frzb rfl rfl rfl ?_
   repeat refine sw ?_
   refine c_frzb rfl rfl rfl ?_
   have hE := els_dom hI b hd
   have c1 := f_each_Type (wfTy b d) rfl d.types (by omega)
   have c2 := f_each_Object (wfOb b d) rfl d.objects (by omega)
   have c3 := f_each_Predicate (wfPr b d) rfl d.preds (by omega)
   have s1 := f_writer_section b sTypes (d.types.map (eE_Type (wfTy b d)))
   have s2 := f_writer_section b sObjects (d.objects.map (eE_Object (wfOb b d)))
   have s3 := f_writer_section b sPredicates (d.preds.map (eE_Predicate (wfPr b d)))
   have hrun := (el_section b sDomain _ _ hE (by simp; omega)).run Unit noH () [] (by show 0 + tsz (domT d) ≤ _; omega)
   clear hE
   repeat (first | refine i_s rfl ?_ | refine sw ?_ | refine sf rfl rfl c1 ?_ | refine sf rfl rfl s1 ?_ | refine sf rfl rfl c2 ?_ | refine sf rfl rfl s2 ?_ | refine sf rfl rfl c3 ?_ | refine sf rfl rfl s3 ?_)
   refine i_bsla rfl rfl rfl rfl ?_
   clear c1 c2 c3 s1 s2 s3
   repeat (first | refine i_len rfl ?_ | refine i_s rfl ?_ | refine sw ?_)
   refine c_for d.schemas.length (fun k => [(1, .cptr .p (domV d) 0), (3, .bptr 704194 0), (5, .cptr .p (.raw b 0) 0), (6, .msl 706369 k 0 (esK b d k).length), (39, .sl .p (d.schemas.map schV)), (40, .int .i64 d.schemas.length), (41, .int .i64 k)])
    (fun k => (704194, .box (ftV okF)) :: (706369, .arr k ((esK b d k).map fnV)) :: wS b []) (fun _ => True) trivial ft fun k hk _ => ?_
   have hkl : (esK b d k).length = 3 + k := by simp only [List.length_append, List.length_map, List.length_take, List.length_cons, List.length_nil]; omega
   by_cases hlt : k < d.schemas.length
   · obtain ⟨s, hs⟩ := get_some hlt
     have hv := (schV2_of hd hs).val
     have hW := f_schemaW hI b d s (by have := hv.dl; omega) (by have := hv.prel; omega) (by have := hv.addl; omega) (by have := hv.dell; omega) hv.c0 hv.c1
     have e1 : esK b d (k + 1) = esK b d k ++ [schE b d s] := by
      show es0 b d ++ _ = (es0 b d ++ _) ++ _
      rw [take_succ_get hs, List.map_append, List.append_assoc]; rfl
     clear hrun hv
     repeat' (first | refine i_s rfl ?_ | refine sw ?_ | refine jd rfl rfl ?_ | refine i_stb rfl ?_ | refine i_alloc rfl ?_ | refine c_cond rfl (fun h => ?_) (fun h => ?_) | refine sf rfl rfl hW ?_ | fail)
     all_goals first
      | (exfalso; clear hW; simp at *; done)
      | (exfalso; clear hW; simp at *; omega)
      | skip
     refine i_appmM (f := fnV) (l := esK b d k) [schE b d s] rfl rfl rfl rfl rfl (fun c hc => ⟨rfl, rfl⟩) (by simp only [List.length_singleton]; omega) (by simp only [List.length_singleton]; omega) ?_
     repeat (first | refine i_s rfl ?_ | refine sw ?_ | refine ja rfl rfl ?_)
     refine e_for hlt trivial ⟨⟨rfl, rfl, rfl, ?_, rfl, rfl, rfl, trivial⟩, ⟨rfl, ?_, rfl, rfl, trivial⟩, rfl⟩
     · rw [e1]; rfl
     · rw [e1]; rfl
   have hge : k = d.schemas.length := by omega
   subst hge
   have etk : esK b d d.schemas.length = es0 b d ++ d.schemas.map (schE b d) := by
    show es0 b d ++ _ = _
    rw [List.take_length]
   rw [etk] at hkl ⊢
   have hA := f_atomsW b d sInit d.init (by omega)
   have hL := f_literalsW b d sGoal d.goal (by omega)
   have hS := f_writer_section b sDomain (esD b d)
   repeat (first | refine i_s rfl ?_ | refine sw ?_)
   refine c_f (by exact congrArg V.bool (by simp)) ?_
   repeat (first | refine i_s rfl ?_ | refine sw ?_ | refine sf rfl rfl hA ?_ | refine sf rfl rfl hL ?_)
   refine i_appmM (f := fnV) (l := es0 b d ++ d.schemas.map (schE b d)) [secE b sInit (d.init.map (eE_Atom (wfAt b d))), secE b sGoal (d.goal.map (eE_Literal (wfLit b d)))] rfl rfl rfl rfl rfl (fun c hc => ⟨rfl, rfl⟩) (by simp only [List.length_cons, List.length_nil]; omega) (by simp only [List.length_cons, List.length_nil]; omega) ?_
   clear hA hL
   repeat (first | refine i_s rfl ?_ | refine sw ?_)
   refine c_frzall rfl rfl rfl (by simp) ?_
   repeat (first | refine i_s rfl ?_ | refine sw ?_ | refine sf rfl rfl hS ?_)
   refine i_cs rfl rfl rfl rfl hrun ?_
   rintro _ _ _ ⟨⟨rfl, rfl⟩, rfl⟩
   clear hrun hS
   repeat (first | refine i_s rfl ?_ | refine sw ?_)
   refine i_ldr BX rfl rfl rfl ?_
   have hll := flt_len (domT d) 0
   by_cases hbig : tsz (domT d) > 300
   · have hb : bigD d = true := by unfold bigD; rw [decide_eq_true hbig]; rfl
     have e1 : printS d = [] := by unfold printS; rw [if_neg (fun h => h hdf), if_pos hb]
     have e2 : printF d = ⟨10, -7⟩ := by unfold printF; rw [if_neg (fun h => h hdf), if_pos hb]
     rw [e1, e2]
     have hsf : sxFault (flt 0 (domT d)) = ⟨2, -1⟩ := by unfold sxFault; rw [if_pos (.inr (by omega))]
     have hP := f_sexpr_Print_bad (flt 0 (domT d)) hso (by rw [hsf]; decide)
     rw [hsf] at hP
     have hP : Fc PG 16 [.sl .p (([] ++ flt ([] : List Sx).length (domT d)).map sxV)] (.tup [.str [], ftV ⟨2, -1⟩]) := hP
     repeat' (first | refine i_s rfl ?_ | refine sw ?_ | refine i_gf rfl ?_ | refine c_t rfl ?_ | refine i_stb rfl ?_ | refine i_alloc rfl ?_ | refine sf rfl rfl hP ?_ | fail)
     all_goals first
      | exact e_ret ⟨rfl, _, rfl, rfl⟩
      | (exfalso; clear hP; simp at *; done)
   · obtain ⟨hsx, htx, _⟩ := flt_ok htok (domT_dp d) (by omega)
     have hP := f_sexpr_Print_ok (flt 0 (domT d)) hso hsx
     rw [htx] at hP
     have hP : Fc PG 16 [.sl .p (([] ++ flt ([] : List Sx).length (domT d)).map sxV)] (.tup [.str (ttx (domT d)), ftV okF]) := hP
     by_cases h4 : (ttx (domT d)).length > 4096
     · have hb : bigD d = true := by unfold bigD; rw [decide_eq_true h4, Bool.or_true]
       have e1 : printS d = [] := by unfold printS; rw [if_neg (fun h => h hdf), if_pos hb]
       have e2 : printF d = ⟨10, -7⟩ := by unfold printF; rw [if_neg (fun h => h hdf), if_pos hb]
       rw [e1, e2]
       repeat' (first | refine i_s rfl ?_ | refine sw ?_ | refine i_gt rfl ?_ | refine i_stb rfl ?_ | refine i_alloc rfl ?_ | refine c_cond rfl (fun h => ?_) (fun h => ?_) | refine sf rfl rfl hP ?_ | fail)
       all_goals first
        | exact e_ret ⟨rfl, _, rfl, rfl⟩
        | (exfalso; clear hP; simp at *; done)
        | (exfalso; clear hP; simp at *; omega)
     · have hb : bigD d = false := by unfold bigD; rw [decide_eq_false hbig, decide_eq_false h4]; rfl
       have e1 : printS d = ttx (domT d) := by unfold printS; rw [if_neg (fun h => h hdf), if_neg (by rw [hb]; simp)]
       have e2 : printF d = okF := by unfold printF; rw [if_neg (fun h => h hdf), if_neg (by rw [hb]; simp)]
       rw [e1, e2]
       generalize ttx (domT d) = T at *
       repeat' (first | refine i_s rfl ?_ | refine sw ?_ | refine i_gt rfl ?_ | refine i_stb rfl ?_ | refine i_alloc rfl ?_ | refine c_cond rfl (fun h => ?_) (fun h => ?_) | refine sf rfl rfl hP ?_ | fail)
       all_goals first
        | exact e_ret ⟨rfl, _, rfl, rfl⟩
        | (exfalso; clear hP; simp at *; done)
        | (exfalso; clear hP; simp at *; omega)
 · have e1 : printS d = [] := by unfold printS; rw [if_pos hdf]
   have e2 : printF d = domFault d := by unfold printF; rw [if_pos hdf]
   rw [e1, e2]
   refine Fn.step mixed k_domain_Print ?_
   repeat' (first | refine i_s rfl ?_ | refine sw ?_ | refine i_stb rfl ?_ | refine i_alloc rfl ?_ | refine i_box rfl rfl ?_ | refine c_cond rfl (fun h => ?_) (fun h => ?_) | refine sf rfl rfl hV ?_ | fail)
   all_goals first
    | exact e_ret ⟨rfl, _, rfl, rfl⟩
    | exact absurd (eq_ok h) hdf
end Hm
end
section
namespace Go.Proofs
open Go.Shelf
def Tryz.atoi_ren : Go.Shelf.Ren := ⟨fun | 129 => 173 | 171 => 100 | 172 => 160 | 205 => 186 | 243 => 142 | 244 => 169 | 245 => 170 | 246 => 159 | 247 => 177 | 279 => 178 | 280 => 179 | 281 => 180 | 282 => 181 | 283 => 165 | 284 => 166 | 285 => 167 | 286 => 168 | 287 => 184 | 316 => 185 | 317 => 172 | 318 => 174 | 319 => 175 | 320 => 176 | 321 => 187 | 322 => 188 | 337 => 182 | 338 => 183 | n => n, fun | 0 => 0 | 2 => 2 | 3 => 3 | 4 => 4 | 5 => 5 | 9 => 9 | 20 => 20 | 21 => 21 | 37 => 115 | 46 => 203 | 51 => 201 | 53 => 193 | 75 => 122 | 76 => 123 | 80 => 57 | 85 => 206 | 127 => 168 | 143 => 220 | 145 => 222 | 167 => 205 | 168 => 208 | 171 => 192 | 173 => 196 | 175 => 212 | 210 => 215 | 212 => 200 | 213 => 202 | 232 => 217 | 233 => 218 | n => n, fun | 15 => 2 | 16 => 3 | 17 => 1 | 18 => 4 | 19 => 5 | n => n⟩
theorem Tryz.atoi_lays : LaysC.n172 Tryz.prog Tryz.atoi_ren :=
 {
  mixed := by kernel_rfl,
  f129 := Tryz.func173.trans (congrArg some (by kernel_rfl)),
  f171 := Tryz.func100.trans (congrArg some (by kernel_rfl)),
  f172 := Tryz.func160.trans (congrArg some (by kernel_rfl)),
  f205 := Tryz.func186.trans (congrArg some (by kernel_rfl)),
  f243 := Tryz.func142.trans (congrArg some (by kernel_rfl)),
  f244 := Tryz.func169.trans (congrArg some (by kernel_rfl)),
  f245 := Tryz.func170.trans (congrArg some (by kernel_rfl)),
  f246 := Tryz.func159.trans (congrArg some (by kernel_rfl)),
  f247 := Tryz.func177.trans (congrArg some (by kernel_rfl)),
  f279 := Tryz.func178.trans (congrArg some (by kernel_rfl)),
  f280 := Tryz.func179.trans (congrArg some (by kernel_rfl)),
  f281 := Tryz.func180.trans (congrArg some (by kernel_rfl)),
  f282 := Tryz.func181.trans (congrArg some (by kernel_rfl)),
  f283 := Tryz.func165.trans (congrArg some (by kernel_rfl)),
  f284 := Tryz.func166.trans (congrArg some (by kernel_rfl)),
  f285 := Tryz.func167.trans (congrArg some (by kernel_rfl)),
  f286 := Tryz.func168.trans (congrArg some (by kernel_rfl)),
  f287 := Tryz.func184.trans (congrArg some (by kernel_rfl)),
  f316 := Tryz.func185.trans (congrArg some (by kernel_rfl)),
  f317 := Tryz.func172.trans (congrArg some (by kernel_rfl)),
  f318 := Tryz.func174.trans (congrArg some (by kernel_rfl)),
  f319 := Tryz.func175.trans (congrArg some (by kernel_rfl)),
  f320 := Tryz.func176.trans (congrArg some (by kernel_rfl)),
  f321 := Tryz.func187.trans (congrArg some (by kernel_rfl)),
  f322 := Tryz.func188.trans (congrArg some (by kernel_rfl)),
  f337 := Tryz.func182.trans (congrArg some (by kernel_rfl)),
  f338 := Tryz.func183.trans (congrArg some (by kernel_rfl)),
  t0 := Tryz.underlying0,
  a0 := Tryz.isAgg0,
  z0 := Tryz.sizeOf0,
  v0 := Tryz.zeroValue0,
  t2 := Tryz.underlying2,
  a2 := Tryz.isAgg2,
  z2 := Tryz.sizeOf2,
  v2 := Tryz.zeroValue2,
  t3 := Tryz.underlying3,
  a3 := Tryz.isAgg3,
  z3 := Tryz.sizeOf3,
  v3 := Tryz.zeroValue3,
  t4 := Tryz.underlying4,
  a4 := Tryz.isAgg4,
  z4 := Tryz.sizeOf4,
  v4 := Tryz.zeroValue4,
  t5 := Tryz.underlying5,
  a5 := Tryz.isAgg5,
  z5 := Tryz.sizeOf5,
  v5 := Tryz.zeroValue5,
  t9 := Tryz.underlying9,
  a9 := Tryz.isAgg9,
  z9 := Tryz.sizeOf9,
  v9 := Tryz.zeroValue9,
  t20 := Tryz.underlying20,
  a20 := Tryz.isAgg20,
  z20 := Tryz.sizeOf20,
  v20 := Tryz.zeroValue20,
  t21 := Tryz.underlying21,
  a21 := Tryz.isAgg21,
  z21 := Tryz.sizeOf21,
  v21 := Tryz.zeroValue21,
  t37 := Tryz.underlying115,
  a37 := Tryz.isAgg115,
  z37 := Tryz.sizeOf115,
  v37 := Tryz.zeroValue115,
  t46 := Tryz.underlying203,
  a46 := Tryz.isAgg203,
  z46 := Tryz.sizeOf203,
  v46 := Tryz.zeroValue203,
  t51 := Tryz.underlying201,
  a51 := Tryz.isAgg201,
  z51 := Tryz.sizeOf201,
  v51 := Tryz.zeroValue201,
  t53 := Tryz.underlying193,
  a53 := Tryz.isAgg193,
  z53 := Tryz.sizeOf193,
  v53 := Tryz.zeroValue193,
  t75 := Tryz.underlying122,
  a75 := Tryz.isAgg122,
  z75 := Tryz.sizeOf122,
  v75 := Tryz.zeroValue122,
  t76 := Tryz.underlying123,
  a76 := Tryz.isAgg123,
  z76 := Tryz.sizeOf123,
  v76 := Tryz.zeroValue123,
  t85 := Tryz.underlying206,
  a85 := Tryz.isAgg206,
  z85 := Tryz.sizeOf206,
  v85 := Tryz.zeroValue206,
  t127 := Tryz.underlying168,
  a127 := Tryz.isAgg168,
  z127 := Tryz.sizeOf168,
  v127 := Tryz.zeroValue168,
  t143 := Tryz.underlying220,
  a143 := Tryz.isAgg220,
  z143 := Tryz.sizeOf220,
  v143 := Tryz.zeroValue220,
  t145 := Tryz.underlying222,
  a145 := Tryz.isAgg222,
  z145 := Tryz.sizeOf222,
  v145 := Tryz.zeroValue222,
  t167 := Tryz.underlying205,
  a167 := Tryz.isAgg205,
  z167 := Tryz.sizeOf205,
  v167 := Tryz.zeroValue205,
  t168 := Tryz.underlying208,
  a168 := Tryz.isAgg208,
  z168 := Tryz.sizeOf208,
  v168 := Tryz.zeroValue208,
  t171 := Tryz.underlying192,
  a171 := Tryz.isAgg192,
  z171 := Tryz.sizeOf192,
  v171 := Tryz.zeroValue192,
  t173 := Tryz.underlying196,
  a173 := Tryz.isAgg196,
  z173 := Tryz.sizeOf196,
  v173 := Tryz.zeroValue196,
  t175 := Tryz.underlying212,
  a175 := Tryz.isAgg212,
  z175 := Tryz.sizeOf212,
  v175 := Tryz.zeroValue212,
  t210 := Tryz.underlying215,
  a210 := Tryz.isAgg215,
  z210 := Tryz.sizeOf215,
  v210 := Tryz.zeroValue215,
  t212 := Tryz.underlying200,
  a212 := Tryz.isAgg200,
  z212 := Tryz.sizeOf200,
  v212 := Tryz.zeroValue200,
  t213 := Tryz.underlying202,
  a213 := Tryz.isAgg202,
  z213 := Tryz.sizeOf202,
  t232 := Tryz.underlying217,
  a232 := Tryz.isAgg217,
  z232 := Tryz.sizeOf217,
  v232 := Tryz.zeroValue217,
  t233 := Tryz.underlying218,
  a233 := Tryz.isAgg218,
  z233 := Tryz.sizeOf218,
  v233 := Tryz.zeroValue218,
  g15 := by kernel_rfl,
  g16 := by kernel_rfl,
  g17 := by kernel_rfl,
  g18 := by kernel_rfl,
  g19 := by kernel_rfl,
  t80 := Tryz.underlying57,
  a80 := Tryz.isAgg57,
  z80 := Tryz.sizeOf57,
  v80 := Tryz.zeroValue57,
  i0 := by kernel_rfl,
  i2 := by kernel_rfl,
  i3 := by kernel_rfl,
  i4 := by kernel_rfl,
  i5 := by kernel_rfl,
  i9 := by kernel_rfl,
  i20 := by kernel_rfl,
  i21 := by kernel_rfl,
  i37 := by kernel_rfl,
  i46 := by kernel_rfl,
  i51 := by kernel_rfl,
  i53 := by kernel_rfl,
  i75 := by kernel_rfl,
  i76 := by kernel_rfl,
  i80 := by kernel_rfl,
  i85 := by kernel_rfl,
  i127 := by kernel_rfl,
  i143 := by kernel_rfl,
  i145 := by kernel_rfl,
  i167 := by kernel_rfl,
  i168 := by kernel_rfl,
  i171 := by kernel_rfl,
  i173 := by kernel_rfl,
  i175 := by kernel_rfl,
  i210 := by kernel_rfl,
  i212 := by kernel_rfl,
  i232 := by kernel_rfl,
  i233 := by kernel_rfl,
  m15 := by kernel_rfl,
  m16 := by kernel_rfl,
  m17 := by kernel_rfl,
  m18 := by kernel_rfl,
  m19 := by kernel_rfl,
  c0 := by kernel_rfl,
  c2 := by kernel_rfl,
  c3 := by kernel_rfl,
  c4 := by kernel_rfl,
  c5 := by kernel_rfl,
  c9 := by kernel_rfl,
  c20 := by kernel_rfl,
  c21 := by kernel_rfl,
  c37 := by kernel_rfl,
  c46 := by kernel_rfl,
  c51 := by kernel_rfl,
  c53 := by kernel_rfl,
  c75 := by kernel_rfl,
  c76 := by kernel_rfl,
  c80 := by kernel_rfl,
  c85 := by kernel_rfl,
  c127 := by kernel_rfl,
  c143 := by kernel_rfl,
  c145 := by kernel_rfl,
  c167 := by kernel_rfl,
  c168 := by kernel_rfl,
  c171 := by kernel_rfl,
  c173 := by kernel_rfl,
  c175 := by kernel_rfl,
  c210 := by kernel_rfl,
  c212 := by kernel_rfl,
  c213 := by kernel_rfl,
  c232 := by kernel_rfl,
  c233 := by kernel_rfl }
end Go.Proofs
end
section
namespace Hm
open Go
set_option maxRecDepth 100000
theorem pow_named : Go.Proofs.Tryz.prog.globalNamed "internal/strconv.uint64pow10" = some 1 := by kernel_rfl
theorem pow_eq : pow10 = Lib.pow10Tab := by decide +kernel
theorem pow_tab {w : World} {S : Nat → Prop} (h : GL w S) : Lib.TabIs Go.Proofs.Tryz.prog w "internal/strconv.uint64pow10" .u64 Lib.pow10Tab := by
 obtain ⟨_, cs, e, fr, h1, h2⟩ := h (1, fun cs => cs = pow10.map fun z => Value.int .u64 z) (by unfold glb; exact List.mem_cons_self ..)
 have h2 : cs = pow10.map fun z => Value.int .u64 z := h2
 have h1 : w.heap[1]? = some (.cells cs.toArray e fr) := h1
 unfold Lib.TabIs World.var?
 rw [pow_named, ← pow_eq]
 simp only [Option.bind_some, h1, h2]
theorem err_cell {w : World} {S : Nat → Prop} (h : GL w S) {g : Nat} (hg : (g, isErr) ∈ glb) : ∃ te pe, w.cell? ⟨g, 0, none⟩ = some (.iface te pe) := by
 obtain ⟨_, cs, e, fr, h1, te, pe, h2⟩ := h _ hg
 have h1 : w.heap[g]? = some (.cells cs.toArray e fr) := h1
 refine ⟨te, pe, ?_⟩
 unfold World.cell?
 rw [h2] at h1
 simp only [h1]
 rfl
theorem grow_of_below {w w' : World} (h : RowKit.Below w.heap.size w w') : Grow w w' := ⟨h.size, h.os, h.tape, ⟨h.output, fun d => by cases d⟩, h.block⟩
theorem fn_flat {P : Program} {f : Nat} {args : List V} {r : V} (hc : callable P f = true) (h : ∀ (w : World) (S : Nat → Prop) (xs : List Value), GL w S → Reps (RepP w S) args xs → CallsIn Fence.wide 0 P f xs.toArray w fun e w' => ∃ x', e = .returned x' ∧ RepP w' S r x' ∧ Grow w w') : Fn P f args r :=
 ⟨hc, fun w S xs hS hG hr => (h w S xs hG hr).mono fun e w' ⟨x', h1, h2, h3⟩ => ⟨x', S, h1, h2, fun b hb => .inl hb, fun b hb => Nat.lt_of_lt_of_le (hS b hb) h3.size, h3⟩⟩
theorem f_strconv_Itoa {n : Int} (h0 : -9223372036854775808 ≤ n) (h1 : n ≤ 9223372036854775807) : Fc Go.Proofs.Tryz.prog 100 [.int .i64 n] (.str (Lib.itoa n)) := by
 refine ⟨fn_flat (by kernel_rfl) fun w S xs hG hr => ?_⟩
 obtain ⟨hl, hr⟩ := hr
 match xs, hl with
 | [x], _ =>
 have hx : x = .int .i64 n := by have := hr 0 _ x rfl rfl; cases this; rfl
 subst hx
 refine ((callsIn_wide (n := 0)).2 (Go.Proofs.Any.strconv_Itoa { Go.Proofs.Tryz.atoi_lays with } n h0 h1 w (pow_tab hG))).mono fun e w' h => ?_
 obtain ⟨rfl, k, os, rfl⟩ := h
 exact ⟨_, rfl, .str _, ⟨by simp [Sort.grow, World.drewN], rfl, rfl, Out.of rfl (Nat.le_add_right _ _), fun b hb => Sort.heap_grow_old _ _ hb⟩⟩
def atoiN (s : List UInt8) : Int := match Lib.atoiAll s with
 | .ok v => v
 | .range => Lib.atoiSat s
 | _ => 0
def atoiE (s : List UInt8) : Bool := match Lib.atoiAll s with
 | .ok v => true
 | _ => false
theorem atoi_rng (s : List UInt8) : InR .i64 (atoiN s) := by
 unfold atoiN InR
 cases h : Lib.atoiAll s with
 | ok v => have := Lib.atoiAll_bounds h; simp only; omega
 | _ => have := Lib.atoiSat_bounds s; simp only; omega
theorem f_strconv_Atoi {s : List UInt8} (hs : s.length ≤ 1000) : Fc Go.Proofs.Tryz.prog 160 [.str s] (.tup [.int .i64 (atoiN s), .ifc (atoiE s)]) := by
 refine ⟨fn_flat (by kernel_rfl) fun w S xs hG hr => ?_⟩
 obtain ⟨hl, hr⟩ := hr
 match xs, hl with
 | [x], _ =>
 have hx : x = .string ⟨s.toArray⟩ := by have := hr 0 _ x rfl rfl; cases this; rfl
 subst hx
 have hz : (⟨s.toArray⟩ : ByteArray).size = s.length := rfl
 have tupr : ∀ (w' : World) (n : Int) (e : Bool) (x : Value), RepP w' S (.ifc e) x → RepP w' S (.tup [.int .i64 n, .ifc e]) (.tuple #[.int .i64 n, x]) := fun w' n e x h => .tup _ [.int .i64 n, x] rfl fun i v y h1 h2 => by
  match i, h1, h2 with
  | 0, h1, h2 => cases h1; cases h2; exact .int _ _
  | 1, h1, h2 => cases h1; cases h2; exact h
  | i + 2, h1, h2 => simp at h1
 cases h : Lib.atoiAll s with
 | ok v =>
  have eN : atoiN s = v := by unfold atoiN; rw [h]
  have eE : atoiE s = true := by unfold atoiE; rw [h]
  rw [eN, eE]
  refine ((callsIn_wide (n := 0)).2 (Go.Proofs.Any.strconv_Atoi_ok Go.Proofs.Tryz.atoi_lays ⟨s.toArray⟩ (by omega) v (by simpa using h) w)).mono fun e w' hh => ?_
  obtain ⟨rfl, hw⟩ := hh
  refine ⟨_, rfl, tupr _ _ _ _ .ifcN, ?_⟩
  rcases hw with rfl | ⟨t, rfl⟩
  · exact grow_of_below (RowKit.Below.refl _ _)
  · exact grow_of_below (Lib.bytesWorld_below _ _ _)
 | range =>
  have eN : atoiN s = Lib.atoiSat s := by unfold atoiN; rw [h]
  have eE : atoiE s = false := by unfold atoiE; rw [h]
  rw [eN, eE]
  obtain ⟨te, pe, hc⟩ := err_cell hG (g := 3) (by unfold glb; simp)
  refine ((callsIn_wide (n := 0)).2 (Go.Proofs.Any.strconv_Atoi_range Go.Proofs.Tryz.atoi_lays ⟨s.toArray⟩ (by omega) (by simpa using h) _ w hc (.inr ⟨te, pe, rfl⟩))).mono fun e w' hh => ?_
  obtain ⟨N, rfl, _, _, hb⟩ := hh
  exact ⟨_, rfl, tupr _ _ _ _ (.ifcS _ _), grow_of_below hb⟩
 | _ =>
  have eN : atoiN s = 0 := by unfold atoiN; rw [h]
  have eE : atoiE s = false := by unfold atoiE; rw [h]
  rw [eN, eE]
  obtain ⟨te, pe, hc⟩ := err_cell hG (g := 2) (by unfold glb; simp)
  refine ((callsIn_wide (n := 0)).2 (Go.Proofs.Any.strconv_Atoi_syntax Go.Proofs.Tryz.atoi_lays ⟨s.toArray⟩ (by omega) (by simpa using h) _ w hc (.inr ⟨te, pe, rfl⟩))).mono fun e w' hh => ?_
  obtain ⟨N, rfl, _, _, hb⟩ := hh
  exact ⟨_, rfl, tupr _ _ _ _ (.ifcS _ _), grow_of_below hb⟩
theorem digF_dec : ∀ (f n : Nat), n < f → digF f n = Lib.decDigits n
 | 0, n, h => by omega
 | f + 1, n, h => by
  rw [Lib.decDigits]
  simp only [digF]
  by_cases h1 : n < 10
  · rw [if_pos h1, dif_pos h1]
  · rw [if_neg h1, dif_neg h1, digF_dec f (n / 10) (by omega)]
theorem itoa_dig (n : Nat) : Lib.itoa (n : Int) = dig n := by
 rw [Lib.itoa_nonneg]
 exact (digF_dec (n + 1) n (by omega)).symm
theorem itoa_ok {n : Nat} (h : n ≤ 1000000) : Fc Go.Proofs.Tryz.prog 100 [.int .i64 n] (.str (dig n)) := by
 have := f_strconv_Itoa (n := n) (by omega) (by omega)
 rwa [itoa_dig] at this
theorem fold_ge : ∀ (s : List UInt8) (a : Nat), a ≤ s.foldl (fun n c => 10 * n + (c.toNat - 48)) a
 | [], a => Nat.le_refl _
 | c :: r, a => by
  have := fold_ge r (10 * a + (c.toNat - 48))
  simp only [List.foldl_cons]
  omega
theorem parse_dig : ∀ (s : List UInt8) (a : Nat), s.all digB = true → s.foldl (fun n c => 10 * n + (c.toNat - 48)) a ≤ 1000000 → Lib.parseUint10 a s = .ok (s.foldl (fun n c => 10 * n + (c.toNat - 48)) a)
 | [], a, _, _ => rfl
 | c :: r, a, h, hm => by
  rw [List.all_cons, Bool.and_eq_true] at h
  simp only [List.foldl_cons] at hm ⊢
  have hg := fold_ge r (10 * a + (c.toNat - 48))
  have hc : 48 ≤ c.toNat ∧ c.toNat ≤ 57 := by
   have := h.1
   unfold digB at this
   simpa using this
  simp only [Lib.parseUint10]
  rw [if_pos hc, if_neg (by omega), if_neg (by omega), Nat.mul_comm a 10]
  exact parse_dig r _ h.2 hm
theorem atoi_dig {n : Nat} (h : n ≤ 1000000) : Lib.atoiAll (dig n) = .ok (n : Int) := by
 obtain ⟨h1, h2, h3⟩ := dig_ok n
 have hp := parse_dig (dig n) 0 h2 (by have : valD (dig n) = _ := h1; unfold valD at this; omega)
 have hv : (dig n).foldl (fun n c => 10 * n + (c.toNat - 48)) 0 = n := h1
 rw [hv] at hp
 cases hd : dig n with
 | nil => exact absurd hd h3
 | cons c r =>
  have hc : 48 ≤ c.toNat ∧ c.toNat ≤ 57 := by
   rw [hd, List.all_cons, Bool.and_eq_true] at h2
   have := h2.1
   unfold digB at this
   simpa using this
  rw [hd] at hp
  unfold Lib.atoiAll
  simp only
  rw [if_neg (by omega)]
  unfold Lib.parseMag
  rw [if_neg (by simp), hp]
  simp only
  rw [if_neg (by omega), if_neg (by omega), if_neg (by omega)]
end Hm
end
section
namespace Hm
open Go
set_option maxRecDepth 100000
set_option maxHeartbeats 4000000
mutual
theorem ttx_len : ∀ t : Tr, tok t = true → (ttx t).length + 1 ≤ 14 * tsz t
 | .sym s, h => by
  have : symbolB s = true := by simpa [tok] using h
  unfold symbolB at this
  simp only [Bool.and_eq_true, decide_eq_true_eq] at this
  simp only [ttx, tsz]
  omega
 | .lst l, h => by
  have := spT_len l (by simpa [tok] using h)
  rw [ttx_lst]
  simp only [tsz, List.length_cons, List.length_append, List.length_drop, List.length_nil]
  omega
theorem spT_len : ∀ l : List Tr, tokL l = true → (spT l).length ≤ 14 * tszL l
 | [], _ => by simp [spT]
 | t :: r, h => by
  simp only [tokL, Bool.and_eq_true] at h
  have h1 := ttx_len t h.1
  have h2 := spT_len r h.2
  rw [sp_cons]
  simp only [tszL, List.length_cons, List.length_append]
  omega
end
theorem sp_pre {α : Type} (g : α → Tr) (l : List α) (k : Nat) : (spT ((l.take k).map g)).length ≤ (spT (l.map g)).length := by
 have e : spT (l.map g) = spT ((l.take k).map g) ++ spT ((l.drop k).map g) := by rw [← sp_append, ← List.map_append, List.take_append_drop]
 rw [e, List.length_append]
 omega
theorem ttx_pair (a b : List UInt8) : ttx (.lst [.sym a, .sym b]) = 40 :: (a ++ 32 :: (b ++ [41])) := by simp [ttx, ttxL, joinF]
theorem dig_small : ∀ n : Nat, n < 10 → (([48, 49, 50, 51, 52, 53, 54, 55, 56, 57] : List UInt8).take (n + 1)).drop n = [UInt8.ofNat (48 + n)] := by decide
theorem dig_one {n : Nat} (h : n < 10) : dig n = [UInt8.ofNat (48 + n)] := by unfold dig; simp only [digF]; rw [if_pos h]
theorem dig_step {n : Nat} (h : ¬ n < 10) : dig n = dig (n / 10) ++ [UInt8.ofNat (48 + n % 10)] := by
 unfold dig
 rw [digF_dec (n / 10 + 1) (n / 10) (by omega)]
 simp only [digF]
 rw [if_neg h, digF_dec n (n / 10) (by omega)]
theorem dig_len {n : Nat} (h : n ≤ 1000000) : (dig n).length ≤ 7 := digF_len _ _ 7 (by omega) (by omega)
def c_R1_Digits : Cmd :=
 (qS [qq 2 (.mov (.c (.str [])))]
 (qT (qS [qm 3 0, qv 4 .lss [] 3 10]
 (.cond (.t 4) (.seq (.ops [qm 5 0, qm 6 0, qv 7 .add [] 6 1, qq 8 (.slice true 1 (.c (.str [48, 49, 50, 51, 52, 53, 54, 55, 56, 57])) (some (.t 5)) (some (.t 7))), qm 2 8]) .ret) .skip))
 (.seq (.ops [qm 9 0, qv 10 .quo [] 9 10, qk 11 55 [10], qm 12 0, qv 13 .rem [] 12 10, qm 14 0, qv 15 .rem [] 14 10, qv 16 .add [] 15 1, qq 17 (.slice true 1 (.c (.str [48, 49, 50, 51, 52, 53, 54, 55, 56, 57])) (some (.t 13)) (some (.t 16))), qu 18 .add [] 11 17, qm 2 18]) .ret)))
def r_R1_Digits : List RVar := [.tmp 2]
def n_R1_Digits : Nat := 19
theorem k_R1_Digits : chkFn PG 55 n_R1_Digits r_R1_Digits c_R1_Digits = true := by kernel_rfl
theorem f_R1_Digits : ∀ n : Nat, n ≤ 1000000 → Fc PG 55 [.int .i64 n] (.str (dig n)) := by
 intro n
 induction n using Nat.strongRecOn with
 | ind n ih =>
  intro hn
  by_cases h10 : n < 10
  · have e := dig_small n h10
    rw [dig_one h10, ← e]
    refine Fn.step mixed k_R1_Digits ?_
    repeat' (first | refine i_s rfl ?_ | refine sw ?_ | refine ja rfl rfl ?_ | refine c_cond rfl (fun h => ?_) (fun h => ?_))
    all_goals first
     | (exfalso; simp at *; done)
     | (exfalso; simp at *; omega)
     | skip
    refine i_ssh (m := n) (n := (n : Int) + 1) rfl rfl rfl (by omega) (by omega) (by simp; omega) ?_
    rw [show ((n : Int) + 1).toNat = n + 1 from by omega, Int.toNat_natCast]
    repeat' (first | refine i_s rfl ?_ | refine sw ?_ | fail)
    exact e_ret ⟨rfl, _, rfl, rfl⟩
  · have hq : (n : Int).tdiv 10 = ((n / 10 : Nat) : Int) := by rw [Int.tdiv_eq_ediv_of_nonneg (by omega)]; omega
    have hm : (n : Int).tmod 10 = ((n % 10 : Nat) : Int) := by rw [Int.tmod_eq_emod_of_nonneg (by omega)]; omega
    have hr := ih (n / 10) (by omega) (by omega)
    have e := dig_small (n % 10) (by omega)
    rw [dig_step h10, ← e]
    have hl := dig_len (n := n / 10) (by omega)
    generalize dig (n / 10) = D at *
    have hr : Fc PG 55 [.int .i64 ((n : Int).tdiv 10)] (.str D) := by rw [show (n : Int).tdiv 10 = ((n / 10 : Nat) : Int) from by omega]; exact hr
    refine Fn.step mixed k_R1_Digits ?_
    repeat' (first | refine i_s rfl ?_ | refine sw ?_ | refine ja rfl rfl ?_ | refine c_cond rfl (fun h => ?_) (fun h => ?_))
    all_goals first
     | (exfalso; simp at *; done)
     | (exfalso; simp at *; omega)
     | skip
    refine i_quo rfl rfl (by decide) (by simp only [InR]; omega) ?_
    repeat' (first | refine i_s rfl ?_ | refine sf rfl rfl hr ?_ | fail)
    refine i_rem rfl rfl rfl (by decide) ?_
    repeat refine i_s rfl ?_
    refine i_rem rfl rfl rfl (by decide) ?_
    repeat refine ja rfl rfl ?_
    refine i_ssh (m := (n : Int).tmod 10) (n := (n : Int).tmod 10 + 1) rfl rfl rfl (by omega) (by omega) (by simp; omega) ?_
    rw [show ((n : Int).tmod 10 + 1).toNat = n % 10 + 1 from by omega, show ((n : Int).tmod 10).toNat = n % 10 from by omega]
    refine i_cat rfl rfl (by rw [e]; simp; omega) ?_
    repeat' (first | refine i_s rfl ?_ | refine sw ?_ | fail)
    exact e_ret ⟨rfl, _, rfl, rfl⟩
def c_R1_typeName : Cmd :=
 (qS [qx 2 3328134 6 0, qq 4 (.mov (.c (.str [])))]
 (qT (qS [qm 5 1, qv 6 .lss [] 5 0]
 (.cond (.t 6) (.seq (.ops [qq 4 (.mov (.c (.str [111, 98, 106, 101, 99, 116])))]) .ret) .skip))
 (.seq (.ops [qf 7 0 2, ql 8 1 7, qm 9 1, qi 10 2 8 9, qf 11 0 10, ql 12 1 11, qm 4 12]) .ret)))
def r_R1_typeName : List RVar := [.tmp 4]
def n_R1_typeName : Nat := 13
theorem k_R1_typeName : chkFn PG 52 n_R1_typeName r_R1_typeName c_R1_typeName = true := by kernel_rfl
theorem f_R1_typeName (d : Dom) (t : Int) (h1 : t < d.types.length) : Fc PG 52 [domV d, .int .i64 t] (.str (typeNm d t)) := by
 by_cases h0 : t < 0
 · have e : typeNm d t = objectS := by unfold typeNm; rw [if_pos h0]
   rw [e]
   refine Fn.step mixed k_R1_typeName ?_
   repeat' (first | refine i_s rfl ?_ | refine sw ?_ | refine i_box rfl rfl ?_ | refine c_cond rfl (fun h => ?_) (fun h => ?_))
   all_goals first
    | exact e_ret ⟨rfl, _, rfl, rfl⟩
    | (exfalso; simp at *; done)
      | (exfalso; simp at *; omega)
 · obtain ⟨x, hx⟩ := get_some (l := d.types) (k := t.toNat) (by omega)
   have e : typeNm d t = x.name := by unfold typeNm; rw [if_neg h0, hx]
   rw [e]
   refine Fn.step mixed k_R1_typeName ?_
   repeat' (first | refine i_s rfl ?_ | refine sw ?_ | refine jd rfl rfl ?_ | refine i_box rfl rfl ?_ | refine c_cond rfl (fun h => ?_) (fun h => ?_))
   all_goals first
    | exact e_ret ⟨rfl, _, rfl, rfl⟩
    | (exfalso; simp at *; done)
      | (exfalso; simp at *; omega)
theorem sym_len {s : List UInt8} (h : symbolB s = true) : s.length ≤ 12 := by
 unfold symbolB at h
 simp only [Bool.and_eq_true, decide_eq_true_eq] at h
 omega
def c_R1_typeNames : Cmd :=
 (qS [qx 2 3392134 6 0, qq 4 (.mov (.c (.str [])))]
 (qS [qq 5 (.mov (.c (.str [])))]
 (qT (qS [qc 6 0]
 (.block 0 (.loop (qT (qS [qm 7 6, qm 8 1, qn 9 8, qu 10 .lss [] 7 9]
 (.cond (.t 10) .skip (.exit 0)))
 (qT (.block 1 (.ops [qm 13 5, qq 14 (.bin .add false [] (.t 13) (.c (.str [32]))), qL 15 6 2, qm 16 1, qm 17 6, qi 18 1 16 17, ql 19 1 18, qk 20 52 [15, 19], qu 21 .add [] 14 20, qm 5 21]))
 (.ops [qm 11 6, qv 12 .add [] 11 1, qm 6 12]))))))
 (.seq (.ops [qm 22 5, qm 4 22]) .ret))))
def r_R1_typeNames : List RVar := [.tmp 4]
def n_R1_typeNames : Nat := 23
theorem k_R1_typeNames : chkFn PG 53 n_R1_typeNames r_R1_typeNames c_R1_typeNames = true := by kernel_rfl
theorem f_R1_typeNames (d : Dom) (hd : DomV d) (l : List Int) (hl : l.length ≤ 1000) (h : ∀ t ∈ l, t < d.types.length) : Fc PG 53 [domV d, .sl .p (l.map i64V)] (.str (spT (l.map (nmT d)))) := by
 have hb : (spT (l.map (nmT d))).length ≤ 14 * tszL (l.map (nmT d)) := spT_len _ (tokL_map fun t ht => typeNm_sym hd (h t ht))
 have hz : tszL (l.map (nmT d)) ≤ l.length * 1 := tszL_map_le fun x _ => by simp [nmT, tsz]
 refine Fn.step mixed k_R1_typeNames ?_
 repeat (first | refine i_s rfl ?_ | refine sw ?_ | refine i_box rfl rfl ?_)
 refine c_for l.length (fun k => [(1, .sl .p (l.map i64V)), (2, .bptr 3392134 0), (5, .str (spT ((l.take k).map (nmT d)))), (6, .int .i64 k)]) (fun _ => [(3392134, .box (domV d))]) (fun _ => True) trivial ft fun k hk _ => ?_
 have hp := sp_pre (nmT d) l k
 by_cases hlt : k < l.length
 · obtain ⟨x, hx⟩ := get_some hlt
   have hN := f_R1_typeName d x (h x (mem_get hx))
   have hnl := sym_len (typeNm_sym hd (h x (mem_get hx)))
   have e := sp_take (g := nmT d) hx
   have e2 : ttx (nmT d x) = typeNm d x := rfl
   rw [e2] at e
   generalize spT ((l.take k).map (nmT d)) = S at *
   generalize typeNm d x = nn at *
   repeat' (first | refine i_len rfl ?_ | refine i_s rfl ?_ | refine sw ?_ | refine ja rfl rfl ?_ | refine jd rfl rfl ?_ | refine c_cond rfl (fun h => ?_) (fun h => ?_) | refine sf rfl rfl hN ?_ | refine i_cat rfl rfl (by simp only [List.length_append, List.length_cons, List.length_nil]; omega) ?_)
   all_goals first
    | (exfalso; clear hN; simp at *; done)
      | (exfalso; clear hN; simp at *; omega)
    | skip
   refine e_for hlt trivial ⟨⟨rfl, rfl, ?_, rfl, trivial⟩, ⟨rfl, trivial⟩, rfl⟩
   exact congrArg V.str (by first | (rw [e]; done) | (rw [e]; simp; done))
 · have hge : k = l.length := by omega
   subst hge
   rw [List.take_length]
   generalize spT (l.map (nmT d)) = S at *
   repeat' (first | refine i_len rfl ?_ | refine i_s rfl ?_ | refine sw ?_ | refine c_cond rfl (fun h => ?_) (fun h => ?_))
   all_goals first
    | exact e_ret ⟨rfl, _, rfl, rfl⟩
    | (exfalso; simp at *; done)
      | (exfalso; simp at *; omega)
def c_R1_atomText : Cmd :=
 (qS [qx 2 6912134 6 0, qx 3 6912194 2 1, qq 4 (.mov (.c (.str [])))]
 (qS [qf 7 2 2, ql 8 1 7, qf 9 0 3, ql 10 1 9, qi 11 2 8 10, qf 12 0 11, ql 13 1 12, qq 14 (.bin .add false [] (.c (.str [40])) (.t 13)), qm 5 14]
 (qT (qS [qc 6 0]
 (.block 0 (.loop (qT (qS [qm 15 6, qf 16 1 3, ql 17 1 16, qn 18 17, qu 19 .lss [] 15 18]
 (.cond (.t 19) .skip (.exit 0)))
 (qT (.block 1 (qS [qf 22 1 3, ql 23 1 22, qm 24 6, qi 25 1 23 24, ql 26 1 25, qv 27 .lss [] 26 0]
 (.cond (.t 27) (.ops [qm 28 5, qq 29 (.bin .add false [] (.t 28) (.c (.str [32, 63]))), qf 30 1 3, ql 31 1 30, qm 32 6, qi 33 1 31 32, ql 34 1 33, qq 35 (.bin .sub false [] (.c (.int .i64 (-1))) (.t 34)), qk 36 55 [35], qu 37 .add [] 29 36, qm 5 37]) (.ops [qm 38 5, qq 39 (.bin .add false [] (.t 38) (.c (.str [32]))), qf 40 1 2, ql 41 1 40, qf 42 1 3, ql 43 1 42, qm 44 6, qi 45 1 43 44, ql 46 1 45, qi 47 2 41 46, qf 48 0 47, ql 49 1 48, qu 50 .add [] 39 49, qm 5 50]))))
 (.ops [qm 20 6, qv 21 .add [] 20 1, qm 6 21]))))))
 (.seq (.ops [qm 51 5, qq 52 (.bin .add false [] (.t 51) (.c (.str [41]))), qm 4 52]) .ret))))
def r_R1_atomText : List RVar := [.tmp 4]
def n_R1_atomText : Nat := 53
theorem k_R1_atomText : chkFn PG 108 n_R1_atomText r_R1_atomText c_R1_atomText = true := by kernel_rfl
theorem f_R1_atomText (d : Dom) (hd : DomV d) (ps : List Int) (hps : ps.length ≤ 100) (a : At) (h : atomCode d ps a = 0) : Fc PG 108 [domV d, atV a] (.str (ttx (atT d a))) := by
 obtain ⟨⟨p0, p1⟩, p, hp, hal, _⟩ := atom_args h
 have h3 := (atW_of hd hps h).2
 have hrg := atom_rng h
 have hnm : prdNm d a.pred = p.name := by unfold prdNm; rw [hp]
 have hnl := sym_len (name_symbol (prdVal_of hd hp).name)
 rw [show ttx (atT d a) = 40 :: (p.name ++ (spT (a.args.map (argT d)) ++ [41])) from by unfold atT; rw [ttx_sec, hnm]]
 have hb : (spT (a.args.map (argT d))).length ≤ 14 * tszL (a.args.map (argT d)) := spT_len _ (tokL_map fun x hx => argS_sym hd hps (hrg x hx))
 have hz : tszL (a.args.map (argT d)) ≤ a.args.length * 1 := tszL_map_le fun x _ => by simp [argT, tsz]
 refine Fn.step mixed k_R1_atomText ?_
 repeat' (first | refine i_s rfl ?_ | refine sw ?_ | refine jd rfl rfl ?_ | refine i_box rfl rfl ?_ | refine i_cat rfl rfl (by simp only [List.length_append, List.length_cons, List.length_nil]; omega) ?_)
 refine c_for a.args.length (fun k => [(2, .bptr 6912134 0), (3, .bptr 6912194 0), (5, .str ((40 :: p.name) ++ spT ((a.args.take k).map (argT d)))), (6, .int .i64 k)]) (fun _ => [(6912134, .box (domV d)), (6912194, .box (atV a))]) (fun _ => True) trivial ⟨⟨rfl, rfl, by rw [List.take_zero, List.map_nil, sp_nil, List.append_nil]; rfl, rfl, trivial⟩, ⟨rfl, rfl, trivial⟩, rfl⟩ fun k hk _ => ?_
 have hpr := sp_pre (argT d) a.args k
 by_cases hlt : k < a.args.length
 · obtain ⟨x, hx⟩ := get_some hlt
   have hxr := hrg x (mem_get hx)
   have e := sp_take (g := argT d) hx
   have e2 : ttx (argT d x) = argS d x := rfl
   rw [e2] at e
   generalize spT ((a.args.take k).map (argT d)) = S at *
   by_cases hx0 : x < 0
   · have hD := f_R1_Digits (-1 - x).toNat (by omega)
     have hdl := dig_len (n := (-1 - x).toNat) (by omega)
     have e3 : argS d x = 63 :: dig (-1 - x).toNat := by unfold argS; rw [if_pos hx0]
     rw [e3] at e
     generalize dig (-1 - x).toNat = D at *
     rw [show ((-1 - x).toNat : Int) = -1 - x from by omega] at hD
     repeat' (first | refine i_len rfl ?_ | refine i_s rfl ?_ | refine sw ?_ | refine ja rfl rfl ?_ | refine jb rfl rfl ?_ | refine jd rfl rfl ?_ | refine c_cond rfl (fun h => ?_) (fun h => ?_) | refine sf rfl rfl hD ?_ | refine i_cat rfl rfl (by simp only [List.length_append, List.length_cons, List.length_nil]; omega) ?_)
     all_goals first
      | (exfalso; clear hD; simp at *; done)
      | (exfalso; clear hD; simp at *; omega)
      | skip
     refine e_for hlt trivial ⟨⟨rfl, rfl, ?_, rfl, trivial⟩, ⟨rfl, rfl, trivial⟩, rfl⟩
     exact congrArg V.str (by first | (rw [e]; done) | (rw [e]; simp; done))
   · obtain ⟨o, hO⟩ := get_some (l := d.objects) (k := x.toNat) (by omega)
     have e3 : argS d x = o.name := by unfold argS objNm; rw [if_neg hx0, hO]
     have hol := sym_len (argS_sym hd hps hxr)
     rw [e3] at e hol
     repeat' (first | refine i_len rfl ?_ | refine i_s rfl ?_ | refine sw ?_ | refine ja rfl rfl ?_ | refine jd rfl rfl ?_ | refine c_cond rfl (fun h => ?_) (fun h => ?_) | refine i_cat rfl rfl (by simp only [List.length_append, List.length_cons, List.length_nil]; omega) ?_)
     all_goals first
      | (exfalso; simp at *; done)
      | (exfalso; simp at *; omega)
      | skip
     refine e_for hlt trivial ⟨⟨rfl, rfl, ?_, rfl, trivial⟩, ⟨rfl, rfl, trivial⟩, rfl⟩
     exact congrArg V.str (by first | (rw [e]; done) | (rw [e]; simp; done))
 · have hge : k = a.args.length := by omega
   subst hge
   rw [List.take_length]
   generalize spT (a.args.map (argT d)) = S at *
   repeat' (first | refine i_len rfl ?_ | refine i_s rfl ?_ | refine sw ?_ | refine c_cond rfl (fun h => ?_) (fun h => ?_) | refine i_cat rfl rfl (by simp only [List.length_append, List.length_cons, List.length_nil]; omega) ?_)
   all_goals first
    | exact e_ret ⟨rfl, _, rfl, congrArg V.str (by simp)⟩
    | (exfalso; simp at *; done)
      | (exfalso; simp at *; omega)
def c_R1_atomTexts : Cmd :=
 (qS [qx 2 3648134 6 0, qq 4 (.mov (.c (.str [])))]
 (qS [qq 5 (.mov (.c (.str [])))]
 (qT (qS [qc 6 0]
 (.block 0 (.loop (qT (qS [qm 7 6, qm 8 1, qn 9 8, qu 10 .lss [] 7 9]
 (.cond (.t 10) .skip (.exit 0)))
 (qT (.block 1 (.ops [qm 13 5, qq 14 (.bin .add false [] (.t 13) (.c (.str [32]))), qL 15 6 2, qm 16 1, qm 17 6, qi 18 2 16 17, qL 19 2 18, qk 20 108 [15, 19], qu 21 .add [] 14 20, qm 5 21]))
 (.ops [qm 11 6, qv 12 .add [] 11 1, qm 6 12]))))))
 (.seq (.ops [qm 22 5, qm 4 22]) .ret))))
def r_R1_atomTexts : List RVar := [.tmp 4]
def n_R1_atomTexts : Nat := 23
theorem k_R1_atomTexts : chkFn PG 57 n_R1_atomTexts r_R1_atomTexts c_R1_atomTexts = true := by kernel_rfl
theorem f_R1_atomTexts (d : Dom) (hd : DomV d) (ps : List Int) (hps : ps.length ≤ 100) (l : List At) (hl : l.length ≤ 1000) (h : ∀ a ∈ l, atomCode d ps a = 0) : Fc PG 57 [domV d, .sl .p (l.map atV)] (.str (spT (l.map (atT d)))) := by
 have hb : (spT (l.map (atT d))).length ≤ 14 * tszL (l.map (atT d)) := spT_len _ (tokL_map fun a ha => at_tok hd hps (h a ha))
 have hz : tszL (l.map (atT d)) ≤ l.length * 5 := tszL_map_le fun a ha => tsz_at d (atW_of hd hps (h a ha)).2
 refine Fn.step mixed k_R1_atomTexts ?_
 repeat (first | refine i_s rfl ?_ | refine sw ?_ | refine i_box rfl rfl ?_)
 refine c_for l.length (fun k => [(1, .sl .p (l.map atV)), (2, .bptr 3648134 0), (5, .str (spT ((l.take k).map (atT d)))), (6, .int .i64 k)]) (fun _ => [(3648134, .box (domV d))]) (fun _ => True) trivial ft fun k hk _ => ?_
 have hp := sp_pre (atT d) l k
 by_cases hlt : k < l.length
 · obtain ⟨x, hx⟩ := get_some hlt
   have hN := f_R1_atomText d hd ps hps x (h x (mem_get hx))
   have hnl := ttx_len _ (at_tok hd hps (h x (mem_get hx)))
   have hnz := tsz_at d (atW_of hd hps (h x (mem_get hx))).2
   have e := sp_take (g := atT d) hx
   generalize spT ((l.take k).map (atT d)) = S at *
   generalize ttx (atT d x) = nn at *
   repeat' (first | refine i_len rfl ?_ | refine i_s rfl ?_ | refine sw ?_ | refine ja rfl rfl ?_ | refine jd rfl rfl ?_ | refine c_cond rfl (fun h => ?_) (fun h => ?_) | refine sf rfl rfl hN ?_ | refine i_cat rfl rfl (by simp only [List.length_append, List.length_cons, List.length_nil]; omega) ?_)
   all_goals first
    | (exfalso; clear hN; simp at *; done)
      | (exfalso; clear hN; simp at *; omega)
    | skip
   refine e_for hlt trivial ⟨⟨rfl, rfl, ?_, rfl, trivial⟩, ⟨rfl, trivial⟩, rfl⟩
   exact congrArg V.str (by first | (rw [e]; done) | (rw [e]; simp; done))
 · have hge : k = l.length := by omega
   subst hge
   rw [List.take_length]
   generalize spT (l.map (atT d)) = S at *
   repeat' (first | refine i_len rfl ?_ | refine i_s rfl ?_ | refine sw ?_ | refine c_cond rfl (fun h => ?_) (fun h => ?_))
   all_goals first
    | exact e_ret ⟨rfl, _, rfl, rfl⟩
    | (exfalso; simp at *; done)
      | (exfalso; simp at *; omega)
def c_R1_literalTexts : Cmd :=
 (qS [qx 2 3584134 6 0, qq 4 (.mov (.c (.str [])))]
 (qS [qq 5 (.mov (.c (.str [])))]
 (qT (qS [qc 6 0]
 (.block 0 (.loop (qT (qS [qm 7 6, qm 8 1, qn 9 8, qu 10 .lss [] 7 9]
 (.cond (.t 10) .skip (.exit 0)))
 (qT (.block 1 (qS [qm 13 1, qm 14 6, qi 15 3 13 14, qf 16 0 15, ql 17 1 16]
 (.cond (.t 17) (.ops [qm 18 5, qq 19 (.bin .add false [] (.t 18) (.c (.str [32, 40, 110, 111, 116, 32]))), qL 20 6 2, qm 21 1, qm 22 6, qi 23 3 21 22, qf 24 1 23, qL 25 2 24, qk 26 108 [20, 25], qu 27 .add [] 19 26, qq 28 (.bin .add false [] (.t 27) (.c (.str [41]))), qm 5 28]) (.ops [qm 29 5, qq 30 (.bin .add false [] (.t 29) (.c (.str [32]))), qL 31 6 2, qm 32 1, qm 33 6, qi 34 3 32 33, qf 35 1 34, qL 36 2 35, qk 37 108 [31, 36], qu 38 .add [] 30 37, qm 5 38]))))
 (.ops [qm 11 6, qv 12 .add [] 11 1, qm 6 12]))))))
 (.seq (.ops [qm 39 5, qm 4 39]) .ret))))
def r_R1_literalTexts : List RVar := [.tmp 4]
def n_R1_literalTexts : Nat := 40
theorem k_R1_literalTexts : chkFn PG 56 n_R1_literalTexts r_R1_literalTexts c_R1_literalTexts = true := by kernel_rfl
theorem f_R1_literalTexts (d : Dom) (hd : DomV d) (ps : List Int) (hps : ps.length ≤ 100) (l : List Lit) (hl : l.length ≤ 1000) (h : ∀ x ∈ l, atomCode d ps x.at_ = 0) : Fc PG 56 [domV d, .sl .p (l.map litV)] (.str (spT (l.map (litT d)))) := by
 have hb : (spT (l.map (litT d))).length ≤ 14 * tszL (l.map (litT d)) := spT_len _ (tokL_map fun a ha => lit_tok hd hps (h a ha))
 have hz : tszL (l.map (litT d)) ≤ l.length * 7 := tszL_map_le fun a ha => tsz_lit d (atW_of hd hps (h a ha)).2
 refine Fn.step mixed k_R1_literalTexts ?_
 repeat (first | refine i_s rfl ?_ | refine sw ?_ | refine i_box rfl rfl ?_)
 refine c_for l.length (fun k => [(1, .sl .p (l.map litV)), (2, .bptr 3584134 0), (5, .str (spT ((l.take k).map (litT d)))), (6, .int .i64 k)]) (fun _ => [(3584134, .box (domV d))]) (fun _ => True) trivial ft fun k hk _ => ?_
 have hp := sp_pre (litT d) l k
 by_cases hlt : k < l.length
 · obtain ⟨x, hx⟩ := get_some hlt
   obtain ⟨ng, at_⟩ := x
   have hac := h _ (mem_get hx)
   have hN := f_R1_atomText d hd ps hps at_ hac
   have hnl := ttx_len _ (at_tok hd hps hac)
   have hnz := tsz_at d (atW_of hd hps hac).2
   have e := sp_take (g := litT d) hx
   cases ng with
   | true =>
    have e2 : ttx (litT d ⟨true, at_⟩) = 40 :: (notS ++ 32 :: (ttx (atT d at_) ++ [41])) := by
     unfold litT
     rw [if_pos rfl, ttx_sec, sp_one]
     simp
    rw [e2] at e
    generalize spT ((l.take k).map (litT d)) = S at *
    generalize ttx (atT d at_) = nn at *
    repeat' (first | refine i_len rfl ?_ | refine i_s rfl ?_ | refine sw ?_ | refine c_t rfl ?_ | refine ja rfl rfl ?_ | refine jd rfl rfl ?_ | refine c_cond rfl (fun h => ?_) (fun h => ?_) | refine sf rfl rfl hN ?_ | refine i_cat rfl rfl (by simp only [List.length_append, List.length_cons, List.length_nil]; omega) ?_)
    all_goals first
     | (exfalso; clear hN; simp at *; done)
     | (exfalso; clear hN; simp at *; omega)
     | skip
    refine e_for hlt trivial ⟨⟨rfl, rfl, ?_, rfl, trivial⟩, ⟨rfl, trivial⟩, rfl⟩
    exact congrArg V.str (by first | (rw [e]; done) | (rw [e]; simp [notS]; done))
   | false =>
    have e2 : ttx (litT d ⟨false, at_⟩) = ttx (atT d at_) := by
     unfold litT
     rw [if_neg (by simp)]
    rw [e2] at e
    generalize spT ((l.take k).map (litT d)) = S at *
    generalize ttx (atT d at_) = nn at *
    repeat' (first | refine i_len rfl ?_ | refine i_s rfl ?_ | refine sw ?_ | refine c_f rfl ?_ | refine ja rfl rfl ?_ | refine jd rfl rfl ?_ | refine c_cond rfl (fun h => ?_) (fun h => ?_) | refine sf rfl rfl hN ?_ | refine i_cat rfl rfl (by simp only [List.length_append, List.length_cons, List.length_nil]; omega) ?_)
    all_goals first
     | (exfalso; clear hN; simp at *; done)
     | (exfalso; clear hN; simp at *; omega)
     | skip
    refine e_for hlt trivial ⟨⟨rfl, rfl, ?_, rfl, trivial⟩, ⟨rfl, trivial⟩, rfl⟩
    exact congrArg V.str (by first | (rw [e]; done) | (rw [e]; simp; done))
 · have hge : k = l.length := by omega
   subst hge
   rw [List.take_length]
   generalize spT (l.map (litT d)) = S at *
   repeat' (first | refine i_len rfl ?_ | refine i_s rfl ?_ | refine sw ?_ | refine c_cond rfl (fun h => ?_) (fun h => ?_))
   all_goals first
    | exact e_ret ⟨rfl, _, rfl, rfl⟩
    | (exfalso; simp at *; done)
      | (exfalso; simp at *; omega)
def c_R1_trimmed : Cmd :=
 (qS [qq 2 (.mov (.c (.str [])))]
 (qT (qS [qm 3 0, qq 4 (.bin .neq false [.s] (.t 3) (.c (.str [])))]
 (.cond (.t 4) (.seq (.ops [qm 5 0, qq 6 (.slice true 1 (.t 5) (some (.c (.int .i64 1))) none), qm 2 6]) .ret) .skip))
 (.seq (.ops [qm 7 0, qm 2 7]) .ret)))
def r_R1_trimmed : List RVar := [.tmp 2]
def n_R1_trimmed : Nat := 8
theorem k_R1_trimmed : chkFn PG 54 n_R1_trimmed r_R1_trimmed c_R1_trimmed = true := by kernel_rfl
theorem f_R1_trimmed (s : List UInt8) (hl : s.length ≤ 1000000) : Fc PG 54 [.str s] (.str (s.drop 1)) := by
 refine Fn.step mixed k_R1_trimmed ?_
 repeat' (first | refine i_s rfl ?_ | refine sw ?_ | refine c_cond rfl (fun h => ?_) (fun h => ?_))
 · have hne : s ≠ [] := by simpa using h
   refine i_ss (m := 1) rfl rfl (by decide) (by have := List.length_pos_iff.2 hne; omega) ?_
   repeat' (first | refine i_s rfl ?_ | refine sw ?_ | fail)
   exact e_ret ⟨rfl, _, rfl, rfl⟩
 · have he : s = [] := by simpa using h
   subst he
   exact e_ret ⟨rfl, _, rfl, rfl⟩
end Hm
end
section
namespace Hm
open Go
structure RdOk (L : List Sx) : Prop where
 pos : 0 < L.length
 len : L.length ≤ 300
 ch : ∀ (i : Nat) (x : Sx), L[i]? = some x → x.ch.length ≤ 300 ∧ ∀ c ∈ x.ch, 0 ≤ c ∧ c < L.length
 sym : ∀ (i : Nat) (x : Sx), L[i]? = some x → x.sym.length ≤ 100
def Ix (L : List Sx) (i : Int) : Prop := 0 ≤ i ∧ i < L.length
def Ixs (L : List Sx) (l : List Int) : Prop := l.length ≤ 300 ∧ ∀ i ∈ l, Ix L i
def nd (L : List Sx) (i : Int) : Sx := (L[i.toNat]?).getD ⟨[], []⟩
def rSym (L : List Sx) (i : Int) : List UInt8 := (nd L i).sym
def rCh (L : List Sx) (i : Int) : List Int := (nd L i).ch
def symG (L : List Sx) (i : Int) : Bool := decide (rSym L i ≠ [])
def chG (L : List Sx) (i : Int) : Bool := decide (rSym L i = [])
theorem nd_get {L : List Sx} {i : Int} (h : Ix L i) : L[i.toNat]? = some (nd L i) := by
 obtain ⟨x, hx⟩ := get_some (l := L) (k := i.toNat) (by have := h.1; have := h.2; omega)
 unfold nd
 rw [hx]; rfl
theorem ch_ix {L : List Sx} (hL : RdOk L) {i : Int} (h : Ix L i) : Ixs L (rCh L i) := hL.ch _ _ (nd_get h)
theorem Ixs.tail {L : List Sx} {c : Int} {r : List Int} (h : Ixs L (c :: r)) : Ix L c ∧ Ixs L r := ⟨h.2 c (by simp), by have := h.1; simp at this; omega, fun i hi => h.2 i (by simp [hi])⟩
def nmV (L : List Sx) (i : Int) (name : List UInt8) : List Int := match rCh L i with
 | [] => []
 | c :: r => if rSym L c = name then r else []
def nmG (L : List Sx) (i : Int) (name : List UInt8) : Bool := match rCh L i with
 | [] => false
 | c :: r => chG L i && (symG L c && decide (rSym L c = name))
theorem nm_ix {L : List Sx} (hL : RdOk L) {i : Int} (h : Ix L i) (name : List UInt8) : Ixs L (nmV L i name) := by
 have hc := ch_ix hL h
 unfold nmV
 cases hh : rCh L i with
 | nil => exact ⟨by simp, fun i hi => by cases hi⟩
 | cons c r =>
  rw [hh] at hc
  simp only
  split
  · exact hc.tail.2
  · exact ⟨by simp, fun i hi => by cases hi⟩
def exV (L : List Sx) (i : Int) (n : Nat) : List Int := if (rCh L i).length = n then rCh L i else List.replicate n 0
def exG (L : List Sx) (i : Int) (n : Nat) : Bool := decide ((rCh L i).length = n) && chG L i
theorem ex_ix {L : List Sx} (hL : RdOk L) {i : Int} (h : Ix L i) {n : Nat} (hn : n ≤ 300) : Ixs L (exV L i n) ∧ (exV L i n).length = n := by
 unfold exV
 split
 · rename_i h1; exact ⟨ch_ix hL h, h1⟩
 · refine ⟨⟨by simpa using hn, fun i hi => ?_⟩, by simp⟩
   have := List.eq_of_mem_replicate hi
   subst this
   have := hL.pos
   exact ⟨by omega, by omega⟩
def numG (s : List UInt8) : Bool := atoiE s && (decide (0 ≤ atoiN s) && (decide (atoiN s ≤ 1000000) && decide (Lib.itoa (atoiN s) = s)))
def typV (T : List Typ) (L : List Sx) (i : Int) : Int := fidx (fun t => t.name == rSym L i) T
def typG (T : List Typ) (L : List Sx) (i : Int) : Bool := symG L i && !(decide (typV T L i < 0) && decide (rSym L i ≠ objectS))
def argV (O : List Obj) (L : List Sx) (i : Int) : Int := match rSym L i with
 | [] => fidx (fun o => o.name == rSym L i) O
 | c :: r => if c = 63 then -1 - atoiN r else fidx (fun o => o.name == rSym L i) O
def argG (O : List Obj) (L : List Sx) (i : Int) : Bool := match rSym L i with
 | [] => false
 | c :: r => if c = 63 then numG r else decide (0 ≤ fidx (fun o => o.name == rSym L i) O)
def prdX (Q : List Prd) (L : List Sx) (c : Int) : Int := fidx (fun p => p.name == rSym L c) Q
def atmV (d : Dom) (L : List Sx) (i : Int) : At := match rCh L i with
 | [] => ⟨0, []⟩
 | c :: r => ⟨prdX d.preds L c, r.map (argV d.objects L)⟩
def atmG (d : Dom) (L : List Sx) (i : Int) : Bool := match rCh L i with
 | [] => false
 | c :: r => chG L i && (symG L c && (decide (0 ≤ prdX d.preds L c) && r.all (argG d.objects L)))
def notX (L : List Sx) (i : Int) : Option Int := match rCh L i with
 | [a, b] => if rSym L a = notS then some b else none
 | _ => none
theorem notX_ix {L : List Sx} (hL : RdOk L) {i b : Int} (h : Ix L i) (hb : notX L i = some b) : Ix L b := by
 have hc := ch_ix hL h
 unfold notX at hb
 split at hb
 · rename_i a c e
   rw [e] at hc
   split at hb
   · cases hb; exact hc.2 b (by simp)
   · cases hb
 · cases hb
def lltV (d : Dom) (L : List Sx) (i : Int) : Lit := match notX L i with
 | some b => ⟨true, atmV d L b⟩
 | none => ⟨false, atmV d L i⟩
def lltG (d : Dom) (L : List Sx) (i : Int) : Bool := chG L i && (match notX L i with
 | some b => atmG d L b
 | none => atmG d L i)
def at8 (l : List Int) (k : Nat) : Int := (l[k]?).getD 0
def difV (L : List Sx) (k : Int) : Int × Int := (atoiN (rSym L (at8 (exV L k 2) 0)), atoiN (rSym L (at8 (exV L k 2) 1)))
def difG (L : List Sx) (k : Int) : Bool := exG L k 2 && ((symG L (at8 (exV L k 2) 0) && numG (rSym L (at8 (exV L k 2) 0))) && (symG L (at8 (exV L k 2) 1) && numG (rSym L (at8 (exV L k 2) 1))))
def scZ : Sch := ⟨[], [], [], [], [], [], 0⟩
def scL (L : List Sx) (i : Int) (ok : Bool) : Bool := (ok && exG L i 8) && decide (rSym L (at8 (exV L i 8) 0) = sAction)
def schB (d : Dom) (L : List Sx) (l : List Int) : Sch := ⟨rSym L (at8 l 1), (rCh L (at8 l 2)).map (typV d.types L), (nmV L (at8 l 3) sDifferent).map (difV L), (nmV L (at8 l 4) sPre).map (lltV d L), (nmV L (at8 l 5) sAdd).map (atmV d L), (nmV L (at8 l 6) sDel).map (atmV d L), atoiN (rSym L (at8 l 7))⟩
def schX (d : Dom) (L : List Sx) (i : Int) (ok : Bool) : Sch := if scL L i ok = true then schB d L (exV L i 8) else scZ
def schG1 (d : Dom) (L : List Sx) (l : List Int) : Bool := symG L (at8 l 1) && (chG L (at8 l 2) && (rCh L (at8 l 2)).all (typG d.types L))
def schG2 (d : Dom) (L : List Sx) (l : List Int) : Bool := nmG L (at8 l 3) sDifferent && (nmV L (at8 l 3) sDifferent).all (difG L)
def schG3 (d : Dom) (L : List Sx) (l : List Int) : Bool := nmG L (at8 l 4) sPre && (nmV L (at8 l 4) sPre).all (lltG d L)
def schG4 (d : Dom) (L : List Sx) (l : List Int) : Bool := nmG L (at8 l 5) sAdd && (nmV L (at8 l 5) sAdd).all (atmG d L)
def schG5 (d : Dom) (L : List Sx) (l : List Int) : Bool := nmG L (at8 l 6) sDel && (nmV L (at8 l 6) sDel).all (atmG d L)
def schG6 (d : Dom) (L : List Sx) (l : List Int) : Bool := symG L (at8 l 7) && numG (rSym L (at8 l 7))
def schK (d : Dom) (L : List Sx) (i : Int) (ok : Bool) : Bool := scL L i ok && (schG1 d L (exV L i 8) && (schG2 d L (exV L i 8) && (schG3 d L (exV L i 8) && (schG4 d L (exV L i 8) && (schG5 d L (exV L i 8) && schG6 d L (exV L i 8))))))
theorem at8_ix {L : List Sx} {l : List Int} (h : Ixs L l) {k : Nat} (hk : k < l.length) : Ix L (at8 l k) ∧ l[k]? = some (at8 l k) := by
 obtain ⟨x, hx⟩ := get_some hk
 unfold at8
 rw [hx]
 exact ⟨h.2 x (mem_get hx), rfl⟩
end Hm
end
section
namespace Hm
open Go
set_option maxRecDepth 100000
set_option maxHeartbeats 4000000
abbrev RNS : List Nat := [833288, 844866, 844930, 844994, 845063]
abbrev rdRow (L : List Sx) (d : Dom) (ok : Bool) : V := .agg [.sl .p (L.map sxV), .sl (.own 844866) (d.types.map tyV), .sl (.own 844930) (d.objects.map obV), .sl (.own 844994) (d.preds.map prdV), .sl (.own 845063) (d.schemas.map schV), .sl .p (d.init.map atV), .sl .p (d.goal.map litV), .bool ok]
abbrev rdS (L : List Sx) (d : Dom) (ok : Bool) : List (Nat × Blk) := [(833288, .box (rdRow L d ok)), (844866, .vec d.types.length), (844930, .vec d.objects.length), (844994, .vec d.preds.length), (845063, .vec d.schemas.length)]
abbrev Rc (f : Nat) (args : List V) (L : List Sx) (d : Dom) (ok : Bool) (r : V) (ok' : Bool) : Prop := ∀ (G : Type) (H : HT G) (g : G), Cc PG H f (.bptr 833288 0 :: args) RNS (stOf (rdS L d ok)) g fun v σ' g' => (v = r ∧ σ' = stOf (rdS L d ok')) ∧ g' = g
theorem andF (a : Bool) : (a && false) = false := by cases a <;> rfl
def c_domain_reader_fail : Cmd :=
 (.ops [qm 2 0, qq 3 (.nilck (.t 2)), qf 4 7 3, .op none none (.store 1 (.t 4) (.c (.bool false)))])
def r_domain_reader_fail : List RVar := []
def n_domain_reader_fail : Nat := 5
theorem k_domain_reader_fail : chkFn PG 110 n_domain_reader_fail r_domain_reader_fail c_domain_reader_fail = true := by kernel_rfl
theorem ct_fail (L : List Sx) (d : Dom) (ok : Bool) : Rc 110 [] L d ok (.tup []) false := fun G H g => by
 refine CT.step _ mixed k_domain_reader_fail (fun nm hnm => stOf_mem _ nm hnm) fun hM => ?_
 repeat (first | refine i_s rfl ?_ | refine sw ?_ | refine i_stb rfl ?_)
 exact e_end ⟨rfl, _, rfl, rfl, rfl, ⟨rfl, restr_stOf _ _⟩, rfl⟩
def c_domain_reader_symbol : Cmd :=
 (qS [qq 4 (.mov (.c (.str [])))]
 (qS [qm 6 0, qq 7 (.nilck (.t 6)), qf 8 0 7, ql 9 1 8, qm 10 1, qi 11 2 9 10, qf 12 0 11, ql 13 1 12, qm 5 13]
 (qT (qS [qm 14 5, qq 15 (.bin .eql false [.s] (.t 14) (.c (.str [])))]
 (.cond (.t 15) (.ops [qm 16 0, qq 17 (.call (.s [833288, 844866, 844930, 844994, 845063]) (.c (.fn 110 [])) [.t 16])]) .skip))
 (.seq (.ops [qm 18 5, qm 4 18]) .ret))))
def r_domain_reader_symbol : List RVar := [.tmp 4]
def n_domain_reader_symbol : Nat := 19
theorem k_domain_reader_symbol : chkFn PG 113 n_domain_reader_symbol r_domain_reader_symbol c_domain_reader_symbol = true := by kernel_rfl
theorem ct_rsymbol (L : List Sx) (d : Dom) (ok : Bool) (i : Int) (hi : Ix L i) : Rc 113 [.int .i64 i] L d ok (.str (rSym L i)) (ok && symG L i) := fun G H g => by
 have hC := ct_fail L d ok G H g
 have hx := nd_get hi
 obtain ⟨h0, h1⟩ := hi
 refine CT.step _ mixed k_domain_reader_symbol (fun nm hnm => stOf_mem _ nm hnm) fun hM => ?_
 repeat (first | refine i_s rfl ?_ | refine sw ?_ | refine jd rfl rfl ?_)
 refine c_cond rfl (fun h => ?_) (fun h => ?_)
 · have hg : symG L i = false := by
    have h : (nd L i).sym = [] := by simpa using h
    simp [symG, rSym, h]
   rw [hg, andF]
   repeat (first | refine i_s rfl ?_ | refine sw ?_)
   refine i_cs rfl rfl rfl rfl hC ?_
   rintro _ _ g ⟨⟨rfl, rfl⟩, rfl⟩
   repeat (first | refine i_s rfl ?_ | refine sw ?_)
   exact e_ret ⟨rfl, _, rfl, rfl, rfl, ⟨rfl, restr_stOf _ _⟩, rfl⟩
 · have hg : symG L i = true := by
    have h : (nd L i).sym ≠ [] := by simpa using h
    simp [symG, rSym, h]
   rw [hg, Bool.and_true]
   repeat (first | refine i_s rfl ?_ | refine sw ?_)
   exact e_ret ⟨rfl, _, rfl, rfl, rfl, ⟨rfl, restr_stOf _ _⟩, rfl⟩
def c_domain_reader_children : Cmd :=
 (qS [qq 4 (.mov (.c (.sl .nil [])))]
 (qT (qS [qm 5 0, qq 6 (.nilck (.t 5)), qf 7 0 6, ql 8 1 7, qm 9 1, qi 10 2 8 9, qf 11 0 10, ql 12 1 11, qq 13 (.bin .neq false [.s] (.t 12) (.c (.str [])))]
 (.cond (.t 13) (.ops [qm 14 0, qq 15 (.call (.s [833288, 844866, 844930, 844994, 845063]) (.c (.fn 110 [])) [.t 14])]) .skip))
 (.seq (.ops [qm 16 0, qq 17 (.nilck (.t 16)), qf 18 0 17, ql 19 1 18, qm 20 1, qi 21 2 19 20, qf 22 1 21, ql 23 1 22, qm 4 23]) .ret)))
def r_domain_reader_children : List RVar := [.tmp 4]
def n_domain_reader_children : Nat := 24
theorem k_domain_reader_children : chkFn PG 114 n_domain_reader_children r_domain_reader_children c_domain_reader_children = true := by kernel_rfl
theorem ct_rchildren (L : List Sx) (d : Dom) (ok : Bool) (i : Int) (hi : Ix L i) : Rc 114 [.int .i64 i] L d ok (.sl .p ((rCh L i).map i64V)) (ok && chG L i) := fun G H g => by
 have hC := ct_fail L d ok G H g
 have hx := nd_get hi
 obtain ⟨h0, h1⟩ := hi
 refine CT.step _ mixed k_domain_reader_children (fun nm hnm => stOf_mem _ nm hnm) fun hM => ?_
 repeat (first | refine i_s rfl ?_ | refine sw ?_ | refine jd rfl rfl ?_)
 refine c_cond rfl (fun h => ?_) (fun h => ?_)
 · have hg : chG L i = false := by
    have h : (nd L i).sym ≠ [] := by simpa using h
    simp [chG, rSym, h]
   rw [hg, andF]
   repeat (first | refine i_s rfl ?_ | refine sw ?_)
   refine i_cs rfl rfl rfl rfl hC ?_
   rintro _ _ g ⟨⟨rfl, rfl⟩, rfl⟩
   repeat (first | refine i_s rfl ?_ | refine sw ?_ | refine jd rfl rfl ?_)
   exact e_ret ⟨rfl, _, rfl, rfl, rfl, ⟨rfl, restr_stOf _ _⟩, rfl⟩
 · have hg : chG L i = true := by
    have h : (nd L i).sym = [] := by simpa using h
    simp [chG, rSym, h]
   rw [hg, Bool.and_true]
   repeat (first | refine i_s rfl ?_ | refine sw ?_ | refine jd rfl rfl ?_)
   exact e_ret ⟨rfl, _, rfl, rfl, rfl, ⟨rfl, restr_stOf _ _⟩, rfl⟩
def c_domain_reader_named : Cmd :=
 (qS [qq 6 (.mov (.c (.sl .p [])))]
 (qS [qm 8 0, qm 9 1, qq 10 (.call (.s [833288, 844866, 844930, 844994, 845063]) (.c (.fn 114 [])) [.t 8, .t 9]), qm 7 10]
 (qT (qS [qm 11 7, qn 12 11, qv 13 .eql [.i] 12 0, qm 14 13, qg 15 14 false (.mov (.t 0)), qg 16 14 false (.mov (.t 7)), qg 17 14 false (.iaddr 1 (.t 16) (.c (.int .i64 0))), qg 18 14 false (.load false 1 (.t 17)), qg 19 14 false (.call (.s [833288, 844866, 844930, 844994, 845063]) (.c (.fn 113 [])) [.t 15, .t 18]), qg 20 14 false (.mov (.t 2)), qg 21 14 false (.bin .neq false [.s] (.t 19) (.t 20)), qq 22 (.pick (.t 14) (.c (.bool true)) (.t 21))]
 (.cond (.t 22) (qS [qm 23 0, qq 24 (.call (.s [833288, 844866, 844930, 844994, 845063]) (.c (.fn 110 [])) [.t 23])]
 (.seq (.ops [qq 6 (.mov (.c (.sl .p [])))]) .ret)) .skip))
 (.seq (.ops [qm 25 7, qq 26 (.slice false 1 (.t 25) (some (.c (.int .i64 1))) none), qm 6 26]) .ret))))
def r_domain_reader_named : List RVar := [.tmp 6]
def n_domain_reader_named : Nat := 27
theorem k_domain_reader_named : chkFn PG 109 n_domain_reader_named r_domain_reader_named c_domain_reader_named = true := by kernel_rfl
theorem ct_named (L : List Sx) (hL : RdOk L) (d : Dom) (ok : Bool) (i : Int) (hi : Ix L i) (name : List UInt8) : Rc 109 [.int .i64 i, .str name] L d ok (.sl .p ((nmV L i name).map i64V)) (ok && nmG L i name) := fun G H g => by
 have hC := ct_rchildren L d ok i hi G H g
 have hix := ch_ix hL hi
 refine CT.step _ mixed k_domain_reader_named (fun nm hnm => stOf_mem _ nm hnm) fun hM => ?_
 repeat (first | refine i_s rfl ?_ | refine sw ?_)
 refine i_cs rfl rfl rfl rfl hC ?_
 rintro _ _ g ⟨⟨rfl, rfl⟩, rfl⟩
 cases hc : rCh L i with
 | nil =>
  have e1 : nmV L i name = [] := by unfold nmV; rw [hc]
  have e2 : nmG L i name = false := by unfold nmG; rw [hc]
  rw [e1, e2, andF]
  have hF := ct_fail L d (ok && chG L i) G H g
  clear hC
  repeat' (first | refine i_len rfl ?_ | refine i_s rfl ?_ | refine sw ?_ | refine i_gf rfl ?_ | refine c_t rfl ?_)
  all_goals first
   | (exfalso; clear hF; simp at *; done)
   | skip
  refine i_cs rfl rfl rfl rfl hF ?_
  rintro _ _ g ⟨⟨rfl, rfl⟩, rfl⟩
  repeat (first | refine i_s rfl ?_ | refine sw ?_)
  exact e_ret ⟨rfl, _, rfl, rfl, rfl, ⟨rfl, restr_stOf _ _⟩, rfl⟩
 | cons c r =>
  rw [hc] at hix
  obtain ⟨h2, h3⟩ := hix.tail
  have hS := ct_rsymbol L d (ok && chG L i) c h2 G H g
  have hx0 : (c :: r)[(0 : Int).toNat]? = some c := rfl
  clear hC
  repeat' (first | refine i_len rfl ?_ | refine i_s rfl ?_ | refine sw ?_ | refine i_gt rfl ?_ | refine jd rfl rfl ?_ | fail)
  all_goals first
   | (exfalso; clear hS; simp at *; done)
   | (exfalso; clear hS; simp at *; omega)
   | skip
  refine i_cs rfl rfl rfl rfl hS ?_
  rintro _ _ g ⟨⟨rfl, rfl⟩, rfl⟩
  have hF := ct_fail L d ((ok && chG L i) && symG L c) G H g
  clear hS
  repeat' (first | refine i_s rfl ?_ | refine sw ?_ | refine i_gt rfl ?_ | refine c_cond rfl (fun h => ?_) (fun h => ?_))
  · have hn : rSym L c ≠ name := by simpa using h
    have e1 : nmV L i name = [] := by unfold nmV; rw [hc]; simp [hn]
    have e2 : nmG L i name = false := by unfold nmG; rw [hc]; simp [hn]
    rw [e1, e2, andF]
    refine i_cs rfl rfl rfl rfl hF ?_
    rintro _ _ g ⟨⟨rfl, rfl⟩, rfl⟩
    repeat (first | refine i_s rfl ?_ | refine sw ?_)
    exact e_ret ⟨rfl, _, rfl, rfl, rfl, ⟨rfl, restr_stOf _ _⟩, rfl⟩
  · have hn : rSym L c = name := by simpa using h
    have e1 : nmV L i name = r := by unfold nmV; rw [hc]; simp [hn]
    have e2 : nmG L i name = (chG L i && symG L c) := by unfold nmG; rw [hc]; simp [hn]
    rw [e1, e2, ← Bool.and_assoc]
    clear hF
    skip
    refine i_sl rfl rfl (by omega) (by simp; omega) (.inr (by simp [i64V, V.cells])) ?_
    repeat' (first | refine i_s rfl ?_ | refine sw ?_ | fail)
    exact e_ret ⟨rfl, _, rfl, rfl, rfl, ⟨rfl, restr_stOf _ _⟩, rfl⟩
def c_domain_reader_exactly : Cmd :=
 (qS [qq 6 (.mov (.c (.sl .nil [])))]
 (qS [qm 8 0, qm 9 1, qq 10 (.call (.s [833288, 844866, 844930, 844994, 845063]) (.c (.fn 114 [])) [.t 8, .t 9]), qm 7 10]
 (qT (qS [qm 11 7, qn 12 11, qm 13 2, qu 14 .neq [.i] 12 13]
 (.cond (.t 14) (qS [qm 15 0, qq 16 (.call (.s [833288, 844866, 844930, 844994, 845063]) (.c (.fn 110 [])) [.t 15])]
 (.seq (.ops [qm 17 2, qq 18 (.mkSl 7105153 1 8 (.int .i64 0) (.t 17) (.t 17)), .frz 18, qm 6 18]) .ret)) .skip))
 (.seq (.ops [qm 19 7, qm 6 19]) .ret))))
def r_domain_reader_exactly : List RVar := [.tmp 6]
def n_domain_reader_exactly : Nat := 20
theorem k_domain_reader_exactly : chkFn PG 111 n_domain_reader_exactly r_domain_reader_exactly c_domain_reader_exactly = true := by kernel_rfl
theorem ct_exactly (L : List Sx) (hL : RdOk L) (d : Dom) (ok : Bool) (i : Int) (hi : Ix L i) (n : Nat) (hn : n ≤ 300) : Rc 111 [.int .i64 i, .int .i64 n] L d ok (.sl .p ((exV L i n).map i64V)) (ok && exG L i n) := fun G H g => by
 have hC := ct_rchildren L d ok i hi G H g
 refine CT.step _ mixed k_domain_reader_exactly (fun nm hnm => stOf_mem _ nm hnm) fun hM => ?_
 repeat (first | refine i_s rfl ?_ | refine sw ?_)
 refine i_cs rfl rfl rfl rfl hC ?_
 rintro _ _ g ⟨⟨rfl, rfl⟩, rfl⟩
 have hF := ct_fail L d (ok && chG L i) G H g
 clear hC
 repeat' (first | refine i_len rfl ?_ | refine i_s rfl ?_ | refine sw ?_ | refine c_cond rfl (fun h => ?_) (fun h => ?_))
 · have hh : (rCh L i).length ≠ n := by
    intro e
    rw [e] at h
    simp at h
   have e1 : exV L i n = List.replicate n 0 := by unfold exV; rw [if_neg hh]
   have e2 : exG L i n = false := by unfold exG; rw [decide_eq_false hh]; rfl
   rw [e1, e2, andF]
   refine i_cs rfl rfl rfl rfl hF ?_
   rintro _ _ g ⟨⟨rfl, rfl⟩, rfl⟩
   clear hF
   repeat' (first | refine i_s rfl ?_ | refine sw ?_ | fail)
   refine i_mks (m := (n : Int)) (n := (n : Int)) rfl rfl rfl (by omega) (by omega) (by omega) (by omega) rfl ?_
   refine i_frza rfl rfl rfl ?_
   have e3 : ((List.replicate ((n : Nat) : Int).toNat (V.int .i64 0)).drop 0).take ((n : Nat) : Int).toNat = (List.replicate n 0).map i64V := by simp [i64V]
   rw [e3]
   repeat' (first | refine i_s rfl ?_ | refine sw ?_ | fail)
   exact e_ret ⟨rfl, _, rfl, rfl, rfl, ⟨rfl, restr_stOf _ _⟩, rfl⟩
 · have hh : (rCh L i).length = n := by
    have h : ((rCh L i).length : Int) = n := by simpa using h
    omega
   have e1 : exV L i n = rCh L i := by unfold exV; rw [if_pos hh]
   have e2 : exG L i n = chG L i := by unfold exG; rw [decide_eq_true hh]; rfl
   rw [e1, e2]
   clear hF
   skip
   exact e_ret ⟨rfl, _, rfl, rfl, rfl, ⟨rfl, restr_stOf _ _⟩, rfl⟩
def c_domain_reader_number : Cmd :=
 (qS [qc 4 0]
 (qS [qm 8 1, qk 9 160 [8], qm 7 9, qq 10 (.extract (.t 7) 0), qq 11 (.extract (.t 7) 1), qm 5 10, qm 6 11]
 (qT (qS [qm 12 6, qq 13 (.isnili true (.t 12)), qm 14 13, qg 15 14 false (.mov (.t 5)), qg 16 14 false (.bin .lss false [] (.t 15) (.c (.int .i64 0))), qq 17 (.pick (.t 14) (.c (.bool true)) (.t 16)), qm 18 17, qg 19 18 false (.mov (.t 5)), qg 20 18 false (.bin .gtr false [] (.t 19) (.c (.int .i64 1000000))), qq 21 (.pick (.t 18) (.c (.bool true)) (.t 20)), qm 22 21, qg 23 22 false (.mov (.t 5)), qg 24 22 false (.call .f (.c (.fn 100 [])) [.t 23]), qg 25 22 false (.mov (.t 1)), qg 26 22 false (.bin .neq false [.s] (.t 24) (.t 25)), qq 27 (.pick (.t 22) (.c (.bool true)) (.t 26))]
 (.cond (.t 27) (.ops [qm 28 0, qq 29 (.call (.s [833288, 844866, 844930, 844994, 845063]) (.c (.fn 110 [])) [.t 28])]) .skip))
 (.seq (.ops [qm 30 5, qm 4 30]) .ret))))
def r_domain_reader_number : List RVar := [.tmp 4]
def n_domain_reader_number : Nat := 31
theorem k_domain_reader_number : chkFn PG 147 n_domain_reader_number r_domain_reader_number c_domain_reader_number = true := by kernel_rfl
theorem ct_number (L : List Sx) (d : Dom) (ok : Bool) (s : List UInt8) (hs : s.length ≤ 1000) : Rc 147 [.str s] L d ok (.int .i64 (atoiN s)) (ok && numG s) := fun G H g => by
 have hA := f_strconv_Atoi hs
 obtain ⟨r0, r1⟩ := atoi_rng s
 have hI := f_strconv_Itoa r0 r1
 have hF := ct_fail L d ok G H g
 refine CT.step _ mixed k_domain_reader_number (fun nm hnm => stOf_mem _ nm hnm) fun hM => ?_
 repeat' (first | refine i_s rfl ?_ | refine sw ?_ | refine i_gt rfl ?_ | refine i_gf rfl ?_ | refine c_t rfl ?_ | (refine sp ?_ ?_ <;> try intro h) | refine sf rfl rfl hA ?_ | refine sf rfl rfl hI ?_ | refine i_isnili rfl ?_)
 all_goals first
  | (have e : numG s = true := by
      clear hA hI hF
      unfold numG
      grind
     rw [e, Bool.and_true]
     exact e_ret ⟨rfl, _, rfl, rfl, rfl, ⟨rfl, restr_stOf _ _⟩, rfl⟩)
  | (have e : numG s = false := by
      clear hA hI hF
      unfold numG
      grind
     rw [e, andF]
     refine i_cs rfl rfl rfl rfl hF ?_
     rintro _ _ g ⟨⟨rfl, rfl⟩, rfl⟩
     repeat (first | refine i_s rfl ?_ | refine sw ?_)
     exact e_ret ⟨rfl, _, rfl, rfl, rfl, ⟨rfl, restr_stOf _ _⟩, rfl⟩)
def c_domain_reader_typeOf_1 : Cmd :=
 (qS [qx 2 9344130 2 0, qb 3 false]
 (.seq (.ops [qf 4 0 2, ql 5 1 4, ql 6 1 1, qu 7 .eql [.s] 5 6, qm 3 7]) .ret))
def r_domain_reader_typeOf_1 : List RVar := [.tmp 3]
def n_domain_reader_typeOf_1 : Nat := 8
theorem k_domain_reader_typeOf_1 : chkFn PG 146 n_domain_reader_typeOf_1 r_domain_reader_typeOf_1 c_domain_reader_typeOf_1 = true := by kernel_rfl
theorem f_typeOf_1 (t : Typ) (s : List UInt8) : Fc PG 146 [tyV t, .cptr .p (.str s) 0] (.bool (t.name == s)) := by
 refine Fn.step mixed k_domain_reader_typeOf_1 ?_
 repeat' (first | refine i_s rfl ?_ | refine sw ?_ | refine i_box rfl rfl ?_)
 exact e_ret ⟨rfl, _, rfl, rfl⟩
def c_domain_reader_typeOf : Cmd :=
 (qS [qc 4 0]
 (qS [qm 7 0, qm 8 1, qq 9 (.call (.s [833288, 844866, 844930, 844994, 845063]) (.c (.fn 113 [])) [.t 7, .t 8]), qq 5 (.alloc 7168321 (.str [])), qs 1 5 9]
 (qS [qm 10 0, qq 11 (.nilck (.t 10)), qf 12 1 11, qf 13 0 12, ql 14 1 13, qq 15 (.mkfn 146 [.t 5]), qk 16 126 [14, 15], qm 6 16]
 (qT (qS [qm 17 6, qv 18 .lss [] 17 0, qm 19 18, qg 20 19 true (.load false 1 (.t 5)), qg 21 19 true (.bin .neq false [.s] (.t 20) (.c (.str [111, 98, 106, 101, 99, 116]))), qq 22 (.pick (.t 19) (.t 21) (.c (.bool false)))]
 (.cond (.t 22) (.ops [qm 23 0, qq 24 (.call (.s [833288, 844866, 844930, 844994, 845063]) (.c (.fn 110 [])) [.t 23])]) .skip))
 (.seq (.ops [qm 25 6, qm 4 25]) .ret)))))
def r_domain_reader_typeOf : List RVar := [.tmp 4]
def n_domain_reader_typeOf : Nat := 26
theorem k_domain_reader_typeOf : chkFn PG 112 n_domain_reader_typeOf r_domain_reader_typeOf c_domain_reader_typeOf = true := by kernel_rfl
theorem ct_typeOf (L : List Sx) (d : Dom) (hT : d.types.length ≤ 1000000) (ok : Bool) (i : Int) (hi : Ix L i) : Rc 112 [.int .i64 i] L d ok (.int .i64 (typV d.types L i)) (ok && typG d.types L i) := fun G H g => by
 have hC := ct_rsymbol L d ok i hi G H g
 have hX := f_IndexFunc_Type d.types (fun t => t.name == rSym L i) 146 [.cptr .p (.str (rSym L i)) 0] (by omega) (fun σ n => rfl) rfl (fun t _ => f_typeOf_1 t (rSym L i))
 have hF := ct_fail L d (ok && symG L i) G H
 refine CT.step _ mixed k_domain_reader_typeOf (fun nm hnm => stOf_mem _ nm hnm) fun hM => ?_
 repeat (first | refine i_s rfl ?_ | refine sw ?_)
 refine i_cs rfl rfl rfl rfl hC ?_
 rintro _ _ g ⟨⟨rfl, rfl⟩, rfl⟩
 replace hF := hF g
 clear hC
 repeat' (first | refine i_s rfl ?_ | refine sw ?_ | refine i_gt rfl ?_ | refine i_gf rfl ?_ | refine c_f rfl ?_ | refine i_stb rfl ?_ | refine i_alloc rfl ?_ | (refine sp ?_ ?_ <;> try intro h) | refine sf rfl rfl hX ?_ | fail)
 all_goals first
  | (have e : typG d.types L i = symG L i := by
      clear hX hF
      unfold typG typV
      simp_all [objectS]
      done
     rw [e]
     exact e_ret ⟨rfl, _, rfl, rfl, rfl, ⟨rfl, restr_stOf _ _⟩, rfl⟩)
  | (have e : typG d.types L i = false := by
      clear hX hF
      unfold typG typV
      simp_all [objectS]
      done
     rw [e, andF]
     refine i_cs rfl rfl rfl rfl hF ?_
     rintro _ _ g ⟨⟨rfl, rfl⟩, rfl⟩
     repeat (first | refine i_s rfl ?_ | refine sw ?_)
     exact e_ret ⟨rfl, _, rfl, rfl, rfl, ⟨rfl, restr_stOf _ _⟩, rfl⟩)
theorem all_take {α : Type} (p : α → Bool) (ok : Bool) {l : List α} {k : Nat} {c : α} (h : l[k]? = some c) : (ok && (l.take (k + 1)).all p) = ((ok && (l.take k).all p) && p c) := by
 rw [take_succ_get h, List.all_append, Bool.and_assoc]
 simp
theorem map_take {α β : Type} (f : α → β) {l : List α} {k : Nat} {c : α} (h : l[k]? = some c) : (l.take (k + 1)).map f = (l.take k).map f ++ [f c] := by
 rw [take_succ_get h, List.map_append]; rfl
def c_domain_reader_typeList : Cmd :=
 (qS [qq 4 (.mov (.c (.sl .nil [])))]
 (qS [qq 5 (.newVec 7360321)]
 (.seq (qS [qm 8 1, qn 9 8, qc 10 0]
 (.block 0 (.loop (qS [qu 11 .lss [] 10 9]
 (qT (.cond (.t 11) .skip (.exit 0))
 (qT (.block 1 (qS [qi 12 1 8 10, ql 13 1 12, qm 7 13]
 (.ops [qm 14 5, qm 15 0, qm 16 7, qq 17 (.call (.s [833288, 844866, 844930, 844994, 845063]) (.c (.fn 112 [])) [.t 15, .t 16]), qq 18 (.bsl 1 [.t 17]), qq 19 (.append 1 8 3 (.t 14) (.t 18)), qm 5 19])))
 (.ops [qv 20 .add [] 10 1, qm 10 20]))))))) (qT (.frz 5)
 (.seq (.ops [qm 21 5, qm 4 21]) .ret)))))
def r_domain_reader_typeList : List RVar := [.tmp 4]
def n_domain_reader_typeList : Nat := 22
theorem k_domain_reader_typeList : chkFn PG 115 n_domain_reader_typeList r_domain_reader_typeList c_domain_reader_typeList = true := by kernel_rfl
theorem ct_typeList (L : List Sx) (d : Dom) (hT : d.types.length ≤ 1000000) (ok : Bool) (l : List Int) (hl : Ixs L l) : Rc 115 [.sl .p (l.map i64V)] L d ok (.sl .p ((l.map (typV d.types L)).map i64V)) (ok && l.all (typG d.types L)) := fun G H g => by
 have hlen := hl.1
 refine CT.step _ mixed k_domain_reader_typeList (fun nm hnm => stOf_mem _ nm hnm) fun hM => ?_
 repeat (first | refine i_len rfl ?_ | refine i_s rfl ?_ | refine sw ?_ | refine i_nv rfl ?_)
 refine c_for l.length (fun k => [(0, .bptr 833288 0), (5, .sl (.own 7360321) (((l.take k).map (typV d.types L)).map i64V)), (8, .sl .p (l.map i64V)), (9, .int .i64 l.length), (10, .int .i64 k)])
  (fun k => (7360321, .vec ((l.take k).map (typV d.types L)).length) :: rdS L d (ok && (l.take k).all (typG d.types L))) (fun _ => True) trivial ⟨⟨rfl, rfl, rfl, rfl, rfl, trivial⟩, ⟨rfl, ?_, rfl, rfl, rfl, rfl, trivial⟩, rfl⟩ fun k hk _ => ?_
 · show _ = Blk.box (rdRow L d (ok && true))
   rw [Bool.and_true]; rfl
 have h1 : ((l.take k).map (typV d.types L)).length = k := by simp; omega
 by_cases hlt : k < l.length
 · obtain ⟨c, hc⟩ := get_some hlt
   have hC := ct_typeOf L d hT (ok && (l.take k).all (typG d.types L)) c (hl.2 c (mem_get hc)) G H
   have e1 := all_take (typG d.types L) ok hc
   have e2 := map_take (typV d.types L) hc
   repeat' (first | refine i_s rfl ?_ | refine sw ?_ | refine jd rfl rfl ?_ | refine c_cond rfl (fun h => ?_) (fun h => ?_))
   all_goals first
    | (exfalso; clear hC; simp at *; done)
    | (exfalso; clear hC; simp at *; omega)
    | skip
   refine i_cs rfl rfl rfl rfl (hC _) ?_
   rintro _ _ g ⟨⟨rfl, rfl⟩, rfl⟩
   clear hC
   repeat' refine i_s rfl ?_
   refine i_appM (c := typV d.types L c) rfl rfl rfl rfl rfl (by omega) (by omega) ?_
   repeat' (first | refine i_s rfl ?_ | refine sw ?_ | refine ja rfl rfl ?_ | fail)
   refine e_for hlt trivial ⟨⟨rfl, ?_, rfl, rfl, rfl, trivial⟩, ⟨?_, ?_, rfl, rfl, rfl, rfl, trivial⟩, rfl⟩
   · rw [e2]; rfl
   · rw [e2]; simp; rfl
   · rw [e1]; rfl
 have hge : k = l.length := by omega
 subst hge
 rw [List.take_length]
 repeat' (first | refine i_s rfl ?_ | refine sw ?_ | refine c_cond rfl (fun h => ?_) (fun h => ?_))
 all_goals first
  | (exfalso; simp at *; done)
  | (exfalso; simp at *; omega)
  | skip
 refine c_frzv rfl rfl ?_
 repeat' (first | refine i_s rfl ?_ | refine sw ?_ | fail)
 exact e_ret ⟨rfl, _, rfl, rfl, rfl, ⟨rfl, restr_stOf _ _⟩, rfl⟩
def c_domain_reader_arg_1 : Cmd :=
 (qS [qx 2 10944130 2 0, qb 3 false]
 (.seq (.ops [qf 4 0 2, ql 5 1 4, ql 6 1 1, qu 7 .eql [.s] 5 6, qm 3 7]) .ret))
def r_domain_reader_arg_1 : List RVar := [.tmp 3]
def n_domain_reader_arg_1 : Nat := 8
theorem k_domain_reader_arg_1 : chkFn PG 171 n_domain_reader_arg_1 r_domain_reader_arg_1 c_domain_reader_arg_1 = true := by kernel_rfl
theorem f_arg_1 (t : Obj) (s : List UInt8) : Fc PG 171 [obV t, .cptr .p (.str s) 0] (.bool (t.name == s)) := by
 refine Fn.step mixed k_domain_reader_arg_1 ?_
 repeat' (first | refine i_s rfl ?_ | refine sw ?_ | refine i_box rfl rfl ?_)
 exact e_ret ⟨rfl, _, rfl, rfl⟩
def c_domain_reader_arg : Cmd :=
 (qS [qc 4 0]
 (qS [qm 7 0, qm 8 1, qq 9 (.call (.s [833288, 844866, 844930, 844994, 845063]) (.c (.fn 113 [])) [.t 7, .t 8]), qq 5 (.alloc 10368321 (.str [])), qs 1 5 9]
 (qT (qS [ql 10 1 5, qq 11 (.bin .neq false [.s] (.t 10) (.c (.str []))), qm 12 11, qg 13 12 true (.load false 1 (.t 5)), qg 14 12 true (.index (.t 13) (.c (.int .i64 0))), qg 15 12 true (.bin .eql false [.i] (.t 14) (.c (.int .u8 63))), qq 16 (.pick (.t 12) (.t 15) (.c (.bool false)))]
 (.cond (.t 16) (.seq (.ops [qm 17 0, ql 18 1 5, qq 19 (.slice true 1 (.t 18) (some (.c (.int .i64 1))) none), qq 20 (.call (.s [833288, 844866, 844930, 844994, 845063]) (.c (.fn 147 [])) [.t 17, .t 19]), qq 21 (.bin .sub false [] (.c (.int .i64 (-1))) (.t 20)), qm 4 21]) .ret) .skip))
 (qS [qm 22 0, qq 23 (.nilck (.t 22)), qf 24 1 23, qf 25 1 24, ql 26 1 25, qq 27 (.mkfn 171 [.t 5]), qk 28 127 [26, 27], qm 6 28]
 (qT (qS [qm 29 6, qv 30 .lss [] 29 0]
 (.cond (.t 30) (.ops [qm 31 0, qq 32 (.call (.s [833288, 844866, 844930, 844994, 845063]) (.c (.fn 110 [])) [.t 31])]) .skip))
 (.seq (.ops [qm 33 6, qm 4 33]) .ret))))))
def r_domain_reader_arg : List RVar := [.tmp 4]
def n_domain_reader_arg : Nat := 34
theorem k_domain_reader_arg : chkFn PG 162 n_domain_reader_arg r_domain_reader_arg c_domain_reader_arg = true := by kernel_rfl
theorem ct_arg (L : List Sx) (hL : RdOk L) (d : Dom) (hO : d.objects.length ≤ 1000000) (ok : Bool) (i : Int) (hi : Ix L i) : Rc 162 [.int .i64 i] L d ok (.int .i64 (argV d.objects L i)) (ok && argG d.objects L i) := fun G H g => by
 have hC := ct_rsymbol L d ok i hi G H g
 have hX := f_IndexFunc_Object d.objects (fun o => o.name == rSym L i) 171 [.cptr .p (.str (rSym L i)) 0] (by omega) (fun σ n => rfl) rfl (fun t _ => f_arg_1 t (rSym L i))
 have hsl := hL.sym _ _ (nd_get hi)
 have hsl : (rSym L i).length ≤ 100 := hsl
 refine CT.step _ mixed k_domain_reader_arg (fun nm hnm => stOf_mem _ nm hnm) fun hM => ?_
 cases hs : rSym L i with
 | nil =>
  have eV : argV d.objects L i = fidx (fun o => o.name == []) d.objects := by unfold argV; rw [hs]
  have eG : argG d.objects L i = false := by unfold argG; rw [hs]
  have eS : symG L i = false := by unfold symG; rw [hs]; rfl
  rw [hs, eS, andF] at hC
  rw [hs] at hX
  rw [eV, eG, andF]
  repeat (first | refine i_s rfl ?_ | refine sw ?_)
  refine i_cs rfl rfl rfl rfl hC ?_
  rintro _ _ g ⟨⟨rfl, rfl⟩, rfl⟩
  have hF := ct_fail L d false G H g
  clear hC eV eG eS
  repeat' (first | refine i_s rfl ?_ | refine sw ?_ | refine i_gf rfl ?_ | refine c_f rfl ?_ | refine i_stb rfl ?_ | refine i_alloc rfl ?_ | refine c_cond rfl (fun h => ?_) (fun h => ?_) | refine sf rfl rfl hX ?_ | fail)
  all_goals first
   | (exfalso; clear hX hF; simp at *; done)
   | exact e_ret ⟨rfl, _, rfl, rfl, rfl, ⟨rfl, restr_stOf _ _⟩, rfl⟩
   | (refine i_cs rfl rfl rfl rfl hF ?_
      rintro _ _ g ⟨⟨rfl, rfl⟩, rfl⟩
      repeat (first | refine i_s rfl ?_ | refine sw ?_)
      exact e_ret ⟨rfl, _, rfl, rfl, rfl, ⟨rfl, restr_stOf _ _⟩, rfl⟩)
 | cons c r =>
  have eS : symG L i = true := by unfold symG; rw [hs]; rfl
  have hx0 : (c :: r)[(0 : Int).toNat]? = some c := rfl
  rw [hs, eS, Bool.and_true] at hC
  rw [hs] at hX hsl
  by_cases hc : c = 63
  · have eV : argV d.objects L i = -1 - atoiN r := by unfold argV; rw [hs]; simp [hc]
    have eG : argG d.objects L i = numG r := by unfold argG; rw [hs]; simp [hc]
    rw [eV, eG]
    obtain ⟨r0, r1⟩ := atoi_rng r
    repeat (first | refine i_s rfl ?_ | refine sw ?_)
    refine i_cs rfl rfl rfl rfl hC ?_
    rintro _ _ g ⟨⟨rfl, rfl⟩, rfl⟩
    have hN := ct_number L d ok r (by simp at hsl; omega) G H g
    clear hC eV eG eS
    subst hc
    repeat' (first | refine i_s rfl ?_ | refine sw ?_ | refine i_gt rfl ?_ | refine c_t rfl ?_ | refine jf rfl rfl ?_ | refine i_stb rfl ?_ | refine i_alloc rfl ?_ | refine i_ss rfl rfl (by omega) (by simp; omega) ?_)
    all_goals first
     | (exfalso; clear hX hN; simp at *; done)
     | skip
    refine i_cs rfl rfl rfl rfl hN ?_
    rintro _ _ g ⟨⟨rfl, rfl⟩, rfl⟩
    clear hN
    repeat' (first | refine i_s rfl ?_ | refine sw ?_ | refine jb rfl rfl ?_ | fail)
    exact e_ret ⟨rfl, _, rfl, rfl, rfl, ⟨rfl, restr_stOf _ _⟩, rfl⟩
  · have eV : argV d.objects L i = fidx (fun o => o.name == c :: r) d.objects := by unfold argV; rw [hs]; simp [hc]
    have eG : argG d.objects L i = decide (0 ≤ fidx (fun o => o.name == c :: r) d.objects) := by unfold argG; rw [hs]; simp [hc]
    have hc2 : ¬ (c.toNat : Int) = 63 := fun e => hc (UInt8.toNat_inj.1 (by simp; omega))
    rw [eV, eG]
    generalize fidx (fun o => o.name == c :: r) d.objects = z at *
    repeat (first | refine i_s rfl ?_ | refine sw ?_)
    refine i_cs rfl rfl rfl rfl hC ?_
    rintro _ _ g ⟨⟨rfl, rfl⟩, rfl⟩
    have hF := ct_fail L d ok G H g
    clear hC eV eG eS
    repeat' (first | refine i_s rfl ?_ | refine sw ?_ | refine i_gt rfl ?_ | refine jf rfl rfl ?_ | refine i_stb rfl ?_ | refine i_alloc rfl ?_ | refine c_cond rfl (fun h => ?_) (fun h => ?_) | refine sf rfl rfl hX ?_ | fail)
    all_goals first
     | (exfalso; clear hX hF; simp at *; done)
     | (exfalso; clear hX hF; simp at *; omega)
     | (have e : decide (0 ≤ z) = true := by
         clear hX hF
         simp at *
         omega
        rw [e, Bool.and_true]
        exact e_ret ⟨rfl, _, rfl, rfl, rfl, ⟨rfl, restr_stOf _ _⟩, rfl⟩)
     | (have e : decide (0 ≤ z) = false := by
         clear hX hF
         simp at *
         omega
        rw [e, andF]
        refine i_cs rfl rfl rfl rfl hF ?_
        rintro _ _ g ⟨⟨rfl, rfl⟩, rfl⟩
        repeat (first | refine i_s rfl ?_ | refine sw ?_)
        exact e_ret ⟨rfl, _, rfl, rfl, rfl, ⟨rfl, restr_stOf _ _⟩, rfl⟩)
def c_domain_reader_atom_1 : Cmd :=
 (qS [qx 2 10304130 2 0, qb 3 false]
 (.seq (.ops [qf 4 0 2, ql 5 1 4, ql 6 1 1, qu 7 .eql [.s] 5 6, qm 3 7]) .ret))
def r_domain_reader_atom_1 : List RVar := [.tmp 3]
def n_domain_reader_atom_1 : Nat := 8
theorem k_domain_reader_atom_1 : chkFn PG 161 n_domain_reader_atom_1 r_domain_reader_atom_1 c_domain_reader_atom_1 = true := by kernel_rfl
theorem f_atom_1 (t : Prd) (s : List UInt8) : Fc PG 161 [prdV t, .cptr .p (.str s) 0] (.bool (t.name == s)) := by
 refine Fn.step mixed k_domain_reader_atom_1 ?_
 repeat' (first | refine i_s rfl ?_ | refine sw ?_ | refine i_box rfl rfl ?_)
 exact e_ret ⟨rfl, _, rfl, rfl⟩
structure RdD (d : Dom) : Prop where
 t : d.types.length ≤ 1000000
 o : d.objects.length ≤ 1000000
 p : d.preds.length ≤ 1000000
 s : d.schemas.length ≤ 1000000
def c_domain_reader_atom : Cmd :=
 (qS [qq 4 (.alloc 9472258 (.agg [.int .i64 0, .sl .nil []]))]
 (qS [qm 10 0, qm 11 1, qq 12 (.call (.s [833288, 844866, 844930, 844994, 845063]) (.c (.fn 114 [])) [.t 10, .t 11]), qm 5 12]
 (qT (qS [qm 13 5, qn 14 13, qv 15 .eql [.i] 14 0]
 (.cond (.t 15) (qS [qm 16 0, qq 17 (.call (.s [833288, 844866, 844930, 844994, 845063]) (.c (.fn 110 [])) [.t 16])]
 (.seq (.ops [qq 18 (.build [.int .i64 0, .sl .p []] []), qs 2 4 18]) .ret)) .skip))
 (qS [qm 19 0, qm 20 5, qq 21 (.iaddr 1 (.t 20) (.c (.int .i64 0))), ql 22 1 21, qq 23 (.call (.s [833288, 844866, 844930, 844994, 845063]) (.c (.fn 113 [])) [.t 19, .t 22]), qq 6 (.alloc 9472385 (.str [])), qs 1 6 23]
 (.seq (.ops [qm 24 0, qq 25 (.nilck (.t 24)), qf 26 1 25, qf 27 2 26, ql 28 1 27, qq 29 (.mkfn 161 [.t 6]), qk 30 128 [28, 29], qq 31 (.build [.int .i64 0, .sl .nil []] [(0 , 1 , .t 30)]), qq 7 (.alloc 9472450 (.agg [.int .i64 0, .sl .nil []])), qs 2 7 31]) (.nvb 7 1 9476545 (.cut (qT (qS [qf 32 0 7, ql 33 1 32, qv 34 .lss [] 33 0]
 (.cond (.t 34) (.ops [qm 35 0, qq 36 (.call (.s [833288, 844866, 844930, 844994, 845063]) (.c (.fn 110 [])) [.t 35])]) .skip))
 (.seq (qS [qm 37 5, qq 38 (.slice false 1 (.t 37) (some (.c (.int .i64 1))) none), qn 39 38, qc 40 0]
 (.block 0 (.loop (qS [qu 41 .lss [] 40 39]
 (qT (.cond (.t 41) .skip (.exit 0))
 (qT (.block 1 (qS [qi 42 1 38 40, ql 43 1 42, qm 9 43]
 (.opsT (.node 0 4 (.node 1 4 (.leaf [0, 1, 2, 3, 4, 5, 6, 7, 8]) (.leaf [0, 2, 3, 4, 1, 5, 6, 7, 8])) (.leaf [2, 3, 4, 0, 1, 5, 6, 7, 8])) [qf 44 1 7, ql 45 1 44, qm 46 0, qm 47 9, qq 48 (.call (.s [833288, 844866, 844930, 844994, 845063]) (.c (.fn 162 [])) [.t 46, .t 47]), qq 49 (.bsl 1 [.t 48]), qq 50 (.append 1 8 3 (.t 45) (.t 49)), qf 51 1 7, qs 1 51 50])))
 (.ops [qv 52 .add [] 40 1, qm 40 52]))))))) (.fzb 7 1 (.cut (.seq (.ops [qL 53 2 7, qs 2 4 53]) .ret))))))))))))
def r_domain_reader_atom : List RVar := [.cell true 2 4]
def n_domain_reader_atom : Nat := 54
theorem k_domain_reader_atom : chkFn PG 148 n_domain_reader_atom r_domain_reader_atom c_domain_reader_atom = true := by kernel_rfl
theorem ct_ratom (L : List Sx) (hL : RdOk L) (d : Dom) (hd : RdD d) (ok : Bool) (i : Int) (hi : Ix L i) : Rc 148 [.int .i64 i] L d ok (atV (atmV d L i)) (ok && atmG d L i) := fun G H g => by
 have hC := ct_rchildren L d ok i hi G H g
 have hix := ch_ix hL hi
 have hp := hd.p
 refine CT.step _ mixed k_domain_reader_atom (fun nm hnm => stOf_mem _ nm hnm) fun hM => ?_
 repeat (first | refine i_s rfl ?_ | refine sw ?_ | refine i_alloc rfl ?_)
 refine i_cs rfl rfl rfl rfl hC ?_
 rintro _ _ g ⟨⟨rfl, rfl⟩, rfl⟩
 clear hC
 cases hc : rCh L i with
 | nil =>
  have e1 : atmV d L i = ⟨0, []⟩ := by unfold atmV; rw [hc]
  have e2 : atmG d L i = false := by unfold atmG; rw [hc]
  rw [e1, e2, andF]
  have hF := ct_fail L d (ok && chG L i) G H g
  repeat' (first | refine i_len rfl ?_ | refine i_s rfl ?_ | refine sw ?_ | refine c_t rfl ?_)
  all_goals first
   | (exfalso; clear hF; simp at *; done)
   | skip
  refine i_cs rfl rfl rfl rfl hF ?_
  rintro _ _ g ⟨⟨rfl, rfl⟩, rfl⟩
  repeat' (first | refine i_s rfl ?_ | refine sw ?_ | refine i_stb rfl ?_)
  exact e_ret ⟨rfl, _, rfl, rfl, rfl, ⟨rfl, restr_stOf _ _⟩, rfl⟩
 | cons c r =>
  rw [hc] at hix
  obtain ⟨h2, h3⟩ := hix.tail
  have e1 : atmV d L i = ⟨prdX d.preds L c, r.map (argV d.objects L)⟩ := by unfold atmV; rw [hc]
  have e2 : atmG d L i = (chG L i && (symG L c && (decide (0 ≤ prdX d.preds L c) && r.all (argG d.objects L)))) := by unfold atmG; rw [hc]
  rw [e1, e2]
  have hS := ct_rsymbol L d (ok && chG L i) c h2 G H g
  have hx0 : (c :: r)[(0 : Int).toNat]? = some c := rfl
  repeat' (first | refine i_len rfl ?_ | refine i_s rfl ?_ | refine sw ?_ | refine c_f rfl ?_ | refine jd rfl rfl ?_ | fail)
  all_goals first
   | (exfalso; clear hS; simp at *; done)
   | (exfalso; clear hS; simp at *; omega)
   | skip
  refine i_cs rfl rfl rfl rfl hS ?_
  rintro _ _ g ⟨⟨rfl, rfl⟩, rfl⟩
  clear hS
  have hX := f_IndexFunc_Predicate d.preds (fun o => o.name == rSym L c) 161 [.cptr .p (.str (rSym L c)) 0] (by omega) (fun σ n => rfl) rfl (fun t _ => f_atom_1 t (rSym L c))
  have hX : Fc PG 128 [.sl .p (d.preds.map prdV), .fn 161 [.cptr .p (.str (rSym L c)) 0]] (.int .i64 (prdX d.preds L c)) := hX
  generalize prdX d.preds L c = z at *
  repeat' (first | refine i_s rfl ?_ | refine sw ?_ | refine i_stb rfl ?_ | refine i_alloc rfl ?_ | refine sf rfl rfl hX ?_ | fail)
  refine c_nvb rfl rfl rfl rfl ?_
  clear hX
  have e3 : ∀ a b c z r : Bool, (a && (b && (c && (z && r)))) = ((((a && b) && c) && z) && r) := fun a b c z r => by cases a <;> cases b <;> cases c <;> cases z <;> cases r <;> rfl
  rw [e3]
  clear e1 e2 e3
  generalize hok : ((ok && chG L i) && symG L c) = ok1 at *
  repeat (first | refine i_s rfl ?_ | refine sw ?_)
  refine c_join hM (fun e ρ' σ' g' => e = .normal ∧ g' = g ∧ Fits RNS [(0, .bptr 833288 0), (4, .bptr 9472258 0), (5, .sl .p ((c :: r).map i64V)), (7, .bptr 9472450 0)]
   ((9472258, .box (.agg [.int .i64 0, .sl .nil []])) :: (9472450, .box (.agg [.int .i64 z, .sl (.own 9476545) []])) :: (9476545, .vec 0) :: rdS L d (ok1 && decide (0 ≤ z))) ρ' σ') ?_ ?_
  · have hF := ct_fail L d ok1 G H g
    refine c_cond rfl (fun h => ?_) (fun h => ?_)
    · have e : decide (0 ≤ z) = false := by
       have h : z < 0 := by simpa using h
       exact decide_eq_false (by omega)
      rw [e, andF]
      repeat (first | refine i_s rfl ?_ | refine sw ?_)
      refine i_cs rfl rfl rfl rfl hF ?_
      rintro _ _ g ⟨⟨rfl, rfl⟩, rfl⟩
      repeat refine sw ?_
      exact e_end ⟨rfl, rfl, ft⟩
    · have e : decide (0 ≤ z) = true := by
       have h : 0 ≤ z := by simpa using h
       exact decide_eq_true h
      rw [e, Bool.and_true]
      repeat refine sw ?_
      exact e_end ⟨rfl, rfl, ft⟩
  · rintro _ ρ' σ' g ⟨rfl, rfl, hf⟩
    refine e_seq ?_
    refine c_cut _ _ hf ?_
    generalize (ok1 && decide (0 ≤ z)) = ok2 at *
    have hlen := h3.1
    repeat' (first | refine i_s rfl ?_ | refine sw ?_ | fail)
    refine i_sl rfl rfl (by omega) (by simp; omega) (.inr (by simp [i64V, V.cells])) ?_
    repeat' (first | refine i_len rfl ?_ | refine i_s rfl ?_ | refine sw ?_ | fail)
    refine c_for r.length (fun k => [(0, .bptr 833288 0), (4, .bptr 9472258 0), (7, .bptr 9472450 0), (38, .sl .p (r.map i64V)), (39, .int .i64 r.length), (40, .int .i64 k)])
     (fun k => (9472258, .box (.agg [.int .i64 0, .sl .nil []])) :: (9472450, .box (.agg [.int .i64 z, .sl (.own 9476545) (((r.take k).map (argV d.objects L)).map i64V)])) :: (9476545, .vec ((r.take k).map (argV d.objects L)).length) :: rdS L d (ok2 && (r.take k).all (argG d.objects L))) (fun _ => True) trivial ⟨⟨rfl, rfl, rfl, rfl, ?_, rfl, trivial⟩, ⟨rfl, rfl, rfl, ?_, rfl, rfl, rfl, rfl, trivial⟩, rfl⟩ fun k hk _ => ?_
    · show V.int .i64 _ = _
      congr 1
    · show _ = Blk.box (rdRow L d (ok2 && true))
      rw [Bool.and_true]; rfl
    have h1 : ((r.take k).map (argV d.objects L)).length = k := by simp; omega
    by_cases hlt : k < r.length
    · obtain ⟨x, hx⟩ := get_some hlt
      have hC := ct_arg L hL d hd.o (ok2 && (r.take k).all (argG d.objects L)) x (h3.2 x (mem_get hx)) G H
      have e1 := all_take (argG d.objects L) ok2 hx
      have e2 := map_take (argV d.objects L) hx
      repeat' (first | refine i_s rfl ?_ | refine sw ?_ | refine jd rfl rfl ?_ | (refine sp ?_ ?_ <;> try intro h) | fail)
      all_goals first
       | (exfalso; clear hC; simp at *; done)
       | (exfalso; clear hC; simp at *; omega)
       | skip
      all_goals
       refine i_cs rfl rfl rfl rfl (hC _) ?_
       rintro _ _ g ⟨⟨rfl, rfl⟩, rfl⟩
       repeat' refine i_s rfl ?_
       refine i_appM (c := argV d.objects L x) rfl rfl rfl rfl rfl (by omega) (by omega) ?_
       repeat' (first | refine i_s rfl ?_ | refine sw ?_ | refine ja rfl rfl ?_ | refine i_stb rfl ?_)
       refine e_for hlt trivial ⟨⟨rfl, rfl, rfl, rfl, rfl, rfl, trivial⟩, ⟨rfl, ?_, ?_, ?_, rfl, rfl, rfl, rfl, trivial⟩, rfl⟩
       · rw [e2]; rfl
       · rw [e2]; simp; rfl
       · rw [e1]; rfl
    have hge : k = r.length := by omega
    subst hge
    rw [List.take_length]
    repeat' (first | refine i_s rfl ?_ | refine sw ?_ | refine c_cond rfl (fun h => ?_) (fun h => ?_))
    all_goals first
     | (exfalso; simp at *; done)
     | (exfalso; simp at *; omega)
     | skip
    refine c_fzb rfl rfl rfl rfl ?_
    repeat' (first | refine i_s rfl ?_ | refine sw ?_ | refine i_stb rfl ?_)
    exact e_ret ⟨rfl, _, rfl, rfl, rfl, ⟨rfl, restr_stOf _ _⟩, rfl⟩
def c_domain_reader_atomList : Cmd :=
 (qS [qq 4 (.mov (.c (.sl .nil [])))]
 (qS [qq 5 (.newVec 7488322)]
 (.seq (qS [qm 8 1, qn 9 8, qc 10 0]
 (.block 0 (.loop (qS [qu 11 .lss [] 10 9]
 (qT (.cond (.t 11) .skip (.exit 0))
 (qT (.block 1 (qS [qi 12 1 8 10, ql 13 1 12, qm 7 13]
 (.ops [qm 14 5, qm 15 0, qm 16 7, qq 17 (.call (.s [833288, 844866, 844930, 844994, 845063]) (.c (.fn 148 [])) [.t 15, .t 16]), qq 18 (.bsl 2 [.t 17]), qq 19 (.append 2 32 49 (.t 14) (.t 18)), qm 5 19])))
 (.ops [qv 20 .add [] 10 1, qm 10 20]))))))) (qT (.frz 5)
 (.seq (.ops [qm 21 5, qm 4 21]) .ret)))))
def r_domain_reader_atomList : List RVar := [.tmp 4]
def n_domain_reader_atomList : Nat := 22
theorem k_domain_reader_atomList : chkFn PG 117 n_domain_reader_atomList r_domain_reader_atomList c_domain_reader_atomList = true := by kernel_rfl
theorem ct_atomList (L : List Sx) (hL : RdOk L) (d : Dom) (hd : RdD d) (ok : Bool) (l : List Int) (hl : Ixs L l) : Rc 117 [.sl .p (l.map i64V)] L d ok (.sl .p ((l.map (atmV d L)).map atV)) (ok && l.all (atmG d L)) := fun G H g => by
 have hlen := hl.1
 refine CT.step _ mixed k_domain_reader_atomList (fun nm hnm => stOf_mem _ nm hnm) fun hM => ?_
 repeat (first | refine i_len rfl ?_ | refine i_s rfl ?_ | refine sw ?_ | refine i_nv rfl ?_)
 refine c_for l.length (fun k => [(0, .bptr 833288 0), (5, .sl (.own 7488322) (((l.take k).map (atmV d L)).map atV)), (8, .sl .p (l.map i64V)), (9, .int .i64 l.length), (10, .int .i64 k)])
  (fun k => (7488322, .vec ((l.take k).map (atmV d L)).length) :: rdS L d (ok && (l.take k).all (atmG d L))) (fun _ => True) trivial ⟨⟨rfl, rfl, rfl, rfl, rfl, trivial⟩, ⟨rfl, ?_, rfl, rfl, rfl, rfl, trivial⟩, rfl⟩ fun k hk _ => ?_
 · show _ = Blk.box (rdRow L d (ok && true))
   rw [Bool.and_true]; rfl
 have h1 : ((l.take k).map (atmV d L)).length = k := by simp; omega
 by_cases hlt : k < l.length
 · obtain ⟨c, hc⟩ := get_some hlt
   have hC := ct_ratom L hL d hd (ok && (l.take k).all (atmG d L)) c (hl.2 c (mem_get hc)) G H
   have e1 := all_take (atmG d L) ok hc
   have e2 := map_take (atmV d L) hc
   repeat' (first | refine i_s rfl ?_ | refine sw ?_ | refine jd rfl rfl ?_ | refine c_cond rfl (fun h => ?_) (fun h => ?_))
   all_goals first
    | (exfalso; clear hC; simp at *; done)
    | (exfalso; clear hC; simp at *; omega)
    | skip
   refine i_cs rfl rfl rfl rfl (hC _) ?_
   rintro _ _ g ⟨⟨rfl, rfl⟩, rfl⟩
   clear hC
   repeat' refine i_s rfl ?_
   refine i_appM (c := atmV d L c) rfl rfl rfl rfl rfl (by omega) (by omega) ?_
   repeat' (first | refine i_s rfl ?_ | refine sw ?_ | refine ja rfl rfl ?_ | fail)
   refine e_for hlt trivial ⟨⟨rfl, ?_, rfl, rfl, rfl, trivial⟩, ⟨?_, ?_, rfl, rfl, rfl, rfl, trivial⟩, rfl⟩
   · rw [e2]; rfl
   · rw [e2]; simp; rfl
   · rw [e1]; rfl
 have hge : k = l.length := by omega
 subst hge
 rw [List.take_length]
 repeat' (first | refine i_s rfl ?_ | refine sw ?_ | refine c_cond rfl (fun h => ?_) (fun h => ?_))
 all_goals first
  | (exfalso; simp at *; done)
  | (exfalso; simp at *; omega)
  | skip
 refine c_frzv rfl rfl ?_
 repeat' (first | refine i_s rfl ?_ | refine sw ?_ | fail)
 exact e_ret ⟨rfl, _, rfl, rfl, rfl, ⟨rfl, restr_stOf _ _⟩, rfl⟩
def c_domain_reader_literalList : Cmd :=
 (qS [qq 4 (.mov (.c (.sl .nil [])))]
 (qS [qq 5 (.newVec 7552323)]
 (.seq (qS [qm 9 1, qn 10 9, qc 11 0]
 (.block 0 (.loop (qS [qu 12 .lss [] 11 10]
 (qT (.cond (.t 12) .skip (.exit 0))
 (qT (.block 1 (qS [qi 13 1 9 11, ql 14 1 13, qm 7 14]
 (qS [qm 15 0, qm 16 7, qq 17 (.call (.s [833288, 844866, 844930, 844994, 845063]) (.c (.fn 114 [])) [.t 15, .t 16]), qm 8 17]
 (qS [qm 18 8, qn 19 18, qv 20 .eql [.i] 19 2, qm 21 20, qg 22 21 true (.mov (.t 0)), qg 23 21 true (.nilck (.t 22)), qg 24 21 true (.faddr 0 (.t 23)), qg 25 21 true (.load false 1 (.t 24)), qg 26 21 true (.mov (.t 8)), qg 27 21 true (.iaddr 1 (.t 26) (.c (.int .i64 0))), qg 28 21 true (.load false 1 (.t 27)), qg 29 21 true (.iaddr 2 (.t 25) (.t 28)), qg 30 21 true (.faddr 0 (.t 29)), qg 31 21 true (.load false 1 (.t 30)), qg 32 21 true (.bin .eql false [.s] (.t 31) (.c (.str [110, 111, 116]))), qq 33 (.pick (.t 21) (.t 32) (.c (.bool false)))]
 (.cond (.t 33) (.ops [qm 34 5, qm 35 0, qm 36 8, qq 37 (.iaddr 1 (.t 36) (.c (.int .i64 1))), ql 38 1 37, qq 39 (.call (.s [833288, 844866, 844930, 844994, 845063]) (.c (.fn 148 [])) [.t 35, .t 38]), qq 40 (.build [.bool false, .int .i64 0, .sl .nil []] [(0 , 1 , .c (.bool true)), (1 , 2 , .t 39)]), qq 41 (.bsl 3 [.t 40]), qq 42 (.append 3 40 129 (.t 34) (.t 41)), qm 5 42]) (.ops [qm 43 5, qm 44 0, qm 45 7, qq 46 (.call (.s [833288, 844866, 844930, 844994, 845063]) (.c (.fn 148 [])) [.t 44, .t 45]), qq 47 (.build [.bool false, .int .i64 0, .sl .nil []] [(1 , 2 , .t 46)]), qq 48 (.bsl 3 [.t 47]), qq 49 (.append 3 40 129 (.t 43) (.t 48)), qm 5 49]))))))
 (.ops [qv 50 .add [] 11 1, qm 11 50]))))))) (qT (.frz 5)
 (.seq (.ops [qm 51 5, qm 4 51]) .ret)))))
def r_domain_reader_literalList : List RVar := [.tmp 4]
def n_domain_reader_literalList : Nat := 52
theorem k_domain_reader_literalList : chkFn PG 118 n_domain_reader_literalList r_domain_reader_literalList c_domain_reader_literalList = true := by kernel_rfl
theorem ct_literalList (L : List Sx) (hL : RdOk L) (d : Dom) (hd : RdD d) (ok : Bool) (l : List Int) (hl : Ixs L l) : Rc 118 [.sl .p (l.map i64V)] L d ok (.sl .p ((l.map (lltV d L)).map litV)) (ok && l.all (lltG d L)) := fun G H g => by
 have hlen := hl.1
 refine CT.step _ mixed k_domain_reader_literalList (fun nm hnm => stOf_mem _ nm hnm) fun hM => ?_
 repeat (first | refine i_len rfl ?_ | refine i_s rfl ?_ | refine sw ?_ | refine i_nv rfl ?_)
 refine c_for l.length (fun k => [(0, .bptr 833288 0), (5, .sl (.own 7552323) (((l.take k).map (lltV d L)).map litV)), (9, .sl .p (l.map i64V)), (10, .int .i64 l.length), (11, .int .i64 k)])
  (fun k => (7552323, .vec ((l.take k).map (lltV d L)).length) :: rdS L d (ok && (l.take k).all (lltG d L))) (fun _ => True) trivial ⟨⟨rfl, rfl, rfl, rfl, rfl, trivial⟩, ⟨rfl, ?_, rfl, rfl, rfl, rfl, trivial⟩, rfl⟩ fun k hk _ => ?_
 · show _ = Blk.box (rdRow L d (ok && true))
   rw [Bool.and_true]; rfl
 have h1 : ((l.take k).map (lltV d L)).length = k := by simp; omega
 by_cases hlt : k < l.length
 · obtain ⟨x, hx⟩ := get_some hlt
   have hix := hl.2 x (mem_get hx)
   have hC := ct_rchildren L d (ok && (l.take k).all (lltG d L)) x hix G H g
   have e1 := all_take (lltG d L) ok hx
   have e2 := map_take (lltV d L) hx
   have hch := ch_ix hL hix
   generalize (ok && (l.take k).all (lltG d L)) = okk at *
   repeat' (first | refine i_s rfl ?_ | refine sw ?_ | refine jd rfl rfl ?_ | refine c_cond rfl (fun h => ?_) (fun h => ?_))
   all_goals first
    | (exfalso; clear hC; simp at *; done)
    | (exfalso; clear hC; simp at *; omega)
    | skip
   refine i_cs rfl rfl rfl rfl hC ?_
   rintro _ _ g ⟨⟨rfl, rfl⟩, rfl⟩
   clear hC
   by_cases h2 : (rCh L x).length = 2
   · obtain ⟨a, b, hab⟩ : ∃ a b, rCh L x = [a, b] := by
      match rCh L x, h2 with
      | [a, b], _ => exact ⟨a, b, rfl⟩
     rw [hab] at hch h2 ⊢
     have ha := hch.2 a (by simp)
     have hb := hch.2 b (by simp)
     have hna := nd_get ha
     obtain ⟨ha0, ha1⟩ := ha
     have hx0 : [a, b][(0 : Int).toNat]? = some a := rfl
     have hx1 : [a, b][(1 : Int).toNat]? = some b := rfl
     by_cases hn : rSym L a = notS
     · have e3 : notX L x = some b := by unfold notX; rw [hab]; simp [hn]
       have e4 : lltV d L x = ⟨true, atmV d L b⟩ := by unfold lltV; rw [e3]
       have e5 : (okk && lltG d L x) = ((okk && chG L x) && atmG d L b) := by unfold lltG; rw [e3, Bool.and_assoc]
       have hA := ct_ratom L hL d hd (okk && chG L x) b hb G H g
       have hn : (nd L a).sym = notS := hn
       rw [e5] at e1
       rw [e4] at e2
       clear e3 e4 e5
       repeat' (first | refine i_len rfl ?_ | refine i_s rfl ?_ | refine sw ?_ | refine i_gt rfl ?_ | refine jd rfl rfl ?_ | refine c_cond rfl (fun h => ?_) (fun h => ?_))
       all_goals first
        | (rw [hn] at h; exact absurd h (by decide))
        | (exfalso; clear hA; simp at *; done)
        | skip
       refine i_cs rfl rfl rfl rfl hA ?_
       rintro _ _ g ⟨⟨rfl, rfl⟩, rfl⟩
       clear hA
       repeat' refine i_s rfl ?_
       refine i_appM (c := (⟨true, atmV d L b⟩ : Lit)) rfl rfl rfl rfl rfl (by omega) (by omega) ?_
       repeat' (first | refine i_s rfl ?_ | refine sw ?_ | refine ja rfl rfl ?_ | fail)
       refine e_for hlt trivial ⟨⟨rfl, ?_, rfl, rfl, rfl, trivial⟩, ⟨?_, ?_, rfl, rfl, rfl, rfl, trivial⟩, rfl⟩
       · rw [e2]; rfl
       · rw [e2]; simp; rfl
       · rw [e1]; rfl
     · have e3 : notX L x = none := by unfold notX; rw [hab]; simp [hn]
       have e4 : lltV d L x = ⟨false, atmV d L x⟩ := by unfold lltV; rw [e3]
       have e5 : (okk && lltG d L x) = ((okk && chG L x) && atmG d L x) := by unfold lltG; rw [e3, Bool.and_assoc]
       have hA := ct_ratom L hL d hd (okk && chG L x) x hix G H g
       have hn : (nd L a).sym ≠ notS := hn
       rw [e5] at e1
       rw [e4] at e2
       clear e3 e4 e5
       repeat' (first | refine i_len rfl ?_ | refine i_s rfl ?_ | refine sw ?_ | refine i_gt rfl ?_ | refine jd rfl rfl ?_ | refine c_cond rfl (fun h => ?_) (fun h => ?_))
       all_goals first
        | (exact absurd (by simpa [notS] using h) hn)
        | (exfalso; clear hA; simp at *; done)
        | skip
       refine i_cs rfl rfl rfl rfl hA ?_
       rintro _ _ g ⟨⟨rfl, rfl⟩, rfl⟩
       clear hA
       repeat' refine i_s rfl ?_
       refine i_appM (c := (⟨false, atmV d L x⟩ : Lit)) rfl rfl rfl rfl rfl (by omega) (by omega) ?_
       repeat' (first | refine i_s rfl ?_ | refine sw ?_ | refine ja rfl rfl ?_ | fail)
       refine e_for hlt trivial ⟨⟨rfl, ?_, rfl, rfl, rfl, trivial⟩, ⟨?_, ?_, rfl, rfl, rfl, rfl, trivial⟩, rfl⟩
       · rw [e2]; rfl
       · rw [e2]; simp; rfl
       · rw [e1]; rfl
   · have e3 : notX L x = none := by
      unfold notX
      split
      · rename_i a b hab; rw [hab] at h2; simp at h2
      · rfl
     have e4 : lltV d L x = ⟨false, atmV d L x⟩ := by unfold lltV; rw [e3]
     have e5 : (okk && lltG d L x) = ((okk && chG L x) && atmG d L x) := by unfold lltG; rw [e3, Bool.and_assoc]
     have hA := ct_ratom L hL d hd (okk && chG L x) x hix G H g
     rw [e5] at e1
     rw [e4] at e2
     clear e3 e4 e5
     repeat' (first | refine i_len rfl ?_ | refine i_s rfl ?_ | refine sw ?_ | refine i_gt rfl ?_ | refine i_gf rfl ?_ | refine c_f rfl ?_ | refine i_g rfl (fun h => ?_) (fun h => ?_))
     all_goals first
      | (exact absurd (by simpa using h) h2)
      | (exfalso; clear hA; simp at *; omega)
      | skip
     refine i_cs rfl rfl rfl rfl hA ?_
     rintro _ _ g ⟨⟨rfl, rfl⟩, rfl⟩
     clear hA
     repeat' refine i_s rfl ?_
     refine i_appM (c := (⟨false, atmV d L x⟩ : Lit)) rfl rfl rfl rfl rfl (by omega) (by omega) ?_
     repeat' (first | refine i_s rfl ?_ | refine sw ?_ | refine ja rfl rfl ?_ | fail)
     refine e_for hlt trivial ⟨⟨rfl, ?_, rfl, rfl, rfl, trivial⟩, ⟨?_, ?_, rfl, rfl, rfl, rfl, trivial⟩, rfl⟩
     · rw [e2]; rfl
     · rw [e2]; simp; rfl
     · rw [e1]; rfl
 have hge : k = l.length := by omega
 subst hge
 rw [List.take_length]
 repeat' (first | refine i_s rfl ?_ | refine sw ?_ | refine c_cond rfl (fun h => ?_) (fun h => ?_))
 all_goals first
  | (exfalso; simp at *; done)
  | (exfalso; simp at *; omega)
  | skip
 refine c_frzv rfl rfl ?_
 repeat' (first | refine i_s rfl ?_ | refine sw ?_ | fail)
 exact e_ret ⟨rfl, _, rfl, rfl, rfl, ⟨rfl, restr_stOf _ _⟩, rfl⟩
def c_domain_reader_schema : Cmd :=
 (qS [qq 4 (.alloc 7424263 (.agg [.str [], .sl .nil [], .sl .nil [], .sl .nil [], .sl .nil [], .sl .nil [], .int .i64 0]))]
 (qS [qm 10 0, qm 11 1, qq 12 (.call (.s [833288, 844866, 844930, 844994, 845063]) (.c (.fn 111 [])) [.t 10, .t 11, .c (.int .i64 8)]), qm 5 12]
 (qT (qS [qm 13 0, qq 14 (.nilck (.t 13)), qf 15 7 14, ql 16 1 15, qq 17 (.not (.t 16)), qm 18 17, qg 19 18 false (.mov (.t 0)), qg 20 18 false (.mov (.t 5)), qg 21 18 false (.iaddr 1 (.t 20) (.c (.int .i64 0))), qg 22 18 false (.load false 1 (.t 21)), qg 23 18 false (.call (.s [833288, 844866, 844930, 844994, 845063]) (.c (.fn 113 [])) [.t 19, .t 22]), qg 24 18 false (.bin .neq false [.s] (.t 23) (.c (.str [97, 99, 116, 105, 111, 110]))), qq 25 (.pick (.t 18) (.c (.bool true)) (.t 24))]
 (.cond (.t 25) (qS [qm 26 0, qq 27 (.call (.s [833288, 844866, 844930, 844994, 845063]) (.c (.fn 110 [])) [.t 26])]
 (.seq (.ops [qq 28 (.build [.str [], .sl .p [], .sl .p [], .sl .p [], .sl .p [], .sl .p [], .int .i64 0] []), qs 7 4 28]) .ret)) .skip))
 (qT (.opsT (.node 4 8 (.node 4 13 (.node 10 13 (.node 11 13 (.leaf [0, 1, 2, 3, 4, 5, 6, 7, 8, 9, 10, 11, 12, 13, 14]) (.leaf [0, 1, 2, 3, 4, 5, 6, 7, 8, 9, 10, 13, 11, 12, 14])) (.leaf [0, 1, 2, 3, 4, 5, 6, 7, 8, 9, 13, 10, 11, 12, 14])) (.leaf [0, 1, 2, 3, 5, 6, 7, 13, 4, 8, 9, 10, 11, 12, 14])) (.node 4 9 (.node 4 13 (.node 10 13 (.node 11 13 (.leaf [0, 1, 2, 3, 5, 6, 7, 8, 4, 9, 10, 11, 12, 13, 14]) (.leaf [0, 1, 2, 3, 5, 6, 7, 8, 4, 9, 10, 13, 11, 12, 14])) (.leaf [0, 1, 2, 3, 5, 6, 7, 8, 4, 9, 13, 10, 11, 12, 14])) (.leaf [0, 1, 2, 3, 5, 6, 7, 8, 13, 4, 9, 10, 11, 12, 14])) (.node 4 13 (.node 10 13 (.node 11 13 (.leaf [0, 1, 2, 3, 5, 6, 7, 8, 9, 4, 10, 11, 12, 13, 14]) (.leaf [0, 1, 2, 3, 5, 6, 7, 8, 9, 4, 10, 13, 11, 12, 14])) (.leaf [0, 1, 2, 3, 5, 6, 7, 8, 9, 4, 13, 10, 11, 12, 14])) (.leaf [0, 1, 2, 3, 5, 6, 7, 8, 9, 13, 4, 10, 11, 12, 14])))) [qm 29 0, qm 30 5, qq 31 (.iaddr 1 (.t 30) (.c (.int .i64 1))), ql 32 1 31, qq 33 (.call (.s [833288, 844866, 844930, 844994, 845063]) (.c (.fn 113 [])) [.t 29, .t 32]), qm 34 0, qm 35 0, qm 36 5, qq 37 (.iaddr 1 (.t 36) (.c (.int .i64 2))), ql 38 1 37, qq 39 (.call (.s [833288, 844866, 844930, 844994, 845063]) (.c (.fn 114 [])) [.t 35, .t 38]), qq 40 (.call (.s [833288, 844866, 844930, 844994, 845063]) (.c (.fn 115 [])) [.t 34, .t 39]), qq 41 (.build [.str [], .sl .nil [], .sl .nil [], .sl .nil [], .sl .nil [], .sl .nil [], .int .i64 0] [(0 , 1 , .t 33), (1 , 1 , .t 40)]), qq 6 (.alloc 7424391 (.agg [.str [], .sl .nil [], .sl .nil [], .sl .nil [], .sl .nil [], .sl .nil [], .int .i64 0])), qs 7 6 41])
 (qT (.seq (.ops [qm 42 0, qm 43 5, qq 44 (.iaddr 1 (.t 43) (.c (.int .i64 3))), ql 45 1 44, qq 46 (.call (.s [833288, 844866, 844930, 844994, 845063]) (.c (.fn 109 [])) [.t 42, .t 45, .c (.str [100, 105, 102, 102, 101, 114, 101, 110, 116])]), qn 47 46, qc 48 0]) (.nvb 6 2 7427970 (.cut (.block 0 (.loop (qS [qu 49 .lss [] 48 47]
 (qT (.cond (.t 49) .skip (.exit 0))
 (qT (.block 1 (qS [qi 50 1 46 48, ql 51 1 50, qm 8 51]
 (qS [qm 52 0, qm 53 8, qq 54 (.call (.s [833288, 844866, 844930, 844994, 845063]) (.c (.fn 111 [])) [.t 52, .t 53, .c (.int .i64 2)]), qm 9 54]
 (.opsT (.node 0 7 (.node 1 7 (.node 7 12 (.node 8 12 (.leaf [0, 1, 2, 3, 4, 5, 6, 7, 8, 9, 10, 11, 12, 13, 14, 15, 16, 17, 18, 19, 20]) (.node 8 13 (.leaf [0, 1, 2, 3, 4, 5, 6, 7, 9, 10, 11, 12, 8, 13, 14, 15, 16, 17, 18, 19, 20]) (.leaf [0, 1, 2, 3, 4, 5, 6, 7, 9, 10, 11, 12, 13, 8, 14, 15, 16, 17, 18, 19, 20]))) (.node 7 13 (.node 8 13 (.leaf [0, 1, 2, 3, 4, 5, 6, 9, 10, 11, 12, 7, 8, 13, 14, 15, 16, 17, 18, 19, 20]) (.leaf [0, 1, 2, 3, 4, 5, 6, 9, 10, 11, 12, 7, 13, 8, 14, 15, 16, 17, 18, 19, 20])) (.leaf [0, 1, 2, 3, 4, 5, 6, 9, 10, 11, 12, 13, 7, 8, 14, 15, 16, 17, 18, 19, 20]))) (.node 7 12 (.node 1 8 (.node 8 12 (.leaf [0, 2, 3, 4, 5, 6, 7, 1, 8, 9, 10, 11, 12, 13, 14, 15, 16, 17, 18, 19, 20]) (.node 8 13 (.leaf [0, 2, 3, 4, 5, 6, 7, 1, 9, 10, 11, 12, 8, 13, 14, 15, 16, 17, 18, 19, 20]) (.leaf [0, 2, 3, 4, 5, 6, 7, 1, 9, 10, 11, 12, 13, 8, 14, 15, 16, 17, 18, 19, 20]))) (.node 8 12 (.node 1 14 (.leaf [0, 2, 3, 4, 5, 6, 7, 8, 1, 9, 10, 11, 12, 13, 14, 15, 16, 17, 18, 19, 20]) (.node 1 15 (.leaf [0, 2, 3, 4, 5, 6, 7, 8, 9, 10, 11, 12, 13, 14, 1, 15, 16, 17, 18, 19, 20]) (.leaf [0, 2, 3, 4, 5, 6, 7, 8, 9, 10, 11, 12, 13, 14, 15, 1, 16, 17, 18, 19, 20]))) (.node 8 13 (.node 1 14 (.leaf [0, 2, 3, 4, 5, 6, 7, 9, 10, 11, 12, 8, 1, 13, 14, 15, 16, 17, 18, 19, 20]) (.node 1 15 (.leaf [0, 2, 3, 4, 5, 6, 7, 9, 10, 11, 12, 8, 13, 14, 1, 15, 16, 17, 18, 19, 20]) (.leaf [0, 2, 3, 4, 5, 6, 7, 9, 10, 11, 12, 8, 13, 14, 15, 1, 16, 17, 18, 19, 20]))) (.node 1 14 (.leaf [0, 2, 3, 4, 5, 6, 7, 9, 10, 11, 12, 13, 8, 1, 14, 15, 16, 17, 18, 19, 20]) (.node 1 15 (.leaf [0, 2, 3, 4, 5, 6, 7, 9, 10, 11, 12, 13, 8, 14, 1, 15, 16, 17, 18, 19, 20]) (.leaf [0, 2, 3, 4, 5, 6, 7, 9, 10, 11, 12, 13, 8, 14, 15, 1, 16, 17, 18, 19, 20])))))) (.node 7 13 (.node 1 8 (.node 8 13 (.leaf [0, 2, 3, 4, 5, 6, 9, 10, 11, 12, 7, 1, 8, 13, 14, 15, 16, 17, 18, 19, 20]) (.leaf [0, 2, 3, 4, 5, 6, 9, 10, 11, 12, 7, 1, 13, 8, 14, 15, 16, 17, 18, 19, 20])) (.node 8 13 (.node 1 14 (.leaf [0, 2, 3, 4, 5, 6, 9, 10, 11, 12, 7, 8, 1, 13, 14, 15, 16, 17, 18, 19, 20]) (.node 1 15 (.leaf [0, 2, 3, 4, 5, 6, 9, 10, 11, 12, 7, 8, 13, 14, 1, 15, 16, 17, 18, 19, 20]) (.leaf [0, 2, 3, 4, 5, 6, 9, 10, 11, 12, 7, 8, 13, 14, 15, 1, 16, 17, 18, 19, 20]))) (.node 1 14 (.leaf [0, 2, 3, 4, 5, 6, 9, 10, 11, 12, 7, 13, 8, 1, 14, 15, 16, 17, 18, 19, 20]) (.node 1 15 (.leaf [0, 2, 3, 4, 5, 6, 9, 10, 11, 12, 7, 13, 8, 14, 1, 15, 16, 17, 18, 19, 20]) (.leaf [0, 2, 3, 4, 5, 6, 9, 10, 11, 12, 7, 13, 8, 14, 15, 1, 16, 17, 18, 19, 20]))))) (.node 1 8 (.leaf [0, 2, 3, 4, 5, 6, 9, 10, 11, 12, 13, 7, 1, 8, 14, 15, 16, 17, 18, 19, 20]) (.node 1 14 (.leaf [0, 2, 3, 4, 5, 6, 9, 10, 11, 12, 13, 7, 8, 1, 14, 15, 16, 17, 18, 19, 20]) (.node 1 15 (.leaf [0, 2, 3, 4, 5, 6, 9, 10, 11, 12, 13, 7, 8, 14, 1, 15, 16, 17, 18, 19, 20]) (.leaf [0, 2, 3, 4, 5, 6, 9, 10, 11, 12, 13, 7, 8, 14, 15, 1, 16, 17, 18, 19, 20]))))))) (.node 7 12 (.node 0 8 (.node 1 8 (.node 8 12 (.leaf [2, 3, 4, 5, 6, 7, 0, 1, 8, 9, 10, 11, 12, 13, 14, 15, 16, 17, 18, 19, 20]) (.node 8 13 (.leaf [2, 3, 4, 5, 6, 7, 0, 1, 9, 10, 11, 12, 8, 13, 14, 15, 16, 17, 18, 19, 20]) (.leaf [2, 3, 4, 5, 6, 7, 0, 1, 9, 10, 11, 12, 13, 8, 14, 15, 16, 17, 18, 19, 20]))) (.node 8 12 (.node 1 14 (.leaf [2, 3, 4, 5, 6, 7, 0, 8, 1, 9, 10, 11, 12, 13, 14, 15, 16, 17, 18, 19, 20]) (.node 1 15 (.leaf [2, 3, 4, 5, 6, 7, 0, 8, 9, 10, 11, 12, 13, 14, 1, 15, 16, 17, 18, 19, 20]) (.leaf [2, 3, 4, 5, 6, 7, 0, 8, 9, 10, 11, 12, 13, 14, 15, 1, 16, 17, 18, 19, 20]))) (.node 8 13 (.node 1 14 (.leaf [2, 3, 4, 5, 6, 7, 0, 9, 10, 11, 12, 8, 1, 13, 14, 15, 16, 17, 18, 19, 20]) (.node 1 15 (.leaf [2, 3, 4, 5, 6, 7, 0, 9, 10, 11, 12, 8, 13, 14, 1, 15, 16, 17, 18, 19, 20]) (.leaf [2, 3, 4, 5, 6, 7, 0, 9, 10, 11, 12, 8, 13, 14, 15, 1, 16, 17, 18, 19, 20]))) (.node 1 14 (.leaf [2, 3, 4, 5, 6, 7, 0, 9, 10, 11, 12, 13, 8, 1, 14, 15, 16, 17, 18, 19, 20]) (.node 1 15 (.leaf [2, 3, 4, 5, 6, 7, 0, 9, 10, 11, 12, 13, 8, 14, 1, 15, 16, 17, 18, 19, 20]) (.leaf [2, 3, 4, 5, 6, 7, 0, 9, 10, 11, 12, 13, 8, 14, 15, 1, 16, 17, 18, 19, 20])))))) (.node 8 12 (.node 0 14 (.node 1 14 (.leaf [2, 3, 4, 5, 6, 7, 8, 0, 1, 9, 10, 11, 12, 13, 14, 15, 16, 17, 18, 19, 20]) (.node 1 15 (.leaf [2, 3, 4, 5, 6, 7, 8, 0, 9, 10, 11, 12, 13, 14, 1, 15, 16, 17, 18, 19, 20]) (.leaf [2, 3, 4, 5, 6, 7, 8, 0, 9, 10, 11, 12, 13, 14, 15, 1, 16, 17, 18, 19, 20]))) (.node 0 15 (.node 1 15 (.leaf [2, 3, 4, 5, 6, 7, 8, 9, 10, 11, 12, 13, 14, 0, 1, 15, 16, 17, 18, 19, 20]) (.leaf [2, 3, 4, 5, 6, 7, 8, 9, 10, 11, 12, 13, 14, 0, 15, 1, 16, 17, 18, 19, 20])) (.leaf [2, 3, 4, 5, 6, 7, 8, 9, 10, 11, 12, 13, 14, 15, 0, 1, 16, 17, 18, 19, 20]))) (.node 8 13 (.node 0 14 (.node 1 14 (.leaf [2, 3, 4, 5, 6, 7, 9, 10, 11, 12, 8, 0, 1, 13, 14, 15, 16, 17, 18, 19, 20]) (.node 1 15 (.leaf [2, 3, 4, 5, 6, 7, 9, 10, 11, 12, 8, 0, 13, 14, 1, 15, 16, 17, 18, 19, 20]) (.leaf [2, 3, 4, 5, 6, 7, 9, 10, 11, 12, 8, 0, 13, 14, 15, 1, 16, 17, 18, 19, 20]))) (.node 0 15 (.node 1 15 (.leaf [2, 3, 4, 5, 6, 7, 9, 10, 11, 12, 8, 13, 14, 0, 1, 15, 16, 17, 18, 19, 20]) (.leaf [2, 3, 4, 5, 6, 7, 9, 10, 11, 12, 8, 13, 14, 0, 15, 1, 16, 17, 18, 19, 20])) (.leaf [2, 3, 4, 5, 6, 7, 9, 10, 11, 12, 8, 13, 14, 15, 0, 1, 16, 17, 18, 19, 20]))) (.node 0 14 (.node 1 14 (.leaf [2, 3, 4, 5, 6, 7, 9, 10, 11, 12, 13, 8, 0, 1, 14, 15, 16, 17, 18, 19, 20]) (.node 1 15 (.leaf [2, 3, 4, 5, 6, 7, 9, 10, 11, 12, 13, 8, 0, 14, 1, 15, 16, 17, 18, 19, 20]) (.leaf [2, 3, 4, 5, 6, 7, 9, 10, 11, 12, 13, 8, 0, 14, 15, 1, 16, 17, 18, 19, 20]))) (.node 0 15 (.node 1 15 (.leaf [2, 3, 4, 5, 6, 7, 9, 10, 11, 12, 13, 8, 14, 0, 1, 15, 16, 17, 18, 19, 20]) (.leaf [2, 3, 4, 5, 6, 7, 9, 10, 11, 12, 13, 8, 14, 0, 15, 1, 16, 17, 18, 19, 20])) (.leaf [2, 3, 4, 5, 6, 7, 9, 10, 11, 12, 13, 8, 14, 15, 0, 1, 16, 17, 18, 19, 20])))))) (.node 7 13 (.node 0 8 (.node 1 8 (.node 8 13 (.leaf [2, 3, 4, 5, 6, 9, 10, 11, 12, 7, 0, 1, 8, 13, 14, 15, 16, 17, 18, 19, 20]) (.leaf [2, 3, 4, 5, 6, 9, 10, 11, 12, 7, 0, 1, 13, 8, 14, 15, 16, 17, 18, 19, 20])) (.node 8 13 (.node 1 14 (.leaf [2, 3, 4, 5, 6, 9, 10, 11, 12, 7, 0, 8, 1, 13, 14, 15, 16, 17, 18, 19, 20]) (.node 1 15 (.leaf [2, 3, 4, 5, 6, 9, 10, 11, 12, 7, 0, 8, 13, 14, 1, 15, 16, 17, 18, 19, 20]) (.leaf [2, 3, 4, 5, 6, 9, 10, 11, 12, 7, 0, 8, 13, 14, 15, 1, 16, 17, 18, 19, 20]))) (.node 1 14 (.leaf [2, 3, 4, 5, 6, 9, 10, 11, 12, 7, 0, 13, 8, 1, 14, 15, 16, 17, 18, 19, 20]) (.node 1 15 (.leaf [2, 3, 4, 5, 6, 9, 10, 11, 12, 7, 0, 13, 8, 14, 1, 15, 16, 17, 18, 19, 20]) (.leaf [2, 3, 4, 5, 6, 9, 10, 11, 12, 7, 0, 13, 8, 14, 15, 1, 16, 17, 18, 19, 20]))))) (.node 8 13 (.node 0 14 (.node 1 14 (.leaf [2, 3, 4, 5, 6, 9, 10, 11, 12, 7, 8, 0, 1, 13, 14, 15, 16, 17, 18, 19, 20]) (.node 1 15 (.leaf [2, 3, 4, 5, 6, 9, 10, 11, 12, 7, 8, 0, 13, 14, 1, 15, 16, 17, 18, 19, 20]) (.leaf [2, 3, 4, 5, 6, 9, 10, 11, 12, 7, 8, 0, 13, 14, 15, 1, 16, 17, 18, 19, 20]))) (.node 0 15 (.node 1 15 (.leaf [2, 3, 4, 5, 6, 9, 10, 11, 12, 7, 8, 13, 14, 0, 1, 15, 16, 17, 18, 19, 20]) (.leaf [2, 3, 4, 5, 6, 9, 10, 11, 12, 7, 8, 13, 14, 0, 15, 1, 16, 17, 18, 19, 20])) (.leaf [2, 3, 4, 5, 6, 9, 10, 11, 12, 7, 8, 13, 14, 15, 0, 1, 16, 17, 18, 19, 20]))) (.node 0 14 (.node 1 14 (.leaf [2, 3, 4, 5, 6, 9, 10, 11, 12, 7, 13, 8, 0, 1, 14, 15, 16, 17, 18, 19, 20]) (.node 1 15 (.leaf [2, 3, 4, 5, 6, 9, 10, 11, 12, 7, 13, 8, 0, 14, 1, 15, 16, 17, 18, 19, 20]) (.leaf [2, 3, 4, 5, 6, 9, 10, 11, 12, 7, 13, 8, 0, 14, 15, 1, 16, 17, 18, 19, 20]))) (.node 0 15 (.node 1 15 (.leaf [2, 3, 4, 5, 6, 9, 10, 11, 12, 7, 13, 8, 14, 0, 1, 15, 16, 17, 18, 19, 20]) (.leaf [2, 3, 4, 5, 6, 9, 10, 11, 12, 7, 13, 8, 14, 0, 15, 1, 16, 17, 18, 19, 20])) (.leaf [2, 3, 4, 5, 6, 9, 10, 11, 12, 7, 13, 8, 14, 15, 0, 1, 16, 17, 18, 19, 20]))))) (.node 0 8 (.node 1 8 (.leaf [2, 3, 4, 5, 6, 9, 10, 11, 12, 13, 7, 0, 1, 8, 14, 15, 16, 17, 18, 19, 20]) (.node 1 14 (.leaf [2, 3, 4, 5, 6, 9, 10, 11, 12, 13, 7, 0, 8, 1, 14, 15, 16, 17, 18, 19, 20]) (.node 1 15 (.leaf [2, 3, 4, 5, 6, 9, 10, 11, 12, 13, 7, 0, 8, 14, 1, 15, 16, 17, 18, 19, 20]) (.leaf [2, 3, 4, 5, 6, 9, 10, 11, 12, 13, 7, 0, 8, 14, 15, 1, 16, 17, 18, 19, 20])))) (.node 0 14 (.node 1 14 (.leaf [2, 3, 4, 5, 6, 9, 10, 11, 12, 13, 7, 8, 0, 1, 14, 15, 16, 17, 18, 19, 20]) (.node 1 15 (.leaf [2, 3, 4, 5, 6, 9, 10, 11, 12, 13, 7, 8, 0, 14, 1, 15, 16, 17, 18, 19, 20]) (.leaf [2, 3, 4, 5, 6, 9, 10, 11, 12, 13, 7, 8, 0, 14, 15, 1, 16, 17, 18, 19, 20]))) (.node 0 15 (.node 1 15 (.leaf [2, 3, 4, 5, 6, 9, 10, 11, 12, 13, 7, 8, 14, 0, 1, 15, 16, 17, 18, 19, 20]) (.leaf [2, 3, 4, 5, 6, 9, 10, 11, 12, 13, 7, 8, 14, 0, 15, 1, 16, 17, 18, 19, 20])) (.leaf [2, 3, 4, 5, 6, 9, 10, 11, 12, 13, 7, 8, 14, 15, 0, 1, 16, 17, 18, 19, 20]))))))) [qf 55 2 6, ql 56 1 55, qm 57 0, qm 58 0, qm 59 9, qq 60 (.iaddr 1 (.t 59) (.c (.int .i64 0))), ql 61 1 60, qq 62 (.call (.s [833288, 844866, 844930, 844994, 845063]) (.c (.fn 113 [])) [.t 58, .t 61]), qq 63 (.call (.s [833288, 844866, 844930, 844994, 845063]) (.c (.fn 147 [])) [.t 57, .t 62]), qm 64 0, qm 65 0, qm 66 9, qq 67 (.iaddr 1 (.t 66) (.c (.int .i64 1))), ql 68 1 67, qq 69 (.call (.s [833288, 844866, 844930, 844994, 845063]) (.c (.fn 113 [])) [.t 65, .t 68]), qq 70 (.call (.s [833288, 844866, 844930, 844994, 845063]) (.c (.fn 147 [])) [.t 64, .t 69]), qq 71 (.build [.int .i64 0, .int .i64 0] [(0 , 1 , .t 63), (1 , 1 , .t 70)]), qq 72 (.bsl 2 [.t 71]), qq 73 (.append 2 16 99 (.t 56) (.t 72)), qf 74 2 6, qs 1 74 73]))))
 (.ops [qv 75 .add [] 48 1, qm 48 75])))))))))
 (qS [qm 76 0, qm 77 0, qm 78 5, qq 79 (.iaddr 1 (.t 78) (.c (.int .i64 4))), ql 80 1 79, qq 81 (.call (.s [833288, 844866, 844930, 844994, 845063]) (.c (.fn 109 [])) [.t 77, .t 80, .c (.str [112, 114, 101])]), qq 82 (.call (.s [833288, 844866, 844930, 844994, 845063]) (.c (.fn 118 [])) [.t 76, .t 81]), qf 83 3 6, qs 1 83 82]
 (qS [qm 84 0, qm 85 0, qm 86 5, qq 87 (.iaddr 1 (.t 86) (.c (.int .i64 5))), ql 88 1 87, qq 89 (.call (.s [833288, 844866, 844930, 844994, 845063]) (.c (.fn 109 [])) [.t 85, .t 88, .c (.str [97, 100, 100])]), qq 90 (.call (.s [833288, 844866, 844930, 844994, 845063]) (.c (.fn 117 [])) [.t 84, .t 89]), qf 91 4 6, qs 1 91 90]
 (qS [qm 92 0, qm 93 0, qm 94 5, qq 95 (.iaddr 1 (.t 94) (.c (.int .i64 6))), ql 96 1 95, qq 97 (.call (.s [833288, 844866, 844930, 844994, 845063]) (.c (.fn 109 [])) [.t 93, .t 96, .c (.str [100, 101, 108])]), qq 98 (.call (.s [833288, 844866, 844930, 844994, 845063]) (.c (.fn 117 [])) [.t 92, .t 97]), qf 99 5 6, qs 1 99 98]
 (.seq (.ops [qm 100 0, qm 101 0, qm 102 5, qq 103 (.iaddr 1 (.t 102) (.c (.int .i64 7))), ql 104 1 103, qq 105 (.call (.s [833288, 844866, 844930, 844994, 845063]) (.c (.fn 113 [])) [.t 101, .t 104]), qq 106 (.call (.s [833288, 844866, 844930, 844994, 845063]) (.c (.fn 147 [])) [.t 100, .t 105]), qf 107 6 6, qs 1 107 106]) (.fzb 6 2 (.cut (.seq (.ops [qL 108 7 6, qs 7 4 108]) .ret))))))))))))
def r_domain_reader_schema : List RVar := [.cell true 7 4]
def n_domain_reader_schema : Nat := 109
theorem k_domain_reader_schema : chkFn PG 116 n_domain_reader_schema r_domain_reader_schema c_domain_reader_schema = true := by kernel_rfl
abbrev scB (name : List UInt8) (ts : List Int) (ds : V) (pre add del : V) (c : Int) : Blk := .box (.agg [.str name, .sl .p (ts.map i64V), ds, pre, add, del, .int .i64 c])
abbrev scZB : Blk := .box (.agg [.str [], .sl .nil [], .sl .nil [], .sl .nil [], .sl .nil [], .sl .nil [], .int .i64 0])
theorem dif5 (a e s n t m : Bool) : (((((a && e) && s) && n) && t) && m) = (a && (e && ((s && n) && (t && m)))) := by cases a <;> cases e <;> cases s <;> cases n <;> cases t <;> cases m <;> rfl
theorem ct_rschema (L : List Sx) (hL : RdOk L) (d : Dom) (hd : RdD d) (ok : Bool) (i : Int) (hi : Ix L i) : Rc 116 [.int .i64 i] L d ok (schV (schX d L i ok)) (schK d L i ok) := fun G H g => by
 have hC := ct_exactly L hL d ok i hi 8 (by omega) G H g
 obtain ⟨hix, hl8⟩ := ex_ix hL hi (n := 8) (by omega)
 refine CT.step _ mixed k_domain_reader_schema (fun nm hnm => stOf_mem _ nm hnm) fun hM => ?_
 repeat (first | refine i_s rfl ?_ | refine sw ?_ | refine i_alloc rfl ?_)
 refine i_cs rfl rfl rfl rfl hC ?_
 rintro _ _ g ⟨⟨rfl, rfl⟩, rfl⟩
 clear hC
 unfold schX schK scL
 generalize exV L i 8 = l at *
 generalize hk0 : (ok && exG L i 8) = k0 at *
 obtain ⟨i0, x0⟩ := at8_ix hix (k := 0) (by omega)
 obtain ⟨i1, x1⟩ := at8_ix hix (k := 1) (by omega)
 obtain ⟨i2, x2⟩ := at8_ix hix (k := 2) (by omega)
 obtain ⟨i3, x3⟩ := at8_ix hix (k := 3) (by omega)
 obtain ⟨i4, x4⟩ := at8_ix hix (k := 4) (by omega)
 obtain ⟨i5, x5⟩ := at8_ix hix (k := 5) (by omega)
 obtain ⟨i6, x6⟩ := at8_ix hix (k := 6) (by omega)
 obtain ⟨i7, x7⟩ := at8_ix hix (k := 7) (by omega)
 have x0 : l[(0 : Int).toNat]? = some (at8 l 0) := x0
 have x1 : l[(1 : Int).toNat]? = some (at8 l 1) := x1
 have x2 : l[(2 : Int).toNat]? = some (at8 l 2) := x2
 have x3 : l[(3 : Int).toNat]? = some (at8 l 3) := x3
 have x4 : l[(4 : Int).toNat]? = some (at8 l 4) := x4
 have x5 : l[(5 : Int).toNat]? = some (at8 l 5) := x5
 have x6 : l[(6 : Int).toNat]? = some (at8 l 6) := x6
 have x7 : l[(7 : Int).toNat]? = some (at8 l 7) := x7
 cases k0 with
 | false =>
  rw [show (false && decide (rSym L (at8 l 0) = sAction)) = false from rfl, if_neg (by simp), Bool.false_and]
  have hF := ct_fail L d false G H g
  repeat' (first | refine i_s rfl ?_ | refine sw ?_ | refine i_gf rfl ?_ | refine c_t rfl ?_)
  all_goals first
   | (exfalso; clear hF; simp at *; done)
   | skip
  refine i_cs rfl rfl rfl rfl hF ?_
  rintro _ _ g ⟨⟨rfl, rfl⟩, rfl⟩
  repeat' (first | refine i_s rfl ?_ | refine sw ?_ | refine i_stb rfl ?_)
  exact e_ret ⟨rfl, _, rfl, rfl, rfl, ⟨rfl, restr_stOf _ _⟩, rfl⟩
 | true =>
  have hS := ct_rsymbol L d true (at8 l 0) i0 G H g
  rw [Bool.true_and] at hS ⊢
  by_cases ha : rSym L (at8 l 0) = sAction
  · have hg : symG L (at8 l 0) = true := by unfold symG; rw [ha]; rfl
    rw [decide_eq_true ha, if_pos rfl, Bool.true_and]
    rw [ha, hg] at hS
    repeat' (first | refine i_s rfl ?_ | refine sw ?_ | refine i_gt rfl ?_ | refine jd rfl rfl ?_ | fail)
    all_goals first
     | (exfalso; clear hS; simp at *; done)
     | skip
    refine i_cs rfl rfl rfl rfl hS ?_
    rintro _ _ g ⟨⟨rfl, rfl⟩, rfl⟩
    clear hS
    have hS1 := ct_rsymbol L d true (at8 l 1) i1 G H
    have hC2 := ct_rchildren L d (symG L (at8 l 1)) (at8 l 2) i2 G H
    have hT2 := ct_typeList L d hd.t (symG L (at8 l 1) && chG L (at8 l 2)) (rCh L (at8 l 2)) (ch_ix hL i2) G H
    have eG1 : ((symG L (at8 l 1) && chG L (at8 l 2)) && (rCh L (at8 l 2)).all (typG d.types L)) = schG1 d L l := by unfold schG1; rw [Bool.and_assoc]
    rw [Bool.true_and] at hS1
    rw [eG1] at hT2
    clear eG1
    have e6 : ∀ a b c z r q : Bool, (a && (b && (c && (z && (r && q))))) = (((((a && b) && c) && z) && r) && q) := fun a b c z r q => by cases a <;> cases b <;> cases c <;> cases z <;> cases r <;> cases q <;> rfl
    rw [e6]
    clear e6
    repeat (first | refine i_s rfl ?_ | refine sw ?_ | refine i_gt rfl ?_ | refine c_f rfl ?_)
    refine c_join hM (fun e ρ' σ' g' => e = .normal ∧ g' = g ∧ Fits RNS [(0, .bptr 833288 0), (4, .bptr 7424263 0), (5, .sl .p (l.map i64V)), (6, .bptr 7424391 0)]
     ((7424263, .box (.agg [.str [], .sl .nil [], .sl .nil [], .sl .nil [], .sl .nil [], .sl .nil [], .int .i64 0])) :: (7424391, .box (.agg [.str (rSym L (at8 l 1)), .sl .p (((rCh L (at8 l 2)).map (typV d.types L)).map i64V), .sl .nil [], .sl .nil [], .sl .nil [], .sl .nil [], .int .i64 0])) :: rdS L d (schG1 d L l)) ρ' σ') ?_ ?_
    · repeat' (first | refine i_s rfl ?_ | refine sw ?_ | refine jd rfl rfl ?_ | refine i_alloc rfl ?_ | refine c_node ?_ ?_)
      all_goals
       refine i_cs rfl rfl rfl rfl (hS1 _) ?_
       rintro _ _ g ⟨⟨rfl, rfl⟩, rfl⟩
       repeat' (first | refine i_s rfl ?_ | refine jd rfl rfl ?_ | refine i_alloc rfl ?_)
       refine i_cs rfl rfl rfl rfl (hC2 _) ?_
       rintro _ _ g ⟨⟨rfl, rfl⟩, rfl⟩
       repeat' refine i_alloc rfl ?_
       refine i_cs rfl rfl rfl rfl (hT2 _) ?_
       rintro _ _ g ⟨⟨rfl, rfl⟩, rfl⟩
       repeat' (first | refine i_s rfl ?_ | refine sw ?_ | refine i_stb rfl ?_ | refine i_alloc rfl ?_)
       exact e_end ⟨rfl, rfl, ft⟩
    clear hS1 hC2 hT2
    rintro _ ρ' σ' g ⟨rfl, rfl, hf⟩
    refine e_seq ?_
    refine c_cut _ _ hf ?_
    clear hf
    have hN3 := ct_named L hL d (schG1 d L l) (at8 l 3) i3 sDifferent G H g
    have eG2 : ((schG1 d L l && nmG L (at8 l 3) sDifferent) && (nmV L (at8 l 3) sDifferent).all (difG L)) = (schG1 d L l && schG2 d L l) := by unfold schG2; rw [Bool.and_assoc]
    have hD := nm_ix hL i3 sDifferent
    have eB : schB d L l = ⟨rSym L (at8 l 1), (rCh L (at8 l 2)).map (typV d.types L), (nmV L (at8 l 3) sDifferent).map (difV L), (nmV L (at8 l 4) sPre).map (lltV d L), (nmV L (at8 l 5) sAdd).map (atmV d L), (nmV L (at8 l 6) sDel).map (atmV d L), atoiN (rSym L (at8 l 7))⟩ := rfl
    rw [eB]
    clear eB
    generalize (rCh L (at8 l 2)).map (typV d.types L) = ts at *
    generalize rSym L (at8 l 1) = nme at *
    generalize nmV L (at8 l 3) sDifferent = D at *
    generalize (schG1 d L l && nmG L (at8 l 3) sDifferent) = kB at *
    generalize (schG1 d L l && schG2 d L l) = kC at *
    repeat' (first | refine i_s rfl ?_ | refine sw ?_ | refine jd rfl rfl ?_ | fail)
    refine i_cs rfl rfl rfl rfl hN3 ?_
    rintro _ _ g ⟨⟨rfl, rfl⟩, rfl⟩
    clear hN3
    repeat' (first | refine i_len rfl ?_ | refine i_s rfl ?_ | refine sw ?_ | fail)
    refine c_nvb rfl rfl rfl rfl ?_
    have hlen := hD.1
    repeat' (first | refine sw ?_ | fail)
    refine c_for D.length (fun k => [(0, .bptr 833288 0), (4, .bptr 7424263 0), (5, .sl .p (l.map i64V)), (6, .bptr 7424391 0), (46, .sl .p (D.map i64V)), (47, .int .i64 D.length), (48, .int .i64 k)])
     (fun k => (7424263, scZB) :: (7424391, scB nme ts (.sl (.own 7427970) (((D.take k).map (difV L)).map pairV)) (.sl .nil []) (.sl .nil []) (.sl .nil []) 0) :: (7427970, .vec ((D.take k).map (difV L)).length) :: rdS L d (kB && (D.take k).all (difG L))) (fun _ => True) trivial ?_ fun k hk _ => ?_
    · exact ⟨⟨rfl, rfl, rfl, rfl, rfl, rfl, rfl, trivial⟩, ⟨rfl, rfl, rfl, (by show _ = Blk.box (rdRow L d (kB && true)); rw [Bool.and_true]; rfl), rfl, rfl, rfl, rfl, trivial⟩, rfl⟩
    have h1 : ((D.take k).map (difV L)).length = k := by simp; omega
    by_cases hlt : k < D.length
    · obtain ⟨x, hx⟩ := get_some hlt
      have hxi := hD.2 x (mem_get hx)
      have e1 := all_take (difG L) kB hx
      have e2 := map_take (difV L) hx
      generalize (kB && (D.take k).all (difG L)) = kk at *
      have hE := ct_exactly L hL d kk x hxi 2 (by omega) G H
      obtain ⟨hpx, hp2⟩ := ex_ix hL hxi (n := 2) (by omega)
      have eD : difV L x = (atoiN (rSym L (at8 (exV L x 2) 0)), atoiN (rSym L (at8 (exV L x 2) 1))) := rfl
      have eG : (kk && difG L x) = (((((kk && exG L x 2) && symG L (at8 (exV L x 2) 0)) && numG (rSym L (at8 (exV L x 2) 0))) && symG L (at8 (exV L x 2) 1)) && numG (rSym L (at8 (exV L x 2) 1))) := (dif5 _ _ _ _ _ _).symm
      rw [eG] at e1
      generalize difV L x = dx at *
      clear eG
      generalize exV L x 2 = p at *
      obtain ⟨j0, y0⟩ := at8_ix hpx (k := 0) (by omega)
      obtain ⟨j1, y1⟩ := at8_ix hpx (k := 1) (by omega)
      have y0 : p[(0 : Int).toNat]? = some (at8 p 0) := y0
      have y1 : p[(1 : Int).toNat]? = some (at8 p 1) := y1
      have hA := ct_rsymbol L d (kk && exG L x 2) (at8 p 0) j0 G H
      have hB := ct_number L d ((kk && exG L x 2) && symG L (at8 p 0)) (rSym L (at8 p 0)) (by have h : (rSym L (at8 p 0)).length ≤ 100 := hL.sym _ _ (nd_get j0); omega) G H
      have hA2 := ct_rsymbol L d (((kk && exG L x 2) && symG L (at8 p 0)) && numG (rSym L (at8 p 0))) (at8 p 1) j1 G H
      have hB2 := ct_number L d ((((kk && exG L x 2) && symG L (at8 p 0)) && numG (rSym L (at8 p 0))) && symG L (at8 p 1)) (rSym L (at8 p 1)) (by have h : (rSym L (at8 p 1)).length ≤ 100 := hL.sym _ _ (nd_get j1); omega) G H
      generalize ((((kk && exG L x 2) && symG L (at8 p 0)) && numG (rSym L (at8 p 0))) && symG L (at8 p 1)) = k4 at *
      generalize (k4 && numG (rSym L (at8 p 1))) = k5 at *
      generalize (((kk && exG L x 2) && symG L (at8 p 0)) && numG (rSym L (at8 p 0))) = k3 at *
      generalize ((kk && exG L x 2) && symG L (at8 p 0)) = k2 at *
      generalize (kk && exG L x 2) = k1 at *
      generalize rSym L (at8 p 0) = s0 at *
      generalize rSym L (at8 p 1) = s1 at *
      generalize at8 p 0 = p0 at *
      generalize at8 p 1 = p1 at *
      generalize hvs : (D.take k).map (difV L) = vs at *
      repeat' (first | refine i_s rfl ?_ | refine sw ?_ | refine jd rfl rfl ?_ | refine c_cond rfl (fun h => ?_) (fun h => ?_))
      all_goals first
       | (exfalso; clear hA hB hA2 hB2 hE; simp at *; omega)
       | skip
      refine i_cs rfl rfl rfl rfl (hE _) ?_
      rintro _ _ g ⟨⟨rfl, rfl⟩, rfl⟩
      clear hE
      repeat (first | refine i_s rfl ?_ | refine sw ?_)
      refine c_join hM (fun e ρ' σ' g' => e = .normal ∧ g' = g ∧ Fits RNS [(0, .bptr 833288 0), (4, .bptr 7424263 0), (5, .sl .p (l.map i64V)), (6, .bptr 7424391 0), (46, .sl .p (D.map i64V)), (47, .int .i64 D.length), (48, .int .i64 k)]
       ((7424263, scZB) :: (7424391, scB nme ts (.sl (.own 7427970) ((vs ++ [dx]).map pairV)) (.sl .nil []) (.sl .nil []) (.sl .nil []) 0) :: (7427970, .vec (vs.length + 1)) :: rdS L d k5) ρ' σ') ?_ ?_
      · subst eD
        clear hix hL hd hM hpx hD
        repeat' refine c_node ?_ ?_
        all_goals
         repeat (first | refine i_s rfl ?_ | refine sw ?_ | refine jd rfl rfl ?_)
         refine i_cs rfl rfl rfl rfl (hA _) ?_
         rintro _ _ g ⟨⟨rfl, rfl⟩, rfl⟩
         repeat (first | refine i_s rfl ?_ | refine jd rfl rfl ?_)
         refine i_cs rfl rfl rfl rfl (hB _) ?_
         rintro _ _ g ⟨⟨rfl, rfl⟩, rfl⟩
         repeat (first | refine i_s rfl ?_ | refine jd rfl rfl ?_)
         refine i_cs rfl rfl rfl rfl (hA2 _) ?_
         rintro _ _ g ⟨⟨rfl, rfl⟩, rfl⟩
         repeat refine i_s rfl ?_
         refine i_cs rfl rfl rfl rfl (hB2 _) ?_
         rintro _ _ g ⟨⟨rfl, rfl⟩, rfl⟩
         repeat refine i_s rfl ?_
         refine i_appM (c := ((atoiN s0, atoiN s1) : Int × Int)) rfl rfl rfl rfl rfl (by omega) (by omega) ?_
         repeat (first | refine i_s rfl ?_ | refine sw ?_ | refine i_stb rfl ?_)
         exact e_end ⟨rfl, rfl, ft⟩
      · clear hA hB hA2 hB2
        rintro _ ρ' σ' g ⟨rfl, rfl, hf⟩
        refine e_block ?_
        refine e_seq ?_
        refine c_cut _ _ hf ?_
        clear hf
        repeat' (first | refine i_s rfl ?_ | refine sw ?_ | refine ja rfl rfl ?_ | fail)
        refine e_for hlt trivial ⟨⟨rfl, rfl, rfl, rfl, rfl, rfl, rfl, trivial⟩, ⟨rfl, ?_, ?_, ?_, rfl, rfl, rfl, rfl, trivial⟩, rfl⟩
        · rw [e2]; rfl
        · rw [e2, List.length_append]; rfl
        · rw [e1]; rfl
    have hge : k = D.length := by omega
    subst hge
    rw [List.take_length, eG2]
    have hN4 := ct_named L hL d kC (at8 l 4) i4 sPre G H
    have hL4 := ct_literalList L hL d hd (kC && nmG L (at8 l 4) sPre) (nmV L (at8 l 4) sPre) (nm_ix hL i4 _) G H
    have e3 : ((kC && nmG L (at8 l 4) sPre) && (nmV L (at8 l 4) sPre).all (lltG d L)) = (kC && schG3 d L l) := by unfold schG3; rw [Bool.and_assoc]
    rw [e3] at hL4
    have hN5 := ct_named L hL d (kC && schG3 d L l) (at8 l 5) i5 sAdd G H
    have hL5 := ct_atomList L hL d hd ((kC && schG3 d L l) && nmG L (at8 l 5) sAdd) (nmV L (at8 l 5) sAdd) (nm_ix hL i5 _) G H
    have e4 : (((kC && schG3 d L l) && nmG L (at8 l 5) sAdd) && (nmV L (at8 l 5) sAdd).all (atmG d L)) = ((kC && schG3 d L l) && schG4 d L l) := by unfold schG4; rw [Bool.and_assoc]
    rw [e4] at hL5
    have hN6 := ct_named L hL d ((kC && schG3 d L l) && schG4 d L l) (at8 l 6) i6 sDel G H
    have hL6 := ct_atomList L hL d hd (((kC && schG3 d L l) && schG4 d L l) && nmG L (at8 l 6) sDel) (nmV L (at8 l 6) sDel) (nm_ix hL i6 _) G H
    have e5 : ((((kC && schG3 d L l) && schG4 d L l) && nmG L (at8 l 6) sDel) && (nmV L (at8 l 6) sDel).all (atmG d L)) = (((kC && schG3 d L l) && schG4 d L l) && schG5 d L l) := by unfold schG5; rw [Bool.and_assoc]
    rw [e5] at hL6
    have hS7 := ct_rsymbol L d (((kC && schG3 d L l) && schG4 d L l) && schG5 d L l) (at8 l 7) i7 G H
    have hM7 := ct_number L d ((((kC && schG3 d L l) && schG4 d L l) && schG5 d L l) && symG L (at8 l 7)) (rSym L (at8 l 7)) (by have h : (rSym L (at8 l 7)).length ≤ 100 := hL.sym _ _ (nd_get i7); omega) G H
    have e7 : (((((kC && schG3 d L l) && schG4 d L l) && schG5 d L l) && symG L (at8 l 7)) && numG (rSym L (at8 l 7))) = ((((kC && schG3 d L l) && schG4 d L l) && schG5 d L l) && schG6 d L l) := by unfold schG6; rw [Bool.and_assoc]
    rw [e7] at hM7
    clear e3 e4 e5 e7
    repeat' (first | refine i_s rfl ?_ | refine sw ?_ | refine jd rfl rfl ?_ | refine c_cond rfl (fun h => ?_) (fun h => ?_))
    all_goals first
     | (exfalso; clear hN4 hL4 hN5 hL5 hN6 hL6 hS7 hM7; simp at *; done)
     | (exfalso; clear hN4 hL4 hN5 hL5 hN6 hL6 hS7 hM7; simp at *; omega)
     | skip
    refine i_cs rfl rfl rfl rfl (hN4 _) ?_
    rintro _ _ g ⟨⟨rfl, rfl⟩, rfl⟩
    skip
    refine i_cs rfl rfl rfl rfl (hL4 _) ?_
    rintro _ _ g ⟨⟨rfl, rfl⟩, rfl⟩
    repeat (first | refine i_s rfl ?_ | refine sw ?_ | refine jd rfl rfl ?_ | refine i_stb rfl ?_)
    refine i_cs rfl rfl rfl rfl (hN5 _) ?_
    rintro _ _ g ⟨⟨rfl, rfl⟩, rfl⟩
    skip
    refine i_cs rfl rfl rfl rfl (hL5 _) ?_
    rintro _ _ g ⟨⟨rfl, rfl⟩, rfl⟩
    repeat (first | refine i_s rfl ?_ | refine sw ?_ | refine jd rfl rfl ?_ | refine i_stb rfl ?_)
    refine i_cs rfl rfl rfl rfl (hN6 _) ?_
    rintro _ _ g ⟨⟨rfl, rfl⟩, rfl⟩
    skip
    refine i_cs rfl rfl rfl rfl (hL6 _) ?_
    rintro _ _ g ⟨⟨rfl, rfl⟩, rfl⟩
    repeat (first | refine i_s rfl ?_ | refine sw ?_ | refine jd rfl rfl ?_ | refine i_stb rfl ?_)
    refine i_cs rfl rfl rfl rfl (hS7 _) ?_
    rintro _ _ g ⟨⟨rfl, rfl⟩, rfl⟩
    skip
    refine i_cs rfl rfl rfl rfl (hM7 _) ?_
    rintro _ _ g ⟨⟨rfl, rfl⟩, rfl⟩
    repeat (first | refine i_s rfl ?_ | refine sw ?_ | refine i_stb rfl ?_)
    refine c_fzb rfl rfl rfl rfl ?_
    repeat (first | refine i_s rfl ?_ | refine sw ?_ | refine i_stb rfl ?_)
    exact e_ret ⟨rfl, _, rfl, rfl, rfl, ⟨rfl, restr_stOf _ _⟩, rfl⟩
  · rw [decide_eq_false ha, if_neg (by simp), Bool.false_and]
    have hF := ct_fail L d (symG L (at8 l 0)) G H
    repeat' (first | refine i_s rfl ?_ | refine sw ?_ | refine i_gt rfl ?_ | refine jd rfl rfl ?_ | fail)
    all_goals first
     | (exfalso; clear hF hS; simp at *; done)
     | skip
    refine i_cs rfl rfl rfl rfl hS ?_
    rintro _ _ g ⟨⟨rfl, rfl⟩, rfl⟩
    repeat' (first | refine i_s rfl ?_ | refine sw ?_ | refine i_gt rfl ?_ | refine jd rfl rfl ?_ | refine i_alloc rfl ?_ | (refine sp ?_ ?_ <;> try intro h) | fail)
    all_goals first
     | (exact absurd (by simpa [sAction] using h) ha)
     | (exfalso; clear hF hS; simp at *; done)
     | skip
    refine i_cs rfl rfl rfl rfl (hF _) ?_
    rintro _ _ g ⟨⟨rfl, rfl⟩, rfl⟩
    repeat' (first | refine i_s rfl ?_ | refine sw ?_ | refine i_stb rfl ?_)
    exact e_ret ⟨rfl, _, rfl, rfl, rfl, ⟨rfl, restr_stOf _ _⟩, rfl⟩
end Hm
end
section
namespace Hm
open Go
theorem foldl_take {α β : Type} (f : β → α → β) (b : β) {l : List α} {k : Nat} {c : α} (h : l[k]? = some c) : (l.take (k + 1)).foldl f b = f ((l.take k).foldl f b) c := by
 rw [take_succ_get h, List.foldl_append]; rfl
theorem fold_len {α β γ : Type} {f : List β × γ → α → List β × γ} (h : ∀ q a, (f q a).1.length ≤ q.1.length + 1) : ∀ (l : List α) (q : List β × γ), (l.foldl f q).1.length ≤ q.1.length + l.length
 | [], q => by simp
 | a :: r, q => by
  have h1 := fold_len h r (f q a)
  have h2 := h q a
  simp only [List.foldl_cons, List.length_cons]
  omega
def p0 (L : List Sx) (i : Int) : Int := at8 (exV L i 2) 0
def p1 (L : List Sx) (i : Int) : Int := at8 (exV L i 2) 1
def tyF (L : List Sx) (q : List Typ × Bool) (i : Int) : List Typ × Bool := (q.1 ++ [⟨rSym L (p0 L i), typV q.1 L (p1 L i)⟩], ((q.2 && exG L i 2) && typG q.1 L (p1 L i)) && symG L (p0 L i))
def obF (T : List Typ) (L : List Sx) (q : List Obj × Bool) (i : Int) : List Obj × Bool := (q.1 ++ [⟨rSym L (p0 L i), typV T L (p1 L i)⟩], ((q.2 && exG L i 2) && typG T L (p1 L i)) && symG L (p0 L i))
def prF (T : List Typ) (L : List Sx) (q : List Prd × Bool) (i : Int) : List Prd × Bool := match rCh L i with
 | [] => (q.1, false)
 | c :: r => (q.1 ++ [⟨rSym L c, r.map (typV T L)⟩], ((q.2 && chG L i) && symG L c) && r.all (typG T L))
def scF (d : Dom) (L : List Sx) (q : List Sch × Bool) (i : Int) : List Sch × Bool := (q.1 ++ [schX d L i q.2], schK d L i q.2)
theorem tyF_len (L : List Sx) (q : List Typ × Bool) (i : Int) : (tyF L q i).1.length ≤ q.1.length + 1 := by simp [tyF]
theorem obF_len (T : List Typ) (L : List Sx) (q : List Obj × Bool) (i : Int) : (obF T L q i).1.length ≤ q.1.length + 1 := by simp [obF]
theorem prF_len (T : List Typ) (L : List Sx) (q : List Prd × Bool) (i : Int) : (prF T L q i).1.length ≤ q.1.length + 1 := by unfold prF; split <;> simp
theorem scF_len (d : Dom) (L : List Sx) (q : List Sch × Bool) (i : Int) : (scF d L q i).1.length ≤ q.1.length + 1 := by simp [scF]
def rootX (L : List Sx) : Int := (L.length : Int) - 1
def secX (L : List Sx) : List Int := nmV L (rootX L) sDomain
def rTy (L : List Sx) (c : List Int) : List Typ × Bool := (nmV L (at8 c 0) sTypes).foldl (tyF L) ([], nmG L (rootX L) sDomain && nmG L (at8 c 0) sTypes)
def rOb (L : List Sx) (c : List Int) : List Obj × Bool := (nmV L (at8 c 1) sObjects).foldl (obF (rTy L c).1 L) ([], (rTy L c).2 && nmG L (at8 c 1) sObjects)
def rPr (L : List Sx) (c : List Int) : List Prd × Bool := (nmV L (at8 c 2) sPredicates).foldl (prF (rTy L c).1 L) ([], (rOb L c).2 && nmG L (at8 c 2) sPredicates)
def rD3 (L : List Sx) (c : List Int) : Dom := ⟨(rTy L c).1, (rOb L c).1, (rPr L c).1, [], [], []⟩
def rSc (L : List Sx) (c : List Int) : List Sch × Bool := ((c.take (c.length - 2)).drop 3).foldl (scF (rD3 L c) L) ([], (rPr L c).2)
def rIn (L : List Sx) (c : List Int) : List At × Bool := ((nmV L (at8 c (c.length - 2)) sInit).map (atmV (rD3 L c) L), ((rSc L c).2 && nmG L (at8 c (c.length - 2)) sInit) && (nmV L (at8 c (c.length - 2)) sInit).all (atmG (rD3 L c) L))
def rGo (L : List Sx) (c : List Int) : List Lit × Bool := ((nmV L (at8 c (c.length - 1)) sGoal).map (lltV (rD3 L c) L), ((rIn L c).2 && nmG L (at8 c (c.length - 1)) sGoal) && (nmV L (at8 c (c.length - 1)) sGoal).all (lltG (rD3 L c) L))
def rDom (L : List Sx) (c : List Int) : Dom := ⟨(rTy L c).1, (rOb L c).1, (rPr L c).1, (rSc L c).1, (rIn L c).1, (rGo L c).1⟩
def emX (L : List Sx) (i : Int) : Bool := (rCh L i).isEmpty
def domX (L : List Sx) (c : List Int) : Bool := (decide (5 ≤ c.length) && !(nmV L (at8 c 2) sPredicates).any (emX L)) && (rGo L c).2
def domR (L : List Sx) : Option Dom := if domX L (secX L) = true then some (rDom L (secX L)) else none
theorem atmV_same {d e : Dom} (h2 : d.objects = e.objects) (h3 : d.preds = e.preds) (L : List Sx) : atmV d L = atmV e L ∧ atmG d L = atmG e L := by
 constructor <;> funext i
 · unfold atmV; rw [h2, h3]
 · unfold atmG; rw [h2, h3]
theorem lltV_same {d e : Dom} (h2 : d.objects = e.objects) (h3 : d.preds = e.preds) (L : List Sx) : lltV d L = lltV e L ∧ lltG d L = lltG e L := by
 obtain ⟨a, b⟩ := atmV_same h2 h3 L
 constructor <;> funext i
 · unfold lltV; rw [a]
 · unfold lltG; rw [b]
theorem schX_same {d e : Dom} (h1 : d.types = e.types) (h2 : d.objects = e.objects) (h3 : d.preds = e.preds) (L : List Sx) (i : Int) (ok : Bool) : schX d L i ok = schX e L i ok ∧ schK d L i ok = schK e L i ok := by
 obtain ⟨a, b⟩ := atmV_same h2 h3 L
 obtain ⟨a2, b2⟩ := lltV_same h2 h3 L
 constructor
 · unfold schX schB; rw [h1, a, a2]
 · unfold schK schG1 schG2 schG3 schG4 schG5 schG6; rw [h1, b, b2]
end Hm
end
section
namespace Hm
open Go
set_option maxRecDepth 100000
set_option maxHeartbeats 4000000
theorem root_ix {L : List Sx} (hL : RdOk L) : Ix L (rootX L) := by
 have := hL.pos
 unfold rootX
 exact ⟨by omega, by omega⟩
abbrev bxx : Nat := 833288
def c_domain_reader_domain : Cmd :=
 (qS [qm 17 0, qm 18 0, qq 19 (.nilck (.t 18)), qf 20 0 19, ql 21 1 20, qn 22 21, qv 23 .sub [] 22 1, qq 24 (.call (.s [833288, 844866, 844930, 844994, 845063]) (.c (.fn 109 [])) [.t 17, .t 23, .c (.str [100, 111, 109, 97, 105, 110])]), qm 2 24]
 (qT (qS [qm 25 2, qn 26 25, qv 27 .lss [] 26 5]
 (.cond (.t 27) (.seq (.ops [qm 28 0, qq 29 (.call (.s [833288, 844866, 844930, 844994, 845063]) (.c (.fn 110 [])) [.t 28])]) .ret) .skip))
 (qT (qS [qm 30 0, qm 31 2, qq 32 (.iaddr 1 (.t 31) (.c (.int .i64 0))), ql 33 1 32, qq 34 (.call (.s [833288, 844866, 844930, 844994, 845063]) (.c (.fn 109 [])) [.t 30, .t 33, .c (.str [116, 121, 112, 101, 115])]), qn 35 34, qc 36 0]
 (.block 0 (.loop (qS [qu 37 .lss [] 36 35]
 (qT (.cond (.t 37) .skip (.exit 0))
 (qT (.block 1 (qS [qi 38 1 34 36, ql 39 1 38, qm 4 39]
 (qS [qm 40 0, qm 41 4, qq 42 (.call (.s [833288, 844866, 844930, 844994, 845063]) (.c (.fn 111 [])) [.t 40, .t 41, .c (.int .i64 2)]), qm 5 42]
 (qS [qm 43 0, qm 44 5, qq 45 (.iaddr 1 (.t 44) (.c (.int .i64 1))), ql 46 1 45, qq 47 (.call (.s [833288, 844866, 844930, 844994, 845063]) (.c (.fn 112 [])) [.t 43, .t 46]), qm 6 47]
 (.opsT (.node 2 10 (.node 3 10 (.node 4 10 (.node 5 10 (.leaf [0, 1, 2, 3, 4, 5, 6, 7, 8, 9, 10, 11, 12, 13, 14, 15, 16, 17, 18]) (.leaf [0, 1, 2, 3, 4, 6, 7, 8, 9, 10, 5, 11, 12, 13, 14, 15, 16, 17, 18])) (.leaf [0, 1, 2, 3, 6, 7, 8, 9, 10, 4, 5, 11, 12, 13, 14, 15, 16, 17, 18])) (.leaf [0, 1, 2, 6, 7, 8, 9, 10, 3, 4, 5, 11, 12, 13, 14, 15, 16, 17, 18])) (.leaf [0, 1, 6, 7, 8, 9, 10, 2, 3, 4, 5, 11, 12, 13, 14, 15, 16, 17, 18])) [qm 48 0, qm 49 0, qq 50 (.nilck (.t 49)), qf 51 1 50, qf 52 0 51, ql 53 1 52, qm 54 0, qm 55 5, qq 56 (.iaddr 1 (.t 55) (.c (.int .i64 0))), ql 57 1 56, qq 58 (.call (.s [833288, 844866, 844930, 844994, 845063]) (.c (.fn 113 [])) [.t 54, .t 57]), qm 59 6, qq 60 (.build [.str [], .int .i64 0] [(0 , 1 , .t 58), (1 , 1 , .t 59)]), qq 61 (.bsl 2 [.t 60]), qq 62 (.append 2 24 83 (.t 53) (.t 61)), qq 63 (.nilck (.t 48)), qf 64 1 63, qf 65 0 64, qs 1 65 62])))))
 (.ops [qv 66 .add [] 36 1, qm 36 66])))))))
 (qT (qS [qm 67 0, qm 68 2, qq 69 (.iaddr 1 (.t 68) (.c (.int .i64 1))), ql 70 1 69, qq 71 (.call (.s [833288, 844866, 844930, 844994, 845063]) (.c (.fn 109 [])) [.t 67, .t 70, .c (.str [111, 98, 106, 101, 99, 116, 115])]), qn 72 71, qc 73 0]
 (.block 2 (.loop (qS [qu 74 .lss [] 73 72]
 (qT (.cond (.t 74) .skip (.exit 2))
 (qT (.block 3 (qS [qi 75 1 71 73, ql 76 1 75, qm 8 76]
 (qS [qm 77 0, qm 78 8, qq 79 (.call (.s [833288, 844866, 844930, 844994, 845063]) (.c (.fn 111 [])) [.t 77, .t 78, .c (.int .i64 2)]), qm 9 79]
 (qS [qm 80 0, qm 81 9, qq 82 (.iaddr 1 (.t 81) (.c (.int .i64 1))), ql 83 1 82, qq 84 (.call (.s [833288, 844866, 844930, 844994, 845063]) (.c (.fn 112 [])) [.t 80, .t 83]), qm 10 84]
 (.opsT (.node 2 10 (.node 3 10 (.node 4 10 (.node 5 10 (.leaf [0, 1, 2, 3, 4, 5, 6, 7, 8, 9, 10, 11, 12, 13, 14, 15, 16, 17, 18]) (.leaf [0, 1, 2, 3, 4, 6, 7, 8, 9, 10, 5, 11, 12, 13, 14, 15, 16, 17, 18])) (.leaf [0, 1, 2, 3, 6, 7, 8, 9, 10, 4, 5, 11, 12, 13, 14, 15, 16, 17, 18])) (.leaf [0, 1, 2, 6, 7, 8, 9, 10, 3, 4, 5, 11, 12, 13, 14, 15, 16, 17, 18])) (.leaf [0, 1, 6, 7, 8, 9, 10, 2, 3, 4, 5, 11, 12, 13, 14, 15, 16, 17, 18])) [qm 85 0, qm 86 0, qq 87 (.nilck (.t 86)), qf 88 1 87, qf 89 1 88, ql 90 1 89, qm 91 0, qm 92 9, qq 93 (.iaddr 1 (.t 92) (.c (.int .i64 0))), ql 94 1 93, qq 95 (.call (.s [833288, 844866, 844930, 844994, 845063]) (.c (.fn 113 [])) [.t 91, .t 94]), qm 96 10, qq 97 (.build [.str [], .int .i64 0] [(0 , 1 , .t 95), (1 , 1 , .t 96)]), qq 98 (.bsl 2 [.t 97]), qq 99 (.append 2 24 52 (.t 90) (.t 98)), qq 100 (.nilck (.t 85)), qf 101 1 100, qf 102 1 101, qs 1 102 99])))))
 (.ops [qv 103 .add [] 73 1, qm 73 103])))))))
 (qT (qS [qm 104 0, qm 105 2, qq 106 (.iaddr 1 (.t 105) (.c (.int .i64 2))), ql 107 1 106, qq 108 (.call (.s [833288, 844866, 844930, 844994, 845063]) (.c (.fn 109 [])) [.t 104, .t 107, .c (.str [112, 114, 101, 100, 105, 99, 97, 116, 101, 115])]), qn 109 108, qc 110 0]
 (.block 4 (.loop (qS [qu 111 .lss [] 110 109]
 (qT (.cond (.t 111) .skip (.exit 4))
 (qT (.block 5 (qS [qi 112 1 108 110, ql 113 1 112, qm 12 113]
 (qS [qm 114 0, qm 115 12, qq 116 (.call (.s [833288, 844866, 844930, 844994, 845063]) (.c (.fn 114 [])) [.t 114, .t 115]), qm 13 116]
 (qT (qS [qm 117 13, qn 118 117, qv 119 .eql [.i] 118 0]
 (.cond (.t 119) (.seq (.ops [qm 120 0, qq 121 (.call (.s [833288, 844866, 844930, 844994, 845063]) (.c (.fn 110 [])) [.t 120])]) .ret) .skip))
 (.opsT (.node 2 10 (.node 3 10 (.node 4 10 (.node 5 10 (.node 10 13 (.leaf [0, 1, 2, 3, 4, 5, 6, 7, 8, 9, 10, 11, 12, 13, 14, 15, 16, 17, 18, 19, 20, 21]) (.leaf [0, 1, 2, 3, 4, 5, 6, 7, 8, 9, 11, 12, 13, 10, 14, 15, 16, 17, 18, 19, 20, 21])) (.node 10 13 (.node 5 14 (.leaf [0, 1, 2, 3, 4, 6, 7, 8, 9, 10, 5, 11, 12, 13, 14, 15, 16, 17, 18, 19, 20, 21]) (.leaf [0, 1, 2, 3, 4, 6, 7, 8, 9, 10, 11, 12, 13, 14, 5, 15, 16, 17, 18, 19, 20, 21])) (.node 5 14 (.leaf [0, 1, 2, 3, 4, 6, 7, 8, 9, 11, 12, 13, 10, 5, 14, 15, 16, 17, 18, 19, 20, 21]) (.leaf [0, 1, 2, 3, 4, 6, 7, 8, 9, 11, 12, 13, 10, 14, 5, 15, 16, 17, 18, 19, 20, 21])))) (.node 10 13 (.node 4 14 (.node 5 14 (.leaf [0, 1, 2, 3, 6, 7, 8, 9, 10, 4, 5, 11, 12, 13, 14, 15, 16, 17, 18, 19, 20, 21]) (.leaf [0, 1, 2, 3, 6, 7, 8, 9, 10, 4, 11, 12, 13, 14, 5, 15, 16, 17, 18, 19, 20, 21])) (.leaf [0, 1, 2, 3, 6, 7, 8, 9, 10, 11, 12, 13, 14, 4, 5, 15, 16, 17, 18, 19, 20, 21])) (.node 4 14 (.node 5 14 (.leaf [0, 1, 2, 3, 6, 7, 8, 9, 11, 12, 13, 10, 4, 5, 14, 15, 16, 17, 18, 19, 20, 21]) (.leaf [0, 1, 2, 3, 6, 7, 8, 9, 11, 12, 13, 10, 4, 14, 5, 15, 16, 17, 18, 19, 20, 21])) (.leaf [0, 1, 2, 3, 6, 7, 8, 9, 11, 12, 13, 10, 14, 4, 5, 15, 16, 17, 18, 19, 20, 21])))) (.node 10 13 (.node 3 14 (.node 4 14 (.node 5 14 (.leaf [0, 1, 2, 6, 7, 8, 9, 10, 3, 4, 5, 11, 12, 13, 14, 15, 16, 17, 18, 19, 20, 21]) (.leaf [0, 1, 2, 6, 7, 8, 9, 10, 3, 4, 11, 12, 13, 14, 5, 15, 16, 17, 18, 19, 20, 21])) (.leaf [0, 1, 2, 6, 7, 8, 9, 10, 3, 11, 12, 13, 14, 4, 5, 15, 16, 17, 18, 19, 20, 21])) (.leaf [0, 1, 2, 6, 7, 8, 9, 10, 11, 12, 13, 14, 3, 4, 5, 15, 16, 17, 18, 19, 20, 21])) (.node 3 14 (.node 4 14 (.node 5 14 (.leaf [0, 1, 2, 6, 7, 8, 9, 11, 12, 13, 10, 3, 4, 5, 14, 15, 16, 17, 18, 19, 20, 21]) (.leaf [0, 1, 2, 6, 7, 8, 9, 11, 12, 13, 10, 3, 4, 14, 5, 15, 16, 17, 18, 19, 20, 21])) (.leaf [0, 1, 2, 6, 7, 8, 9, 11, 12, 13, 10, 3, 14, 4, 5, 15, 16, 17, 18, 19, 20, 21])) (.leaf [0, 1, 2, 6, 7, 8, 9, 11, 12, 13, 10, 14, 3, 4, 5, 15, 16, 17, 18, 19, 20, 21])))) (.node 10 13 (.node 2 14 (.node 3 14 (.node 4 14 (.node 5 14 (.leaf [0, 1, 6, 7, 8, 9, 10, 2, 3, 4, 5, 11, 12, 13, 14, 15, 16, 17, 18, 19, 20, 21]) (.leaf [0, 1, 6, 7, 8, 9, 10, 2, 3, 4, 11, 12, 13, 14, 5, 15, 16, 17, 18, 19, 20, 21])) (.leaf [0, 1, 6, 7, 8, 9, 10, 2, 3, 11, 12, 13, 14, 4, 5, 15, 16, 17, 18, 19, 20, 21])) (.leaf [0, 1, 6, 7, 8, 9, 10, 2, 11, 12, 13, 14, 3, 4, 5, 15, 16, 17, 18, 19, 20, 21])) (.leaf [0, 1, 6, 7, 8, 9, 10, 11, 12, 13, 14, 2, 3, 4, 5, 15, 16, 17, 18, 19, 20, 21])) (.node 2 14 (.node 3 14 (.node 4 14 (.node 5 14 (.leaf [0, 1, 6, 7, 8, 9, 11, 12, 13, 10, 2, 3, 4, 5, 14, 15, 16, 17, 18, 19, 20, 21]) (.leaf [0, 1, 6, 7, 8, 9, 11, 12, 13, 10, 2, 3, 4, 14, 5, 15, 16, 17, 18, 19, 20, 21])) (.leaf [0, 1, 6, 7, 8, 9, 11, 12, 13, 10, 2, 3, 14, 4, 5, 15, 16, 17, 18, 19, 20, 21])) (.leaf [0, 1, 6, 7, 8, 9, 11, 12, 13, 10, 2, 14, 3, 4, 5, 15, 16, 17, 18, 19, 20, 21])) (.leaf [0, 1, 6, 7, 8, 9, 11, 12, 13, 10, 14, 2, 3, 4, 5, 15, 16, 17, 18, 19, 20, 21])))) [qm 122 0, qm 123 0, qq 124 (.nilck (.t 123)), qf 125 1 124, qf 126 2 125, ql 127 1 126, qm 128 0, qm 129 13, qq 130 (.iaddr 1 (.t 129) (.c (.int .i64 0))), ql 131 1 130, qq 132 (.call (.s [833288, 844866, 844930, 844994, 845063]) (.c (.fn 113 [])) [.t 128, .t 131]), qm 133 0, qm 134 13, qq 135 (.slice false 1 (.t 134) (some (.c (.int .i64 1))) none), qq 136 (.call (.s [833288, 844866, 844930, 844994, 845063]) (.c (.fn 115 [])) [.t 133, .t 135]), qq 137 (.build [.str [], .sl .nil []] [(0 , 1 , .t 132), (1 , 1 , .t 136)]), qq 138 (.bsl 2 [.t 137]), qq 139 (.append 2 40 67 (.t 127) (.t 138)), qq 140 (.nilck (.t 122)), qf 141 1 140, qf 142 2 141, qs 1 142 139])))))
 (.ops [qv 143 .add [] 110 1, qm 110 143])))))))
 (qS [qm 144 2, qn 145 144, qm 14 145]
 (qT (qS [qm 146 2, qm 147 14, qv 148 .sub [] 147 2, qq 149 (.slice false 1 (.t 146) (some (.c (.int .i64 3))) (some (.t 148))), qn 150 149, qc 151 0]
 (.block 6 (.loop (qS [qu 152 .lss [] 151 150]
 (qT (.cond (.t 152) .skip (.exit 6))
 (qT (.block 7 (qS [qi 153 1 149 151, ql 154 1 153, qm 16 154]
 (.opsT (.node 2 8 (.node 3 8 (.node 4 8 (.node 5 8 (.leaf [0, 1, 2, 3, 4, 5, 6, 7, 8, 9, 10, 11, 12, 13, 14]) (.leaf [0, 1, 2, 3, 4, 6, 7, 8, 5, 9, 10, 11, 12, 13, 14])) (.leaf [0, 1, 2, 3, 6, 7, 8, 4, 5, 9, 10, 11, 12, 13, 14])) (.leaf [0, 1, 2, 6, 7, 8, 3, 4, 5, 9, 10, 11, 12, 13, 14])) (.leaf [0, 1, 6, 7, 8, 2, 3, 4, 5, 9, 10, 11, 12, 13, 14])) [qm 155 0, qm 156 0, qq 157 (.nilck (.t 156)), qf 158 1 157, qf 159 3 158, ql 160 1 159, qm 161 0, qm 162 16, qq 163 (.call (.s [833288, 844866, 844930, 844994, 845063]) (.c (.fn 116 [])) [.t 161, .t 162]), qq 164 (.bsl 7 [.t 163]), qq 165 (.append 7 144 60 (.t 160) (.t 164)), qq 166 (.nilck (.t 155)), qf 167 1 166, qf 168 3 167, qs 1 168 165])))
 (.ops [qv 169 .add [] 151 1, qm 151 169])))))))
 (qS [qm 170 0, qm 171 0, qm 172 0, qm 173 2, qm 174 14, qv 175 .sub [] 174 2, qi 176 1 173 175, ql 177 1 176, qq 178 (.call (.s [833288, 844866, 844930, 844994, 845063]) (.c (.fn 109 [])) [.t 172, .t 177, .c (.str [105, 110, 105, 116])]), qq 179 (.call (.s [833288, 844866, 844930, 844994, 845063]) (.c (.fn 117 [])) [.t 171, .t 178]), qq 180 (.nilck (.t 170)), qf 181 1 180, qf 182 4 181, qs 1 182 179]
 (.ops [qm 183 0, qm 184 0, qm 185 0, qm 186 2, qm 187 14, qv 188 .sub [] 187 1, qi 189 1 186 188, ql 190 1 189, qq 191 (.call (.s [833288, 844866, 844930, 844994, 845063]) (.c (.fn 109 [])) [.t 185, .t 190, .c (.str [103, 111, 97, 108])]), qq 192 (.call (.s [833288, 844866, 844930, 844994, 845063]) (.c (.fn 118 [])) [.t 184, .t 191]), qq 193 (.nilck (.t 183)), qf 194 1 193, qf 195 5 194, qs 1 195 192])))))))))
def r_domain_reader_domain : List RVar := []
def n_domain_reader_domain : Nat := 196
theorem k_domain_reader_domain : chkFn PG 58 n_domain_reader_domain r_domain_reader_domain c_domain_reader_domain = true := by kernel_rfl
theorem ct_rdomain (L : List Sx) (hL : RdOk L) (G : Type) (H : HT G) (g : G) : Cc PG H 58 [.bptr 833288 0] RNS (stOf (rdS L ⟨[], [], [], [], [], []⟩ true)) g
  fun v σ' g' => (v = .tup [] ∧ ∃ d', σ' = stOf (rdS L d' (domX L (secX L))) ∧ (domX L (secX L) = true → d' = rDom L (secX L))) ∧ g' = g := by
 have hN := ct_named L hL ⟨[], [], [], [], [], []⟩ true (rootX L) (root_ix hL) sDomain G H g
 have hcx := nm_ix hL (root_ix hL) sDomain
 have hll := hL.len
 have hlp := hL.pos
 rw [Bool.true_and] at hN
 refine CT.step _ mixed k_domain_reader_domain (fun nm hnm => stOf_mem _ nm hnm) fun hM => ?_
 repeat (first | refine i_len rfl ?_ | refine i_s rfl ?_ | refine sw ?_ | refine jb rfl rfl ?_)
 refine i_cs rfl rfl rfl rfl hN ?_
 rintro _ _ g ⟨⟨rfl, rfl⟩, rfl⟩
 clear hN
 show WI _ _ _ (ctPost _ _ fun v σ' g' => (v = .tup [] ∧ ∃ d', σ' = stOf (rdS L d' (domX L (secX L))) ∧ (domX L (secX L) = true → d' = rDom L (secX L))) ∧ g' = _) _ _ _ _ _
 have eD : domX L (secX L) = ((decide (5 ≤ (secX L).length) && !(nmV L (at8 (secX L) 2) sPredicates).any (emX L)) && (rGo L (secX L)).2) := rfl
 generalize domX L (secX L) = dX at *
 have hcx : Ixs L (secX L) := hcx
 have hsx : nmV L (rootX L) sDomain = secX L := rfl
 rw [hsx]
 generalize secX L = c at *
 clear hsx
 have hcl := hcx.1
 by_cases h5 : c.length < 5
 · have e : dX = false := by rw [eD, decide_eq_false (by omega)]; rfl
   subst e
   have hF := ct_fail L ⟨[], [], [], [], [], []⟩ (nmG L (rootX L) sDomain) G H g
   repeat' (first | refine i_len rfl ?_ | refine i_s rfl ?_ | refine sw ?_ | refine c_cond rfl (fun h => ?_) (fun h => ?_))
   all_goals first
    | (exfalso; clear hF; simp at *; omega)
    | skip
   refine i_cs rfl rfl rfl rfl hF ?_
   rintro _ _ g ⟨⟨rfl, rfl⟩, rfl⟩
   repeat' (first | refine sw ?_ | fail)
   exact e_ret ⟨rfl, _, rfl, rfl, rfl, ⟨rfl, _, restr_stOf _ _, fun h => by cases h⟩, rfl⟩
 rw [decide_eq_true (by omega), Bool.true_and] at eD
 obtain ⟨i0, x0⟩ := at8_ix hcx (k := 0) (by omega)
 obtain ⟨i1, x1⟩ := at8_ix hcx (k := 1) (by omega)
 obtain ⟨i2, x2⟩ := at8_ix hcx (k := 2) (by omega)
 obtain ⟨in2, xn2⟩ := at8_ix hcx (k := c.length - 2) (by omega)
 obtain ⟨in1, xn1⟩ := at8_ix hcx (k := c.length - 1) (by omega)
 have x0 : c[(0 : Int).toNat]? = some (at8 c 0) := x0
 have x1 : c[(1 : Int).toNat]? = some (at8 c 1) := x1
 have x2 : c[(2 : Int).toNat]? = some (at8 c 2) := x2
 have xn2 : c[((c.length : Int) - 2).toNat]? = some (at8 c (c.length - 2)) := by rw [show ((c.length : Int) - 2).toNat = c.length - 2 by omega]; exact xn2
 have xn1 : c[((c.length : Int) - 1).toNat]? = some (at8 c (c.length - 1)) := by rw [show ((c.length : Int) - 1).toNat = c.length - 1 by omega]; exact xn1
 have eO : rOb L c = (nmV L (at8 c 1) sObjects).foldl (obF (rTy L c).1 L) ([], (rTy L c).2 && nmG L (at8 c 1) sObjects) := rfl
 have eP : rPr L c = (nmV L (at8 c 2) sPredicates).foldl (prF (rTy L c).1 L) ([], (rOb L c).2 && nmG L (at8 c 2) sPredicates) := rfl
 have e3 : rD3 L c = ⟨(rTy L c).1, (rOb L c).1, (rPr L c).1, [], [], []⟩ := rfl
 have eS : rSc L c = ((c.take (c.length - 2)).drop 3).foldl (scF (rD3 L c) L) ([], (rPr L c).2) := rfl
 have eI1 : (rIn L c).1 = (nmV L (at8 c (c.length - 2)) sInit).map (atmV (rD3 L c) L) := rfl
 have eI2 : (rIn L c).2 = (((rSc L c).2 && nmG L (at8 c (c.length - 2)) sInit) && (nmV L (at8 c (c.length - 2)) sInit).all (atmG (rD3 L c) L)) := rfl
 have eG1 : (rGo L c).1 = (nmV L (at8 c (c.length - 1)) sGoal).map (lltV (rD3 L c) L) := rfl
 have eG2 : (rGo L c).2 = (((rIn L c).2 && nmG L (at8 c (c.length - 1)) sGoal) && (nmV L (at8 c (c.length - 1)) sGoal).all (lltG (rD3 L c) L)) := rfl
 have eR : rDom L c = ⟨(rTy L c).1, (rOb L c).1, (rPr L c).1, (rSc L c).1, (rIn L c).1, (rGo L c).1⟩ := rfl
 generalize rDom L c = R at *
 have hT := ct_named L hL ⟨[], [], [], [], [], []⟩ (nmG L (rootX L) sDomain) (at8 c 0) i0 sTypes G H
 have eT : rTy L c = (nmV L (at8 c 0) sTypes).foldl (tyF L) ([], nmG L (rootX L) sDomain && nmG L (at8 c 0) sTypes) := rfl
 have hlT := nm_ix hL i0 sTypes
 generalize nmV L (at8 c 0) sTypes = lT at *
 generalize (nmG L (rootX L) sDomain && nmG L (at8 c 0) sTypes) = bT at *
 repeat' (first | refine i_len rfl ?_ | refine i_s rfl ?_ | refine sw ?_ | refine jd rfl rfl ?_ | refine c_cond rfl (fun h => ?_) (fun h => ?_))
 all_goals first
  | (exfalso; clear hT; simp at *; done)
  | (exfalso; clear hT; simp at *; omega)
  | skip
 refine i_cs rfl rfl rfl rfl (hT _) ?_
 rintro _ _ g ⟨⟨rfl, rfl⟩, rfl⟩
 clear hT
 repeat' (first | refine i_len rfl ?_ | refine i_s rfl ?_ | refine sw ?_ | fail)
 have hlen := hlT.1
 refine c_for lT.length (fun k => [(0, .bptr bxx 0), (2, .sl .p (c.map i64V)), (34, .sl .p (lT.map i64V)), (35, .int .i64 lT.length), (36, .int .i64 k)])
  (fun k => rdS L ⟨((lT.take k).foldl (tyF L) ([], bT)).1, [], [], [], [], []⟩ ((lT.take k).foldl (tyF L) ([], bT)).2) (fun _ => True) trivial ⟨⟨rfl, rfl, rfl, rfl, rfl, trivial⟩, ⟨rfl, rfl, rfl, rfl, rfl, trivial⟩, rfl⟩ fun k hk _ => ?_
 have hfl := fold_len (tyF_len L) (lT.take k) ([], bT)
 simp only [List.length_nil, Nat.zero_add, List.length_take] at hfl
 by_cases hlt : k < lT.length
 · obtain ⟨x, hx⟩ := get_some hlt
   have hxi := hlT.2 x (mem_get hx)
   have e1 := foldl_take (tyF L) ([], bT) hx
   generalize (lT.take k).foldl (tyF L) ([], bT) = q at *
   obtain ⟨T, bk⟩ := q
   have hfl : T.length ≤ 1000 := by simp only at hfl; omega
   have hE := ct_exactly L hL ⟨T, [], [], [], [], []⟩ bk x hxi 2 (by omega) G H
   obtain ⟨hpx, hp2⟩ := ex_ix hL hxi (n := 2) (by omega)
   obtain ⟨j0, y0⟩ := at8_ix hpx (k := 0) (by omega)
   obtain ⟨j1, y1⟩ := at8_ix hpx (k := 1) (by omega)
   have y0 : (exV L x 2)[(0 : Int).toNat]? = some (p0 L x) := y0
   have y1 : (exV L x 2)[(1 : Int).toNat]? = some (p1 L x) := y1
   have hTy := ct_typeOf L ⟨T, [], [], [], [], []⟩ (by show T.length ≤ _; omega) (bk && exG L x 2) (p1 L x) j1 G H
   have hS := ct_rsymbol L ⟨T, [], [], [], [], []⟩ ((bk && exG L x 2) && typG T L (p1 L x)) (p0 L x) j0 G H
   have hTy : ∀ g, Cc PG H 112 [.bptr 833288 0, .int .i64 (p1 L x)] RNS (stOf (rdS L ⟨T, [], [], [], [], []⟩ (bk && exG L x 2))) g fun v σ' g' => (v = .int .i64 (typV T L (p1 L x)) ∧ σ' = stOf (rdS L ⟨T, [], [], [], [], []⟩ ((bk && exG L x 2) && typG T L (p1 L x)))) ∧ g' = g := hTy
   have e2 : tyF L (T, bk) x = (T ++ [⟨rSym L (p0 L x), typV T L (p1 L x)⟩], ((bk && exG L x 2) && typG T L (p1 L x)) && symG L (p0 L x)) := rfl
   rw [e2] at e1
   clear e2
   generalize (((bk && exG L x 2) && typG T L (p1 L x)) && symG L (p0 L x)) = b3 at *
   generalize ((bk && exG L x 2) && typG T L (p1 L x)) = b2 at *
   generalize (bk && exG L x 2) = b1 at *
   generalize typV T L (p1 L x) = pa at *
   generalize rSym L (p0 L x) = nme at *
   generalize p0 L x = q0 at *
   generalize p1 L x = q1 at *
   generalize exV L x 2 = p at *
   repeat' (first | refine i_s rfl ?_ | refine sw ?_ | refine jd rfl rfl ?_ | refine c_cond rfl (fun h => ?_) (fun h => ?_))
   all_goals first
    | (exfalso; clear hE hTy hS; simp at *; omega)
    | skip
   refine i_cs rfl rfl rfl rfl (hE _) ?_
   rintro _ _ g ⟨⟨rfl, rfl⟩, rfl⟩
   repeat (first | refine i_s rfl ?_ | refine sw ?_ | refine jd rfl rfl ?_)
   refine i_cs rfl rfl rfl rfl (hTy _) ?_
   rintro _ _ g ⟨⟨rfl, rfl⟩, rfl⟩
   repeat' (first | refine i_s rfl ?_ | refine sw ?_ | refine jd rfl rfl ?_ | refine c_node ?_ ?_)
   all_goals
    refine i_cs rfl rfl rfl rfl (hS _) ?_
    rintro _ _ g ⟨⟨rfl, rfl⟩, rfl⟩
    repeat refine i_s rfl ?_
    refine i_appM (c := (⟨nme, pa⟩ : Typ)) rfl rfl rfl rfl rfl (by dsimp only; omega) (by dsimp only; omega) ?_
    repeat (first | refine i_s rfl ?_ | refine sw ?_ | refine ja rfl rfl ?_ | refine i_stb rfl ?_)
    refine e_for hlt trivial ⟨⟨rfl, rfl, rfl, rfl, rfl, trivial⟩, ⟨?_, ?_, rfl, rfl, rfl, trivial⟩, rfl⟩
    · rw [e1]; rfl
    · rw [e1]; simp; rfl
 have hge : k = lT.length := by omega
 subst hge
 rw [List.take_length] at hfl ⊢
 rw [← eT] at hfl ⊢
 have hTl : (rTy L c).1.length ≤ 1000 := by omega
 clear hfl eT
 generalize rTy L c = qT at *
 obtain ⟨T, bT1⟩ := qT
 simp only at eO eP e3 eR hTl
 have hO := ct_named L hL ⟨T, [], [], [], [], []⟩ bT1 (at8 c 1) i1 sObjects G H
 have hlO := nm_ix hL i1 sObjects
 generalize nmV L (at8 c 1) sObjects = lO at *
 generalize (bT1 && nmG L (at8 c 1) sObjects) = bO at *
 repeat' (first | refine i_s rfl ?_ | refine sw ?_ | refine jd rfl rfl ?_ | refine c_cond rfl (fun h => ?_) (fun h => ?_))
 all_goals first
  | (exfalso; clear hO; simp at *; done)
  | (exfalso; clear hO; simp at *; omega)
  | skip
 refine i_cs rfl rfl rfl rfl (hO _) ?_
 rintro _ _ g ⟨⟨rfl, rfl⟩, rfl⟩
 clear hO
 repeat' (first | refine i_len rfl ?_ | refine i_s rfl ?_ | refine sw ?_ | fail)
 have hlenO := hlO.1
 refine c_for lO.length (fun k => [(0, .bptr bxx 0), (2, .sl .p (c.map i64V)), (71, .sl .p (lO.map i64V)), (72, .int .i64 lO.length), (73, .int .i64 k)])
  (fun k => rdS L ⟨T, ((lO.take k).foldl (obF T L) ([], bO)).1, [], [], [], []⟩ ((lO.take k).foldl (obF T L) ([], bO)).2) (fun _ => True) trivial ⟨⟨rfl, rfl, rfl, rfl, rfl, trivial⟩, ⟨rfl, rfl, rfl, rfl, rfl, trivial⟩, rfl⟩ fun k hk _ => ?_
 have hfl := fold_len (obF_len T L) (lO.take k) ([], bO)
 simp only [List.length_nil, Nat.zero_add, List.length_take] at hfl
 by_cases hlt : k < lO.length
 · obtain ⟨x, hx⟩ := get_some hlt
   have hxi := hlO.2 x (mem_get hx)
   have e1 := foldl_take (obF T L) ([], bO) hx
   generalize (lO.take k).foldl (obF T L) ([], bO) = q at *
   obtain ⟨O, bk⟩ := q
   have hfl : O.length ≤ 1000 := by simp only at hfl; omega
   have hE := ct_exactly L hL ⟨T, O, [], [], [], []⟩ bk x hxi 2 (by omega) G H
   obtain ⟨hpx, hp2⟩ := ex_ix hL hxi (n := 2) (by omega)
   obtain ⟨j0, y0⟩ := at8_ix hpx (k := 0) (by omega)
   obtain ⟨j1, y1⟩ := at8_ix hpx (k := 1) (by omega)
   have y0 : (exV L x 2)[(0 : Int).toNat]? = some (p0 L x) := y0
   have y1 : (exV L x 2)[(1 : Int).toNat]? = some (p1 L x) := y1
   have hS := ct_rsymbol L ⟨T, O, [], [], [], []⟩ ((bk && exG L x 2) && typG T L (p1 L x)) (p0 L x) j0 G H
   have hTy : ∀ g, Cc PG H 112 [.bptr 833288 0, .int .i64 (p1 L x)] RNS (stOf (rdS L ⟨T, O, [], [], [], []⟩ (bk && exG L x 2))) g fun v σ' g' => (v = .int .i64 (typV T L (p1 L x)) ∧ σ' = stOf (rdS L ⟨T, O, [], [], [], []⟩ ((bk && exG L x 2) && typG T L (p1 L x)))) ∧ g' = g := ct_typeOf L ⟨T, O, [], [], [], []⟩ (by show T.length ≤ _; omega) (bk && exG L x 2) (p1 L x) j1 G H
   have e2 : obF T L (O, bk) x = (O ++ [⟨rSym L (p0 L x), typV T L (p1 L x)⟩], ((bk && exG L x 2) && typG T L (p1 L x)) && symG L (p0 L x)) := rfl
   rw [e2] at e1
   clear e2
   generalize (((bk && exG L x 2) && typG T L (p1 L x)) && symG L (p0 L x)) = b3 at *
   generalize ((bk && exG L x 2) && typG T L (p1 L x)) = b2 at *
   generalize (bk && exG L x 2) = b1 at *
   generalize typV T L (p1 L x) = pa at *
   generalize rSym L (p0 L x) = nme at *
   generalize p0 L x = q0 at *
   generalize p1 L x = q1 at *
   generalize exV L x 2 = p at *
   repeat' (first | refine i_s rfl ?_ | refine sw ?_ | refine jd rfl rfl ?_ | refine c_cond rfl (fun h => ?_) (fun h => ?_))
   all_goals first
    | (exfalso; clear hE hTy hS; simp at *; omega)
    | skip
   refine i_cs rfl rfl rfl rfl (hE _) ?_
   rintro _ _ g ⟨⟨rfl, rfl⟩, rfl⟩
   repeat (first | refine i_s rfl ?_ | refine sw ?_ | refine jd rfl rfl ?_)
   refine i_cs rfl rfl rfl rfl (hTy _) ?_
   rintro _ _ g ⟨⟨rfl, rfl⟩, rfl⟩
   repeat' (first | refine i_s rfl ?_ | refine sw ?_ | refine jd rfl rfl ?_ | refine c_node ?_ ?_)
   all_goals
    refine i_cs rfl rfl rfl rfl (hS _) ?_
    rintro _ _ g ⟨⟨rfl, rfl⟩, rfl⟩
    repeat refine i_s rfl ?_
    refine i_appM (c := (⟨nme, pa⟩ : Obj)) rfl rfl rfl rfl rfl (by dsimp only; omega) (by dsimp only; omega) ?_
    repeat (first | refine i_s rfl ?_ | refine sw ?_ | refine ja rfl rfl ?_ | refine i_stb rfl ?_)
    refine e_for hlt trivial ⟨⟨rfl, rfl, rfl, rfl, rfl, trivial⟩, ⟨?_, rfl, ?_, rfl, rfl, trivial⟩, rfl⟩
    · rw [e1]; rfl
    · rw [e1]; simp; rfl
 have hge : k = lO.length := by omega
 subst hge
 rw [List.take_length] at hfl ⊢
 rw [← eO] at hfl ⊢
 have hOl : (rOb L c).1.length ≤ 1000 := by omega
 clear hfl eO
 generalize rOb L c = qO at *
 obtain ⟨O, bO1⟩ := qO
 simp only at eP e3 eR hOl
 have hP := ct_named L hL ⟨T, O, [], [], [], []⟩ bO1 (at8 c 2) i2 sPredicates G H
 have hlP := nm_ix hL i2 sPredicates
 generalize nmV L (at8 c 2) sPredicates = lP at *
 generalize (bO1 && nmG L (at8 c 2) sPredicates) = bP at *
 repeat' (first | refine i_s rfl ?_ | refine sw ?_ | refine jd rfl rfl ?_ | refine c_cond rfl (fun h => ?_) (fun h => ?_))
 all_goals first
  | (exfalso; clear hP; simp at *; done)
  | (exfalso; clear hP; simp at *; omega)
  | skip
 refine i_cs rfl rfl rfl rfl (hP _) ?_
 rintro _ _ g ⟨⟨rfl, rfl⟩, rfl⟩
 clear hP
 repeat' (first | refine i_len rfl ?_ | refine i_s rfl ?_ | refine sw ?_ | fail)
 have hlenP := hlP.1
 refine c_for lP.length (fun k => [(0, .bptr bxx 0), (2, .sl .p (c.map i64V)), (108, .sl .p (lP.map i64V)), (109, .int .i64 lP.length), (110, .int .i64 k)])
  (fun k => rdS L ⟨T, O, ((lP.take k).foldl (prF T L) ([], bP)).1, [], [], []⟩ ((lP.take k).foldl (prF T L) ([], bP)).2) (fun k => ∀ j, j < k → ∀ c, lP[j]? = some c → emX L c = false) all_zero ⟨⟨rfl, rfl, rfl, rfl, rfl, trivial⟩, ⟨rfl, rfl, rfl, rfl, rfl, trivial⟩, rfl⟩ fun k hk hinv => ?_
 have hfl := fold_len (prF_len T L) (lP.take k) ([], bP)
 simp only [List.length_nil, Nat.zero_add, List.length_take] at hfl
 by_cases hlt : k < lP.length
 · obtain ⟨x, hx⟩ := get_some hlt
   have hxi := hlP.2 x (mem_get hx)
   have e1 := foldl_take (prF T L) ([], bP) hx
   have hch := ch_ix hL hxi
   generalize (lP.take k).foldl (prF T L) ([], bP) = q at *
   obtain ⟨Q, bk⟩ := q
   have hfl : Q.length ≤ 1000 := by simp only at hfl; omega
   have hE := ct_rchildren L ⟨T, O, Q, [], [], []⟩ bk x hxi G H
   cases hc : rCh L x with
   | nil =>
    have hem : emX L x = true := by unfold emX; rw [hc]; rfl
    have hany : lP.any (emX L) = true := List.any_eq_true.2 ⟨x, mem_get hx, hem⟩
    have e : dX = false := by rw [eD, hany]; rfl
    subst e
    rw [hc] at hE
    have hF := ct_fail L ⟨T, O, Q, [], [], []⟩ (bk && chG L x) G H
    repeat' (first | refine i_len rfl ?_ | refine i_s rfl ?_ | refine sw ?_ | refine jb rfl rfl ?_ | refine jd rfl rfl ?_ | refine c_cond rfl (fun h => ?_) (fun h => ?_))
    all_goals first
     | (exfalso; clear hE hF hinv; simp at *; omega)
     | skip
    refine i_cs rfl rfl rfl rfl (hE _) ?_
    rintro _ _ g ⟨⟨rfl, rfl⟩, rfl⟩
    repeat' (first | refine i_len rfl ?_ | refine i_s rfl ?_ | refine sw ?_ | refine c_t rfl ?_)
    all_goals first
     | (exfalso; clear hE hF hinv; simp at *; done)
     | skip
    refine i_cs rfl rfl rfl rfl (hF _) ?_
    rintro _ _ g ⟨⟨rfl, rfl⟩, rfl⟩
    repeat' (first | refine sw ?_ | fail)
    exact e_ret ⟨rfl, _, rfl, rfl, rfl, ⟨rfl, _, restr_stOf _ _, fun h => by cases h⟩, rfl⟩
   | cons a r =>
    have hem : emX L x = false := by unfold emX; rw [hc]; rfl
    have hinv2 : ∀ j, j < k + 1 → ∀ c, lP[j]? = some c → emX L c = false := all_succ hinv fun c' hc' => by
     rw [hx] at hc'
     cases hc'
     exact hem
    rw [hc] at hE hch
    obtain ⟨ha, hr⟩ := hch.tail
    have hx0 : (a :: r)[(0 : Int).toNat]? = some a := rfl
    have hrl := hr.1
    have hS := ct_rsymbol L ⟨T, O, Q, [], [], []⟩ (bk && chG L x) a ha G H
    have hTL : ∀ g, Cc PG H 115 [.bptr 833288 0, .sl .p (r.map i64V)] RNS (stOf (rdS L ⟨T, O, Q, [], [], []⟩ ((bk && chG L x) && symG L a))) g fun v σ' g' => (v = .sl .p ((r.map (typV T L)).map i64V) ∧ σ' = stOf (rdS L ⟨T, O, Q, [], [], []⟩ (((bk && chG L x) && symG L a) && r.all (typG T L)))) ∧ g' = g := ct_typeList L ⟨T, O, Q, [], [], []⟩ (by show T.length ≤ _; omega) ((bk && chG L x) && symG L a) r hr G H
    have e2 : prF T L (Q, bk) x = (Q ++ [⟨rSym L a, r.map (typV T L)⟩], ((bk && chG L x) && symG L a) && r.all (typG T L)) := by unfold prF; rw [hc]
    rw [e2] at e1
    clear e2 hinv
    generalize (((bk && chG L x) && symG L a) && r.all (typG T L)) = b3 at *
    generalize ((bk && chG L x) && symG L a) = b2 at *
    generalize (bk && chG L x) = b1 at *
    generalize r.map (typV T L) = ts at *
    generalize rSym L a = nme at *
    repeat' (first | refine i_len rfl ?_ | refine i_s rfl ?_ | refine sw ?_ | refine jb rfl rfl ?_ | refine jd rfl rfl ?_ | refine c_cond rfl (fun h => ?_) (fun h => ?_))
    all_goals first
     | (exfalso; clear hE hS hTL hinv2; simp at *; omega)
     | skip
    refine i_cs rfl rfl rfl rfl (hE _) ?_
    rintro _ _ g ⟨⟨rfl, rfl⟩, rfl⟩
    clear hE
    repeat' (first | refine i_len rfl ?_ | refine i_s rfl ?_ | refine sw ?_ | refine c_f rfl ?_ | refine jd rfl rfl ?_ | refine c_node ?_ ?_)
    all_goals first
     | (exfalso; clear hS hTL hinv2; simp at *; omega)
     | skip
    all_goals
     try (refine i_sl rfl rfl (by omega) (by simp; omega) (.inr (by simp [i64V, V.cells])) ?_)
     skip
     refine i_cs rfl rfl rfl rfl (hS _) ?_
     rintro _ _ g ⟨⟨rfl, rfl⟩, rfl⟩
     repeat refine i_s rfl ?_
     try (refine i_sl rfl rfl (by omega) (by simp; omega) (.inr (by simp [i64V, V.cells])) ?_)
     skip
     refine i_cs rfl rfl rfl rfl (hTL _) ?_
     rintro _ _ g ⟨⟨rfl, rfl⟩, rfl⟩
     repeat refine i_s rfl ?_
     refine i_appM (c := (⟨nme, ts⟩ : Prd)) rfl rfl rfl rfl rfl (by dsimp only; omega) (by dsimp only; omega) ?_
     repeat (first | refine i_s rfl ?_ | refine sw ?_ | refine ja rfl rfl ?_ | refine i_stb rfl ?_)
     refine e_for hlt hinv2 ⟨⟨rfl, rfl, rfl, rfl, rfl, trivial⟩, ⟨?_, rfl, rfl, ?_, rfl, trivial⟩, rfl⟩
     · rw [e1]; rfl
     · rw [e1]; simp; rfl
 have hge : k = lP.length := by omega
 subst hge
 rw [List.take_length] at hfl ⊢
 rw [← eP] at hfl ⊢
 have hPl : (rPr L c).1.length ≤ 1000 := by omega
 have hany : lP.any (emX L) = false := by
  rw [List.any_eq_false]
  intro a ha
  obtain ⟨j, hj⟩ := List.getElem?_of_mem ha
  rw [hinv j (get_lt hj) a hj]
  simp
 rw [hany] at eD
 have eD : dX = (rGo L c).2 := eD
 clear hfl eP hinv hany
 generalize rPr L c = qP at *
 obtain ⟨Q, bP1⟩ := qP
 simp only at eS e3 eR hPl
 rw [e3] at eS eI1 eI2 eG1 eG2
 clear e3
 have eL : ((c.map i64V).take ((c.length : Int) - 2).toNat).drop (3 : Int).toNat = ((c.take (c.length - 2)).drop 3).map i64V := by
  rw [show ((c.length : Int) - 2).toNat = c.length - 2 by omega, List.map_drop, List.map_take]; rfl
 have hlS : Ixs L ((c.take (c.length - 2)).drop 3) := ⟨by simp; omega, fun i hi => hcx.2 i (List.mem_of_mem_take (List.mem_of_mem_drop hi))⟩
 generalize (c.take (c.length - 2)).drop 3 = lS at *
 repeat' (first | refine i_len rfl ?_ | refine i_s rfl ?_ | refine sw ?_ | refine jb rfl rfl ?_ | refine c_cond rfl (fun h => ?_) (fun h => ?_))
 all_goals first
  | (exfalso; simp at *; done)
  | (exfalso; simp at *; omega)
  | skip
 refine i_slh (k1 := .i64) (k2 := .i64) (m := 3) (n := (c.length : Int) - 2) rfl rfl rfl (by omega) (by omega) (by simp; omega) (.inr (by simp [i64V, V.cells])) ?_
 rw [eL]
 repeat' (first | refine i_len rfl ?_ | refine i_s rfl ?_ | refine sw ?_ | fail)
 have hlenS := hlS.1
 refine c_for lS.length (fun k => [(0, .bptr bxx 0), (2, .sl .p (c.map i64V)), (14, .int .i64 c.length), (149, .sl .p (lS.map i64V)), (150, .int .i64 lS.length), (151, .int .i64 k)])
  (fun k => rdS L ⟨T, O, Q, ((lS.take k).foldl (scF ⟨T, O, Q, [], [], []⟩ L) ([], bP1)).1, [], []⟩ ((lS.take k).foldl (scF ⟨T, O, Q, [], [], []⟩ L) ([], bP1)).2) (fun _ => True) trivial ft fun k hk _ => ?_
 have hfl := fold_len (scF_len ⟨T, O, Q, [], [], []⟩ L) (lS.take k) ([], bP1)
 simp only [List.length_nil, Nat.zero_add, List.length_take] at hfl
 by_cases hlt : k < lS.length
 · obtain ⟨x, hx⟩ := get_some hlt
   have hxi := hlS.2 x (mem_get hx)
   have e1 := foldl_take (scF ⟨T, O, Q, [], [], []⟩ L) ([], bP1) hx
   generalize (lS.take k).foldl (scF ⟨T, O, Q, [], [], []⟩ L) ([], bP1) = q at *
   obtain ⟨S, bk⟩ := q
   have hfl : S.length ≤ 1000 := by simp only at hfl; omega
   have hC : ∀ g, Cc PG H 116 [.bptr 833288 0, .int .i64 x] RNS (stOf (rdS L ⟨T, O, Q, S, [], []⟩ bk)) g fun v σ' g' => (v = schV (schX ⟨T, O, Q, [], [], []⟩ L x bk) ∧ σ' = stOf (rdS L ⟨T, O, Q, S, [], []⟩ (schK ⟨T, O, Q, [], [], []⟩ L x bk))) ∧ g' = g := by
    have h := ct_rschema L hL ⟨T, O, Q, S, [], []⟩ ⟨by show T.length ≤ _; omega, by show O.length ≤ _; omega, by show Q.length ≤ _; omega, by show S.length ≤ _; omega⟩ bk x hxi G H
    obtain ⟨h1, h2⟩ := schX_same (d := ⟨T, O, Q, S, [], []⟩) (e := ⟨T, O, Q, [], [], []⟩) rfl rfl rfl L x bk
    rw [h1, h2] at h
    exact h
   have e2 : scF ⟨T, O, Q, [], [], []⟩ L (S, bk) x = (S ++ [schX ⟨T, O, Q, [], [], []⟩ L x bk], schK ⟨T, O, Q, [], [], []⟩ L x bk) := rfl
   rw [e2] at e1
   clear e2
   generalize schX ⟨T, O, Q, [], [], []⟩ L x bk = sx at *
   generalize schK ⟨T, O, Q, [], [], []⟩ L x bk = b1 at *
   repeat' (first | refine i_s rfl ?_ | refine sw ?_ | refine jb rfl rfl ?_ | refine jd rfl rfl ?_ | (refine sp ?_ ?_ <;> try intro h) | fail)
   all_goals first
    | (exfalso; clear hC; simp at *; omega)
    | skip
   all_goals
    refine i_cs rfl rfl rfl rfl (hC _) ?_
    rintro _ _ g ⟨⟨rfl, rfl⟩, rfl⟩
    repeat refine i_s rfl ?_
    refine i_appM (c := sx) rfl rfl rfl rfl rfl (by dsimp only; omega) (by dsimp only; omega) ?_
    repeat (first | refine i_s rfl ?_ | refine sw ?_ | refine ja rfl rfl ?_ | refine i_stb rfl ?_)
    refine e_for hlt trivial ⟨⟨rfl, rfl, rfl, rfl, rfl, rfl, trivial⟩, ⟨?_, rfl, rfl, rfl, ?_, trivial⟩, rfl⟩
    · rw [e1]; rfl
    · rw [e1]; simp; rfl
 have hge : k = lS.length := by omega
 subst hge
 rw [List.take_length] at hfl ⊢
 rw [← eS] at hfl ⊢
 have hSl : (rSc L c).1.length ≤ 1000 := by omega
 clear hfl eS eL
 generalize rSc L c = qS at *
 obtain ⟨S, bS⟩ := qS
 simp only at eI2 eR hSl
 have hd : RdD ⟨T, O, Q, S, [], []⟩ := ⟨by show T.length ≤ _; omega, by show O.length ≤ _; omega, by show Q.length ≤ _; omega, by show S.length ≤ _; omega⟩
 have hN := ct_named L hL ⟨T, O, Q, S, [], []⟩ bS (at8 c (c.length - 2)) in2 sInit G H
 have hA := ct_atomList L hL ⟨T, O, Q, S, [], []⟩ hd (bS && nmG L (at8 c (c.length - 2)) sInit) (nmV L (at8 c (c.length - 2)) sInit) (nm_ix hL in2 _) G H
 obtain ⟨s1, s2⟩ := atmV_same (d := ⟨T, O, Q, S, [], []⟩) (e := ⟨T, O, Q, [], [], []⟩) rfl rfl L
 rw [s1, s2, ← eI1, ← eI2] at hA
 clear s1 s2 eI1 eI2 hd
 generalize rIn L c = qI at *
 obtain ⟨I, bI⟩ := qI
 simp only at eG2 eR hA
 have hd : RdD ⟨T, O, Q, S, I, []⟩ := ⟨by show T.length ≤ _; omega, by show O.length ≤ _; omega, by show Q.length ≤ _; omega, by show S.length ≤ _; omega⟩
 have hN2 := ct_named L hL ⟨T, O, Q, S, I, []⟩ bI (at8 c (c.length - 1)) in1 sGoal G H
 have hA2 := ct_literalList L hL ⟨T, O, Q, S, I, []⟩ hd (bI && nmG L (at8 c (c.length - 1)) sGoal) (nmV L (at8 c (c.length - 1)) sGoal) (nm_ix hL in1 _) G H
 obtain ⟨s1, s2⟩ := lltV_same (d := ⟨T, O, Q, S, I, []⟩) (e := ⟨T, O, Q, [], [], []⟩) rfl rfl L
 rw [s1, s2, ← eG1, ← eG2] at hA2
 clear s1 s2 eG1 eG2 hd
 generalize rGo L c = qG at *
 obtain ⟨Gl, bG⟩ := qG
 simp only at eD eR hA2
 repeat' (first | refine i_s rfl ?_ | refine sw ?_ | refine jb rfl rfl ?_ | refine jd rfl rfl ?_ | refine c_cond rfl (fun h => ?_) (fun h => ?_))
 all_goals first
  | (exfalso; clear hN hA hN2 hA2; simp at *; done)
  | (exfalso; clear hN hA hN2 hA2; simp at *; omega)
  | skip
 refine i_cs rfl rfl rfl rfl (hN _) ?_
 rintro _ _ g ⟨⟨rfl, rfl⟩, rfl⟩
 skip
 refine i_cs rfl rfl rfl rfl (hA _) ?_
 rintro _ _ g ⟨⟨rfl, rfl⟩, rfl⟩
 repeat (first | refine i_s rfl ?_ | refine sw ?_ | refine jb rfl rfl ?_ | refine jd rfl rfl ?_ | refine i_stb rfl ?_)
 refine i_cs rfl rfl rfl rfl (hN2 _) ?_
 rintro _ _ g ⟨⟨rfl, rfl⟩, rfl⟩
 skip
 refine i_cs rfl rfl rfl rfl (hA2 _) ?_
 rintro _ _ g ⟨⟨rfl, rfl⟩, rfl⟩
 repeat (first | refine i_s rfl ?_ | refine sw ?_ | refine i_stb rfl ?_)
 subst eD
 exact e_end ⟨rfl, _, rfl, rfl, rfl, ⟨rfl, ⟨T, O, Q, S, I, Gl⟩, restr_stOf _ _, fun _ => eR.symm⟩, rfl⟩
def rdN : V := .bptr 960259 0
def rdSx (t s : List UInt8) (ns : List Sx) : List (Nat × Blk) := [(960259, .box (.agg [.str t, .int .i64 ((t.length : Int) - s.length), .sl (.own 962690) (ns.map sxV)])), (962690, .vec ns.length)]
theorem rd_eq {σ : Store} {t s : List UInt8} {ns : List Sx} (h1 : σ 960259 = .box (.agg [.str t, .int .i64 ((t.length : Int) - s.length), .sl (.own 962690) (ns.map sxV)])) (h2 : σ 962690 = .vec ns.length)
  (hpn : ∀ nm, σ nm ≠ .unused → nm ∈ [960259, 962690]) : σ = stOf (rdSx t s ns) := by
 funext k
 simp only [stOf, rdSx]
 cases e1 : Nat.beq k 960259 with
 | true => rw [Nat.eq_of_beq_eq_true e1]; exact h1
 | false =>
  cases e2 : Nat.beq k 962690 with
  | true => rw [Nat.eq_of_beq_eq_true e2]; exact h2
  | false =>
   refine Classical.byContradiction fun h => ?_
   have := hpn k h
   simp only [List.mem_cons, List.not_mem_nil, or_false] at this
   rcases this with rfl | rfl
   · rw [Nat.beq_refl] at e1; cases e1
   · rw [Nat.beq_refl] at e2; cases e2
theorem at_succ {t r : List UInt8} (c : UInt8) : ((t.length : Int) - (c :: r).length) + 1 = (t.length : Int) - r.length := by simp only [List.length_cons]; omega
def c_sexpr_reader_blanks : Cmd :=
 (.block 0 (.loop (qT (qS [qm 2 0, qq 3 (.nilck (.t 2)), qf 4 1 3, ql 5 1 4, qm 6 0, qq 7 (.nilck (.t 6)), qf 8 0 7, ql 9 1 8, qq 10 (.len true (.t 9)), qu 11 .lss [] 5 10, qm 12 11, qg 13 12 true (.mov (.t 0)), qg 14 12 true (.nilck (.t 13)), qg 15 12 true (.faddr 0 (.t 14)), qg 16 12 true (.load false 1 (.t 15)), qg 17 12 true (.mov (.t 0)), qg 18 12 true (.nilck (.t 17)), qg 19 12 true (.faddr 1 (.t 18)), qg 20 12 true (.load false 1 (.t 19)), qg 21 12 true (.index (.t 16) (.t 20)), qg 22 12 true (.call .f (.c (.fn 121 [])) [.c (.str [32, 9, 10]), .t 21]), qg 23 12 true (.bin .geq false [] (.t 22) (.c (.int .i64 0))), qq 24 (.pick (.t 12) (.t 23) (.c (.bool false)))]
 (.cond (.t 24) .skip (.exit 0)))
 (.block 1 (.ops [qm 25 0, qq 26 (.nilck (.t 25)), qf 27 1 26, ql 28 1 27, qv 29 .add [] 28 1, qq 30 (.nilck (.t 25)), qf 31 1 30, qs 1 31 29])))))
def r_sexpr_reader_blanks : List RVar := []
def n_sexpr_reader_blanks : Nat := 32
theorem k_sexpr_reader_blanks : chkFn PG 64 n_sexpr_reader_blanks r_sexpr_reader_blanks c_sexpr_reader_blanks = true := by kernel_rfl
theorem ct_blanks {G : Type} {H : HT G} (t s : List UInt8) (ns : List Sx) (ht : t.length ≤ 100000) (hs : s <:+ t) (σ : Store) (hσ : σ = stOf (rdSx t s ns)) (g : G) :
  Cc PG H 64 [rdN] [960259, 962690] σ g fun r σ' g' => r = .tup [] ∧ σ' = stOf (rdSx t (sk s) ns) ∧ g' = g := by
 subst hσ
 refine CT.step _ mixed k_sexpr_reader_blanks (fun nm h => stOf_mem (rdSx t s ns) nm h) fun hM => ?_
 repeat refine sw ?_
 refine c_lp (ι := List UInt8) (fun u => [(0, rdN)]) (fun u => rdSx t u ns) (fun u => u <:+ t ∧ sk u = sk s) (fun u => u.length) s ⟨hs, rfl⟩ ⟨⟨rfl, trivial⟩, ⟨rfl, rfl, trivial⟩, rfl⟩ fun u hu => ?_
 obtain ⟨hu, hk⟩ := hu
 have hul := hu.length_le
 cases hc : u with
 | nil =>
  subst hc
  repeat' (first | refine i_s rfl ?_ | refine sw ?_ | refine i_gt rfl ?_ | refine i_gf rfl ?_ | refine c_f rfl ?_ | refine i_g rfl (fun h => ?_) (fun h => ?_))
  all_goals first
   | (exfalso; have := of_decide_eq_true h; simp at this; done)
   | skip
  refine e_end ⟨rfl, _, rfl, rfl, rfl, rfl, ?_, rfl⟩
  rw [← hk]
  exact rd_eq rfl rfl fun nm h => restr_mem nm h
 | cons c r =>
  subst hc
  have hg := suf_get hu rfl
  have hI := f_strings_IndexByte [32, 9, 10] c
  have hm := ix_mem [32, 9, 10] c
  generalize Lib.indexByte [32, 9, 10] c = ix at *
  have hr : r <:+ t := (List.suffix_cons c r).trans hu
  have hsucc := at_succ (t := t) (r := r) c
  have hlt : ((t.length : Int) - (c :: r).length) < t.length := by simp only [List.length_cons]; omega
  have h0 : 0 ≤ ((t.length : Int) - (c :: r).length) := by omega
  have hul2 : r.length < (c :: r).length := by simp
  cases hb : blankB c with
  | true =>
   have hix : ix ≥ 0 := by have : decide (ix ≥ 0) = true := hm.trans hb
                           exact of_decide_eq_true this
   rw [sk_cons hb] at hk
   repeat' (first | refine i_s rfl ?_ | refine sw ?_ | refine i_gt rfl ?_ | refine i_gf rfl ?_ | refine c_f rfl ?_ | refine ja rfl rfl ?_ | refine i_stb rfl ?_ | (refine sp ?_ ?_ <;> try intro h) | refine sf rfl rfl hI ?_ | refine i_ix rfl rfl h0 hg ?_)
   all_goals first
    | (exfalso; have := of_decide_eq_false h; omega)
    | skip
   refine e_lp r ⟨hr, hk⟩ hul2 ⟨⟨rfl, trivial⟩, ⟨?_, rfl, trivial⟩, rfl⟩
   rw [← hsucc]
   rfl
  | false =>
   have hix : ¬ ix ≥ 0 := by have : decide (ix ≥ 0) = false := hm.trans hb
                             exact of_decide_eq_false this
   rw [sk_stop hb] at hk
   repeat' (first | refine i_s rfl ?_ | refine sw ?_ | refine i_gt rfl ?_ | refine i_gf rfl ?_ | refine c_f rfl ?_ | refine ja rfl rfl ?_ | refine i_stb rfl ?_ | (refine sp ?_ ?_ <;> try intro h) | refine sf rfl rfl hI ?_ | refine i_ix rfl rfl h0 hg ?_)
   all_goals first
    | (exfalso; have := of_decide_eq_false h; omega)
    | (exfalso; have := of_decide_eq_true h; omega)
    | skip
   refine e_end ⟨rfl, _, rfl, rfl, rfl, rfl, ?_, rfl⟩
   rw [← hk]
   refine rd_eq ?_ rfl fun nm h => restr_mem nm h
   rfl
def ndR (b : Nat) (q : PR) : V := .tup [.int .i64 (if q.code = 0 then ((b + q.new.length : Nat) : Int) - 1 else 0), .int .i64 q.code]
def lsR (q : PR) : V := .tup [if q.code = 0 then .sl .p (q.ch.map i64V) else .sl .nil [], .int .i64 q.code]
theorem slice_suf {t w u : List UInt8} (h : (w ++ u) <:+ t) : (t.take ((t.length : Int) - u.length).toNat).drop ((t.length : Int) - (w ++ u).length).toNat = w := by
 obtain ⟨p, rfl⟩ := h
 rw [show (((p ++ (w ++ u)).length : Int) - u.length).toNat = (p ++ w).length from by simp; omega, show (((p ++ (w ++ u)).length : Int) - (w ++ u).length).toNat = p.length from by simp, ← List.append_assoc, List.take_left, List.drop_left]
def NodeC {G : Type} (H : HT G) (t : List UInt8) (f : Nat) : Prop := ∀ (d : Nat) (s : List UInt8) (ns : List Sx), d ≤ 12 → s <:+ t → ns.length + s.length ≤ 100000 → 2 * s.length + 1 ≤ f → ∀ (σ : Store), σ = stOf (rdSx t s ns) → ∀ g : G,
 Cc PG H 63 [rdN, .int .i64 d] [960259, 962690] σ g fun r σ' g' => r = ndR ns.length (prs f true d s ns.length []) ∧ σ' = stOf (rdSx t (prs f true d s ns.length []).rest (ns ++ (prs f true d s ns.length []).new)) ∧ g' = g
def ListC {G : Type} (H : HT G) (t : List UInt8) (f : Nat) : Prop := ∀ (d : Nat) (s : List UInt8) (ns : List Sx), d < 12 → (40 :: s) <:+ t → ns.length + s.length ≤ 100000 → 2 * s.length + 2 ≤ f → ∀ (σ : Store), σ = stOf (rdSx t (40 :: s) ns) → ∀ g : G,
 Cc PG H 120 [rdN, .int .i64 d] [960259, 962690] σ g fun r σ' g' => r = lsR (prs f false d s ns.length []) ∧ σ' = stOf (rdSx t (prs f false d s ns.length []).rest (ns ++ (prs f false d s ns.length []).new)) ∧ g' = g
theorem prs_close {f d b : Nat} {s r : List UInt8} {acc : List Int} (h : sk s = 41 :: r) : prs (f + 1) false d s b acc = ⟨r, [], acc, 0⟩ := by
 simp only [prs]
 rw [h]
 rfl
theorem prs_bad {f d b : Nat} {s : List UInt8} {acc : List Int} (h : (sk s).head? ≠ some 41) (hq : (prs f true (d + 1) (sk s) b []).code ≠ 0) : prs (f + 1) false d s b acc = ⟨(prs f true (d + 1) (sk s) b []).rest, (prs f true (d + 1) (sk s) b []).new, [], (prs f true (d + 1) (sk s) b []).code⟩ := by
 simp only [prs]
 rw [if_neg h, if_pos hq]
theorem prs_next {f d b : Nat} {s : List UInt8} {acc : List Int} (h : (sk s).head? ≠ some 41) (hq : (prs f true (d + 1) (sk s) b []).code = 0) (hf : 2 * (sk s).length + 1 ≤ f) :
  prs (f + 1) false d s b acc = ⟨(prs (f + 1) false d (prs f true (d + 1) (sk s) b []).rest (b + (prs f true (d + 1) (sk s) b []).new.length) (acc ++ [((b + (prs f true (d + 1) (sk s) b []).new.length : Nat) : Int) - 1])).rest,
   (prs f true (d + 1) (sk s) b []).new ++ (prs (f + 1) false d (prs f true (d + 1) (sk s) b []).rest (b + (prs f true (d + 1) (sk s) b []).new.length) (acc ++ [((b + (prs f true (d + 1) (sk s) b []).new.length : Nat) : Int) - 1])).new,
   (prs (f + 1) false d (prs f true (d + 1) (sk s) b []).rest (b + (prs f true (d + 1) (sk s) b []).new.length) (acc ++ [((b + (prs f true (d + 1) (sk s) b []).new.length : Nat) : Int) - 1])).ch,
   (prs (f + 1) false d (prs f true (d + 1) (sk s) b []).rest (b + (prs f true (d + 1) (sk s) b []).new.length) (acc ++ [((b + (prs f true (d + 1) (sk s) b []).new.length : Nat) : Int) - 1])).code⟩ := by
 have hl := ((prs_facts f true (d + 1) (sk s) b []).2.2.2 hq).1
 conv => lhs; simp only [prs]
 rw [if_neg h, if_neg (by simp [hq]), prs_fuel f (f + 1) false d _ _ _ (by simp; omega) (by simp; omega)]
def c_sexpr_reader_list : Cmd :=
 (qS [qq 4 (.mov (.c (.sl .nil []))), qc 5 0]
 (qS [qq 6 (.newVec 7680385)]
 (qS [qm 9 0, qq 10 (.nilck (.t 9)), qf 11 1 10, ql 12 1 11, qv 13 .add [] 12 1, qq 14 (.nilck (.t 9)), qf 15 1 14, qs 1 15 13]
 (.block 0 (.loop (.block 1 (qS [qm 16 0, qq 17 (.call (.s [960259, 962690]) (.c (.fn 64 [])) [.t 16])]
 (qT (qS [qm 18 0, qq 19 (.nilck (.t 18)), qf 20 1 19, ql 21 1 20, qm 22 0, qq 23 (.nilck (.t 22)), qf 24 0 23, ql 25 1 24, qq 26 (.len true (.t 25)), qu 27 .lss [] 21 26, qm 28 27, qg 29 28 true (.mov (.t 0)), qg 30 28 true (.nilck (.t 29)), qg 31 28 true (.faddr 0 (.t 30)), qg 32 28 true (.load false 1 (.t 31)), qg 33 28 true (.mov (.t 0)), qg 34 28 true (.nilck (.t 33)), qg 35 28 true (.faddr 1 (.t 34)), qg 36 28 true (.load false 1 (.t 35)), qg 37 28 true (.index (.t 32) (.t 36)), qg 38 28 true (.bin .eql false [.i] (.t 37) (.c (.int .u8 41))), qq 39 (.pick (.t 28) (.t 38) (.c (.bool false)))]
 (.cond (.t 39) (.seq (.ops [qm 40 0, qq 41 (.nilck (.t 40)), qf 42 1 41, ql 43 1 42, qv 44 .add [] 43 1, qq 45 (.nilck (.t 40)), qf 46 1 45, qs 1 46 44]) (qT (.frz 6)
 (.seq (.ops [qm 47 6, qm 4 47, qc 5 0]) .ret))) .skip))
 (qS [qm 49 0, qm 50 1, qv 51 .add [] 50 1, qq 52 (.call (.s [960259, 962690]) (.c (.fn 63 [])) [.t 49, .t 51]), qm 48 52, qq 53 (.extract (.t 48) 0), qq 54 (.extract (.t 48) 1), qm 7 53, qm 8 54]
 (qT (qS [qm 55 8, qv 56 .neq [.i] 55 0]
 (.cond (.t 56) (.seq (.ops [qm 57 8, qq 4 (.mov (.c (.sl .nil []))), qm 5 57]) .ret) .skip))
 (.ops [qm 58 6, qm 59 7, qq 60 (.bsl 1 [.t 59]), qq 61 (.append 1 8 3 (.t 58) (.t 60)), qm 6 61])))))))))))
def r_sexpr_reader_list : List RVar := [.tmp 4, .tmp 5]
def n_sexpr_reader_list : Nat := 62
theorem k_sexpr_reader_list : chkFn PG 120 n_sexpr_reader_list r_sexpr_reader_list c_sexpr_reader_list = true := by kernel_rfl
theorem ct_list {G : Type} {H : HT G} (t : List UInt8) (ht : t.length ≤ 100000) (f : Nat) (hN : NodeC H t f) : ListC H t (f + 1) := by
 intro d s ns hd hs hb hf σ hσ g
 subst hσ
 have hsl := hs.length_le
 simp only [List.length_cons] at hsl
 have hst : s <:+ t := (List.suffix_cons 40 s).trans hs
 have hsucc := at_succ (t := t) (r := s) 40
 refine CT.step _ mixed k_sexpr_reader_list (fun nm h => stOf_mem (rdSx t (40 :: s) ns) nm h) fun hM => ?_
 repeat (first | refine i_s rfl ?_ | refine sw ?_ | refine ja rfl rfl ?_ | refine i_stb rfl ?_ | refine i_nv rfl ?_)
 refine c_lp (ι := List UInt8 × List Sx × List Int) (fun p => [(0, rdN), (1, .int .i64 d), (6, .sl (.own 7680385) (p.2.2.map i64V))])
  (fun p => (7680385, .vec p.2.2.length) :: rdSx t p.1 (ns ++ p.2.1)) (fun p => p.1 <:+ t ∧ p.1.length ≤ s.length ∧ ns.length + p.2.1.length + p.1.length ≤ 100000 ∧ p.2.2.length + p.1.length ≤ s.length ∧
    prs (f + 1) false d s ns.length [] = ⟨(prs (f + 1) false d p.1 (ns.length + p.2.1.length) p.2.2).rest, p.2.1 ++ (prs (f + 1) false d p.1 (ns.length + p.2.1.length) p.2.2).new, (prs (f + 1) false d p.1 (ns.length + p.2.1.length) p.2.2).ch, (prs (f + 1) false d p.1 (ns.length + p.2.1.length) p.2.2).code⟩) (fun p => p.1.length) (s, [], [])
  ⟨hst, Nat.le_refl _, by simpa using hb, by simp, by simp⟩ ⟨⟨rfl, rfl, rfl, trivial⟩, ⟨rfl, by rw [List.append_nil, ← hsucc]; rfl, by rw [List.append_nil]; rfl, trivial⟩, rfl⟩ fun p hp => ?_
 obtain ⟨u, nw, acc⟩ := p
 obtain ⟨hu, hul, hub, hal, hq⟩ := hp
 simp only at hu hul hub hal hq
 rw [hq]
 clear hq
 have hkl := (sk_suf u).length_le
 have hku := (sk_suf u).trans hu
 repeat (first | refine i_s rfl ?_ | refine sw ?_)
 refine i_c rfl rfl rfl (ct_blanks t u (ns ++ nw) ht hu _ (rd_eq rfl rfl fun nm h => restr_mem nm h) g) ?_
 rintro _ _ g ⟨rfl, rfl, rfl⟩
 by_cases h41 : (sk u).head? = some 41
 · obtain ⟨r, hr⟩ : ∃ r, sk u = 41 :: r := by
    cases h : sk u with
    | nil => rw [h] at h41; cases h41
    | cons c r => rw [h] at h41; cases h41; exact ⟨r, rfl⟩
   rw [prs_close hr]
   rw [hr] at hkl hku ⊢
   have hg := suf_get hku rfl
   have hkul := hku.length_le
   have hlt : ((t.length : Int) - (41 :: r).length) < t.length := by simp only [List.length_cons]; omega
   have h0 : 0 ≤ ((t.length : Int) - (41 :: r).length) := by omega
   have hsc := at_succ (t := t) (r := r) 41
   clear hN
   repeat' (first | refine i_s rfl ?_ | refine sw ?_ | refine i_gt rfl ?_ | refine i_gf rfl ?_ | refine c_t rfl ?_ | refine c_f rfl ?_ | refine ja rfl rfl ?_ | refine i_stb rfl ?_ | refine i_g rfl (fun h => ?_) (fun h => ?_) | refine i_ix rfl rfl h0 hg ?_)
   all_goals first
    | (exfalso; have := of_decide_eq_false h; omega)
    | skip
   refine c_frzv rfl rfl ?_
   repeat (first | refine i_s rfl ?_ | refine sw ?_)
   refine e_ret ⟨rfl, _, rfl, rfl, rfl, rfl, ?_, rfl⟩
   refine rd_eq ?_ ?_ fun nm h => restr_mem nm h
   · rw [← hsc, List.append_nil]; rfl
   · rw [List.append_nil]; rfl
 · have hq1 := hN (d + 1) (sk u) (ns ++ nw) (by omega) hku (by simp only [List.length_append]; omega) (by omega)
   rw [List.length_append] at hq1
   have hfa := prs_facts f true (d + 1) (sk u) (ns.length + nw.length) []
   have hb1 := @prs_bad f d (ns.length + nw.length) u acc h41
   have hb2 := @prs_next f d (ns.length + nw.length) u acc h41
   generalize hqq : prs f true (d + 1) (sk u) (ns.length + nw.length) [] = q at *
   obtain ⟨f1, f2, f3, f4⟩ := hfa
   have hkul := hku.length_le
   have h0 : 0 ≤ ((t.length : Int) - (sk u).length) := by omega
   rw [show ((d + 1 : Nat) : Int) = ((d : Nat) : Int) + 1 from by omega] at hq1
   refine i_nil ?_
   refine e_seq ?_
   refine c_cut [(0, rdN), (1, .int .i64 d), (6, .sl (.own 7680385) (acc.map i64V))] ((7680385, .vec acc.length) :: rdSx t (sk u) (ns ++ nw)) ft ?_
   generalize hsu : sk u = v at *
   rcases v with _ | ⟨c, r⟩
   · repeat' (first | refine i_s rfl ?_ | refine sw ?_ | refine i_gt rfl ?_ | refine i_gf rfl ?_ | refine c_f rfl ?_ | refine ja rfl rfl ?_ | refine i_g rfl (fun h => ?_) (fun h => ?_))
     all_goals first
      | (exfalso; have := of_decide_eq_true h; simp at this; done)
      | skip
     refine i_c rfl rfl rfl (hq1 _ (rd_eq rfl rfl fun nm h => restr_mem nm h) g) ?_
     rintro _ _ g ⟨rfl, rfl, rfl⟩
     by_cases hz : q.code = 0
     · have f5 := f4 hz
       have hb3 := hb2 hz (by omega)
       rw [hb3]
       clear hb1 hb2 hb3 hN
       unfold ndR
       rw [if_pos hz, hz]
       repeat (first | refine i_s rfl ?_ | refine sw ?_ | refine c_f rfl ?_)
       refine i_appM rfl rfl rfl rfl rfl (by omega) (by omega) ?_
       repeat (first | refine i_s rfl ?_ | refine sw ?_)
       refine e_lp (q.rest, nw ++ q.new, acc ++ [((ns.length + nw.length + q.new.length : Nat) : Int) - 1]) ⟨f1.trans hku, by simp only; omega, by simp only [List.length_append]; omega, by simp only [List.length_append, List.length_singleton]; omega, ?_⟩ (by simp only; omega) ⟨⟨rfl, rfl, rfl, trivial⟩, ⟨?_, ?_, ?_, trivial⟩, rfl⟩
       · simp only [List.length_append, ← Nat.add_assoc, List.append_assoc]
       · simp only [List.length_append, List.length_singleton]; rfl
       · rw [← List.append_assoc]; rfl
       · rw [← List.append_assoc]; rfl
     · rw [hb1 hz]
       clear hb1 hb2 hN
       unfold ndR
       rw [if_neg hz]
       repeat' (first | refine i_s rfl ?_ | refine sw ?_ | refine c_cond rfl (fun h => ?_) (fun h => ?_))
       all_goals first
        | (exfalso; exact hz (by simpa using h))
        | skip
       refine e_ret ⟨rfl, _, rfl, rfl, rfl, ?_, ?_, rfl⟩
       · unfold lsR; rw [if_neg hz]; rfl
       · rw [← List.append_assoc]
         exact rd_eq rfl rfl fun nm h => restr_mem nm h
   · have hc41 : ¬ ((c.toNat : Int) = 41) := fun e => h41 (by
      have : c = 41 := UInt8.toNat_inj.1 (by have : c.toNat = 41 := by omega
                                             rw [this]; rfl)
      rw [this]; rfl)
     have hg := suf_get hku rfl
     repeat' (first | refine i_s rfl ?_ | refine sw ?_ | refine i_gt rfl ?_ | refine i_gf rfl ?_ | refine c_f rfl ?_ | refine ja rfl rfl ?_ | refine i_stb rfl ?_ | (refine sp ?_ ?_ <;> try intro h) | refine i_ix rfl rfl h0 hg ?_)
     all_goals first
      | (exfalso; exact hc41 (by simpa using h))
      | (exfalso; have := of_decide_eq_false h; simp only [List.length_cons] at this hkul; omega)
      | skip
     refine i_c rfl rfl rfl (hq1 _ (rd_eq rfl rfl fun nm h => restr_mem nm h) g) ?_
     rintro _ _ g ⟨rfl, rfl, rfl⟩
     by_cases hz : q.code = 0
     · have f5 := f4 hz
       have hb3 := hb2 hz (by omega)
       rw [hb3]
       clear hb1 hb2 hb3 hN
       unfold ndR
       rw [if_pos hz, hz]
       repeat (first | refine i_s rfl ?_ | refine sw ?_ | refine c_f rfl ?_)
       refine i_appM rfl rfl rfl rfl rfl (by omega) (by omega) ?_
       repeat (first | refine i_s rfl ?_ | refine sw ?_)
       refine e_lp (q.rest, nw ++ q.new, acc ++ [((ns.length + nw.length + q.new.length : Nat) : Int) - 1]) ⟨f1.trans hku, by simp only; omega, by simp only [List.length_append]; omega, by simp only [List.length_append, List.length_singleton]; omega, ?_⟩ (by simp only; omega) ⟨⟨rfl, rfl, rfl, trivial⟩, ⟨?_, ?_, ?_, trivial⟩, rfl⟩
       · simp only [List.length_append, ← Nat.add_assoc, List.append_assoc]
       · simp only [List.length_append, List.length_singleton]; rfl
       · rw [← List.append_assoc]; rfl
       · rw [← List.append_assoc]; rfl
     · rw [hb1 hz]
       clear hb1 hb2 hN
       unfold ndR
       rw [if_neg hz]
       repeat' (first | refine i_s rfl ?_ | refine sw ?_ | refine c_cond rfl (fun h => ?_) (fun h => ?_))
       all_goals first
        | (exfalso; exact hz (by simpa using h))
        | skip
       refine e_ret ⟨rfl, _, rfl, rfl, rfl, ?_, ?_, rfl⟩
       · unfold lsR; rw [if_neg hz]; rfl
       · rw [← List.append_assoc]
         exact rd_eq rfl rfl fun nm h => restr_mem nm h
end Hm
end
