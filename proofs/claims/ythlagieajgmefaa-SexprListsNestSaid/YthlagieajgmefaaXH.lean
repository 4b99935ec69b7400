/- The law on lists of two texts. -/
import Derived.Test.YthlagieajgmefaaXE
import Derived.Test.YthlagieajgmefaaXF
section
/- The law on lists of two texts. -/
namespace Hm
open Go
set_option maxRecDepth 100000
set_option maxHeartbeats 4000000
set_option linter.unusedSimpArgs false
set_option linter.unusedVariables false
theorem readL_len (t : List UInt8) : (readL t).length ≤ 300 := by
  unfold readL
  split
  · rename_i h; exact (read_ok h).2.2.2
  · simp
def c_L1_SexprListsNest : Cmd :=
  (.seq
   (.ops [
   .op (some 4) none (.mov (.c (.bool false)))])
   (.cut
   (.seq
   (.ops [
   .op (some 14) none (.mov (.t 0)),
   .op (some 15) none (.call .f (.c (.fn 13 [])) [.t 14]),
   .op (some 13) none (.mov (.t 15)),
   .op (some 16) none (.extract (.t 13) 0),
   .op (some 17) none (.extract (.t 13) 1),
   .op (some 6) none (.alloc 448386 (.agg [.int .i64 (0), .int .i64 (0)])),
   .op (some 5) none (.mov (.t 16)),
   .op none none (.store 2 (.t 6) (.t 17))])
   (.cut
   (.seq
   (.ops [
   .op (some 19) none (.mov (.t 1)),
   .op (some 20) none (.call .f (.c (.fn 13 [])) [.t 19]),
   .op (some 18) none (.mov (.t 20)),
   .op (some 21) none (.extract (.t 18) 0),
   .op (some 22) none (.extract (.t 18) 1),
   .op (some 8) none (.alloc 448514 (.agg [.int .i64 (0), .int .i64 (0)])),
   .op (some 7) none (.mov (.t 21)),
   .op none none (.store 2 (.t 8) (.t 22))])
   (.cut
   (.seq
   (.ops [
   .op (some 24) none (.mov (.t 0)),
   .op (some 25) none (.bin .add false [] (.c (.str [40])) (.t 24)),
   .op (some 26) none (.bin .add false [] (.t 25) (.c (.str [32]))),
   .op (some 27) none (.mov (.t 1)),
   .op (some 28) none (.bin .add false [] (.t 26) (.t 27)),
   .op (some 29) none (.bin .add false [] (.t 28) (.c (.str [41]))),
   .op (some 30) none (.call .f (.c (.fn 13 [])) [.t 29]),
   .op (some 23) none (.mov (.t 30)),
   .op (some 31) none (.extract (.t 23) 0),
   .op (some 32) none (.extract (.t 23) 1),
   .op (some 10) none (.alloc 448642 (.agg [.int .i64 (0), .int .i64 (0)])),
   .op (some 9) none (.mov (.t 31)),
   .op none none (.store 2 (.t 10) (.t 32))])
   (.cut
   (.seq
   (.seq
   (.ops [
   .op (some 33) none (.call .f (.c (.fn 8 [])) []),
   .op (some 34) none (.not (.t 33))])
   (.cut
   (.cond (.t 34)
   (.seq
   (.ops [
   .op (some 4) none (.mov (.c (.bool false)))])
   .ret)
   .skip)))
   (.cut
   (.seq
   (.seq
   (.ops [
   .op (some 35) none (.faddr 0 (.t 6)),
   .op (some 36) none (.load false 1 (.t 35)),
   .op (some 37) none (.bin .neq false [.i] (.t 36) (.c (.int .i64 (0)))),
   .op (some 38) none (.mov (.t 37)),
   .op (some 39) (some (38, false)) (.faddr 0 (.t 8)),
   .op (some 40) (some (38, false)) (.load false 1 (.t 39)),
   .op (some 41) (some (38, false)) (.bin .neq false [.i] (.t 40) (.c (.int .i64 (0)))),
   .op (some 42) none (.pick (.t 38) (.c (.bool true)) (.t 41)),
   .op (some 43) none (.mov (.t 42)),
   .op (some 44) (some (43, false)) (.faddr 0 (.t 10)),
   .op (some 45) (some (43, false)) (.load false 1 (.t 44)),
   .op (some 46) (some (43, false)) (.bin .neq false [.i] (.t 45) (.c (.int .i64 (0)))),
   .op (some 47) none (.pick (.t 43) (.c (.bool true)) (.t 46))])
   (.cut
   (.cond (.t 47)
   (.seq
   (.ops [
   .op (some 48) none (.faddr 0 (.t 6)),
   .op (some 49) none (.load false 1 (.t 48)),
   .op (some 50) none (.bin .neq false [.i] (.t 49) (.c (.int .i64 (0)))),
   .op (some 51) none (.mov (.t 50)),
   .op (some 52) (some (51, false)) (.faddr 0 (.t 8)),
   .op (some 53) (some (51, false)) (.load false 1 (.t 52)),
   .op (some 54) (some (51, false)) (.bin .neq false [.i] (.t 53) (.c (.int .i64 (0)))),
   .op (some 55) none (.pick (.t 51) (.c (.bool true)) (.t 54)),
   .op (some 56) none (.mov (.t 55)),
   .op (some 57) (some (56, false)) (.mov (.t 0)),
   .op (some 58) (some (56, false)) (.len true (.t 57)),
   .op (some 59) (some (56, false)) (.mov (.t 1)),
   .op (some 60) (some (56, false)) (.len true (.t 59)),
   .op (some 61) (some (56, false)) (.bin .add false [] (.t 58) (.t 60)),
   .op (some 62) (some (56, false)) (.bin .gtr false [] (.t 61) (.c (.int .i64 (4093)))),
   .op (some 63) none (.pick (.t 56) (.c (.bool true)) (.t 62)),
   .op (some 64) none (.mov (.t 63)),
   .op (some 65) (some (64, false)) (.mov (.t 5)),
   .op (some 66) (some (64, false)) (.len false (.t 65)),
   .op (some 67) (some (64, false)) (.mov (.t 7)),
   .op (some 68) (some (64, false)) (.len false (.t 67)),
   .op (some 69) (some (64, false)) (.bin .add false [] (.t 66) (.t 68)),
   .op (some 70) (some (64, false)) (.bin .gtr false [] (.t 69) (.c (.int .i64 (299)))),
   .op (some 71) none (.pick (.t 64) (.c (.bool true)) (.t 70)),
   .op (some 72) none (.mov (.t 71)),
   .op (some 73) (some (72, false)) (.faddr 0 (.t 10)),
   .op (some 74) (some (72, false)) (.load false 1 (.t 73)),
   .op (some 75) (some (72, false)) (.bin .eql false [.i] (.t 74) (.c (.int .i64 (10)))),
   .op (some 76) none (.pick (.t 72) (.c (.bool true)) (.t 75)),
   .op (some 4) none (.mov (.t 76))])
   .ret)
   .skip)))
   (.cut
   (.seq
   (.ops [
   .op (some 77) none (.mov (.t 5)),
   .op (some 78) none (.len false (.t 77)),
   .op (some 11) none (.mov (.t 78))])
   (.cut
   (.seq
   (.seq
   (.ops [
   .op (some 79) none (.mov (.t 9)),
   .op (some 80) none (.len false (.t 79)),
   .op (some 81) none (.mov (.t 11)),
   .op (some 82) none (.mov (.t 7)),
   .op (some 83) none (.len false (.t 82)),
   .op (some 84) none (.bin .add false [] (.t 81) (.t 83)),
   .op (some 85) none (.bin .add false [] (.t 84) (.c (.int .i64 (1)))),
   .op (some 86) none (.bin .neq false [.i] (.t 80) (.t 85)),
   .op (some 87) none (.mov (.t 86)),
   .op (some 88) (some (87, false)) (.mov (.t 9)),
   .op (some 89) (some (87, false)) (.mov (.t 11)),
   .op (some 90) (some (87, false)) (.slice false 2 (.t 88) none (some (.t 89))),
   .op (some 91) (some (87, false)) (.mov (.t 5)),
   .op (some 92) (some (87, false)) (.call .f (.c (.fn 15 [])) [.t 90, .t 91]),
   .op (some 93) (some (87, false)) (.not (.t 92)),
   .op (some 94) none (.pick (.t 87) (.c (.bool true)) (.t 93))])
   (.cut
   (.cond (.t 94)
   (.seq
   (.ops [
   .op (some 4) none (.mov (.c (.bool false)))])
   .ret)
   .skip)))
   (.cut
   (.seq
   (.ops [
   .op (some 95) none (.mov (.t 9)),
   .op (some 96) none (.mov (.t 9)),
   .op (some 97) none (.len false (.t 96)),
   .op (some 98) none (.bin .sub false [] (.t 97) (.c (.int .i64 (1)))),
   .op (some 99) none (.iaddr 2 (.t 95) (.t 98)),
   .op (some 100) none (.load true 2 (.t 99)),
   .op (some 12) none (.alloc 448770 (.agg [.str [], .sl .p []])),
   .op none none (.store 2 (.t 12) (.t 100))])
   (.cut
   (.seq
   (.ops [
   .op (some 101) none (.faddr 0 (.t 12)),
   .op (some 102) none (.load false 1 (.t 101)),
   .op (some 103) none (.bin .eql false [.s] (.t 102) (.c (.str []))),
   .op (some 104) none (.mov (.t 103)),
   .op (some 105) (some (104, true)) (.faddr 1 (.t 12)),
   .op (some 106) (some (104, true)) (.load false 1 (.t 105)),
   .op (some 107) (some (104, true)) (.mov (.t 11)),
   .op (some 108) (some (104, true)) (.bin .sub false [] (.t 107) (.c (.int .i64 (1)))),
   .op (some 109) (some (104, true)) (.mov (.t 9)),
   .op (some 110) (some (104, true)) (.len false (.t 109)),
   .op (some 111) (some (104, true)) (.bin .sub false [] (.t 110) (.c (.int .i64 (2)))),
   .op (some 112) (some (104, true)) (.bsl 1 [.t 108, .t 111]),
   .op (some 113) (some (104, true)) (.call .f (.c (.fn 16 [])) [.t 106, .t 112]),
   .op (some 114) none (.pick (.t 104) (.t 113) (.c (.bool false))),
   .op (some 4) none (.mov (.t 114))])
   .ret)))))))))))))))))))
def r_L1_SexprListsNest : List RVar := [.tmp 4]
def n_L1_SexprListsNest : Nat := 115
theorem k_L1_SexprListsNest : chkFn Go.Proofs.Try.prog 7 n_L1_SexprListsNest r_L1_SexprListsNest c_L1_SexprListsNest = true := by kernel_rfl
theorem f_L1_SexprListsNest_bad (a b : List UInt8) (ha : a.length ≤ 140737488351232) (hb : b.length ≤ 140737488351232) (hx : ¬ (readF a = okF ∧ readF b = okF ∧ readF (nestT a b) = okF)) : Fc Go.Proofs.Try.prog 7 [.str a, .str b] (.bool true) := by
  have hT := f_L1_reads
  have hA := f_sexpr_Read a (by omega)
  have hB := f_sexpr_Read b (by omega)
  have hN := f_sexpr_Read (nestT a b) (by simp [nestT]; omega)
  have hla := readL_len a
  have hlb := readL_len b
  have hc : (readF a).code = 0 → (readF b).code = 0 → (readF (nestT a b)).code ≠ 0 ∧ (a.length + b.length ≤ 4093 → (readL a).length + (readL b).length ≤ 299 → (readF (nestT a b)).code = 10) := fun h1 h2 => by
    have h3 : readF (nestT a b) ≠ okF := fun h3 => hx ⟨(readF_code a).1 h1, (readF_code b).1 h2, h3⟩
    exact ⟨fun h => h3 ((readF_code _).1 h), (nest_ok ((readF_code a).1 h1) ((readF_code b).1 h2)).2 h3⟩
  clear hx
  have e : nestT a b = ((([40] ++ a) ++ [32]) ++ b) ++ [41] := by simp [nestT]
  rw [e] at hN hc
  clear e
  generalize readF a = fa at *
  generalize readF b = fb at *
  generalize readF (_ ++ [41]) = fn at *
  generalize readL a = x at *
  generalize readL b = y at *
  generalize readL (_ ++ [41]) = l at *
  refine Fn.step mixed k_L1_SexprListsNest ?_
  repeat' (first | refine i_len rfl ?_ | refine i_s rfl ?_ | refine i_lenm rfl rfl rfl ?_ | refine c_seq ?_ | refine c_cut0 ?_ | refine c_ops ?_ | refine i_nil ?_ | refine e_seq ?_ | refine e_block ?_ | refine c_block ?_ | refine c_skip ?_ | refine c_ret ?_ | refine c_exit ?_ | refine e_exit rfl ?_ | refine i_s0 rfl ?_ | refine c_leaf ?_ | refine i_gt rfl ?_ | refine i_gf rfl ?_ | refine i_gd rfl ?_ | refine c_t rfl ?_ | refine c_f rfl ?_ | refine i_conv rfl (by simp only [InR, List.length_map]; omega) ?_ | refine i_add rfl rfl (by simp only [InR, List.length_map]; omega) ?_ | refine i_sub rfl rfl (by simp only [InR, List.length_map]; omega) ?_ | refine i_ixm rfl rfl (by assumption) ?_ | refine i_iai rfl rfl (by omega) (by assumption) rfl ?_ | refine i_iam rfl rfl (by assumption) rfl ?_ | refine i_tk rfl rfl (by omega) ?_ | refine i_stb rfl ?_ | refine i_alloc rfl ?_ | refine i_box rfl rfl ?_ | refine i_nv rfl ?_ | refine c_node ?_ ?_ | refine i_g rfl (fun h => ?_) (fun h => ?_) | refine c_cond rfl (fun h => ?_) (fun h => ?_) | refine i_f rfl rfl (hT) rfl ?_ | refine i_f rfl rfl (hA) rfl ?_ | refine i_f rfl rfl (hB) rfl ?_ | refine i_f rfl rfl (hN) rfl ?_ | refine i_cat rfl rfl (by simp only [List.length_append, List.length_cons, List.length_nil]; omega) ?_)
  all_goals clear hT hA hB hN
  all_goals first
    | (refine e_ret ⟨rfl, _, rfl, congrArg V.bool ?_⟩; first | rfl | (simp; done) | (simp at *; omega))
    | (exfalso; simp at *; omega)
    | (exfalso; simp_all; done)
theorem f_L1_SexprListsNest_ok (a b : List UInt8) (ha : readF a = okF) (hb : readF b = okF) (hn : readF (nestT a b) = okF) : Fc Go.Proofs.Try.prog 7 [.str a, .str b] (.bool true) := by
  have hT := f_L1_reads
  have hla := (read_ok ha).1
  have hlb := (read_ok hb).1
  have hln := (read_ok hn).2.2.2
  have hA := f_sexpr_Read a (by omega)
  have hB := f_sexpr_Read b (by omega)
  have hN := f_sexpr_Read (nestT a b) (by simp [nestT]; omega)
  have hka := (read_valid ha).1.len
  have hkb := (read_valid hb).1.len
  obtain ⟨n', hn1, hn2⟩ := (nest_ok ha hb).1 hn
  have hla2 := readL_len a
  have hlb2 := readL_len b
  have hS := f_R1_SameSexpr (readL a) (readL a) (read_valid ha).1.mem
  rw [decide_eq_true rfl] at hS
  rw [hn2] at hN
  rw [ha] at hA
  rw [hb] at hB
  rw [hn] at hN
  have e : nestT a b = ((([40] ++ a) ++ [32]) ++ b) ++ [41] := by simp [nestT]
  rw [e] at hN
  clear e hn2 ha hb hn hln
  generalize readL a = x at *
  generalize readL b = y at *
  have hI := f_R1_Ints [(x.length : Int) - 1, ((x.length + y.length : Nat) : Int) - 1] [(x.length : Int) - 1, ((x.length + y.length : Nat) : Int) - 1] (by simp)
  rw [decide_eq_true rfl] at hI
  have hll : (x ++ n' ++ [(⟨[], [(x.length : Int) - 1, ((x.length + y.length : Nat) : Int) - 1]⟩ : Sx)]).length = x.length + y.length + 1 := by simp [hn1]; omega
  have htk : (x ++ n' ++ [(⟨[], [(x.length : Int) - 1, ((x.length + y.length : Nat) : Int) - 1]⟩ : Sx)]).take x.length = x := by rw [List.append_assoc, List.take_left]
  have hlast : (x ++ n' ++ [(⟨[], [(x.length : Int) - 1, ((x.length + y.length : Nat) : Int) - 1]⟩ : Sx)])[x.length + y.length]? = some ⟨[], [(x.length : Int) - 1, ((x.length + y.length : Nat) : Int) - 1]⟩ := by
    rw [List.getElem?_append_right (by simp [hn1])]
    simp [hn1]
  generalize x ++ n' ++ [_] = l at *
  have hS2 : Fc Go.Proofs.Try.prog 15 [.sl .p ((l.take x.length).map sxV), .sl .p (x.map sxV)] (.bool true) := by rw [htk]; exact hS
  clear hS htk
  have hI2 : Fc Go.Proofs.Try.prog 16 [.sl .p ([(x.length : Int) - 1, ((x.length + y.length : Nat) : Int) - 1].map i64V), .sl .p ([(x.length : Int) - 1, (l.length : Int) - 2].map i64V)] (.bool true) := by
    rw [show (l.length : Int) - 2 = ((x.length + y.length : Nat) : Int) - 1 from by omega]
    exact hI
  clear hI
  have hlast2 : l[((l.length : Int) - 1).toNat]? = some ⟨[], [(x.length : Int) - 1, ((x.length + y.length : Nat) : Int) - 1]⟩ := by rw [← hlast]; congr 1; omega
  clear hlast
  have ei1 : (l.length : Int) - 1 = ((x.length + y.length : Nat) : Int) := by omega
  have ei2 : (l.length : Int) - 2 = ((x.length + y.length : Nat) : Int) - 1 := by omega
  refine Fn.step mixed k_L1_SexprListsNest ?_
  repeat' (first | refine i_len rfl ?_ | refine i_s rfl ?_ | refine i_lenm rfl rfl rfl ?_ | refine c_seq ?_ | refine c_cut0 ?_ | refine c_ops ?_ | refine i_nil ?_ | refine e_seq ?_ | refine e_block ?_ | refine c_block ?_ | refine c_skip ?_ | refine c_ret ?_ | refine c_exit ?_ | refine e_exit rfl ?_ | refine i_s0 rfl ?_ | refine c_leaf ?_ | refine i_gt rfl ?_ | refine i_gf rfl ?_ | refine i_gd rfl ?_ | refine c_t rfl ?_ | refine c_f rfl ?_ | refine i_conv rfl (by simp only [InR, List.length_map]; omega) ?_ | refine i_add rfl rfl (by simp only [InR, List.length_map]; omega) ?_ | refine i_sub rfl rfl (by simp only [InR, List.length_map]; omega) ?_ | refine i_ixm rfl rfl (by assumption) ?_ | refine i_iai rfl rfl (by omega) (by assumption) rfl ?_ | refine i_iam rfl rfl (by assumption) rfl ?_ | refine i_tk rfl rfl (by omega) ?_ | refine i_stb rfl ?_ | refine i_alloc rfl ?_ | refine i_box rfl rfl ?_ | refine i_nv rfl ?_ | refine c_node ?_ ?_ | refine i_g rfl (fun h => ?_) (fun h => ?_) | refine c_cond rfl (fun h => ?_) (fun h => ?_) | refine i_f rfl rfl (hT) rfl ?_ | refine i_f rfl rfl (hA) rfl ?_ | refine i_f rfl rfl (hB) rfl ?_ | refine i_f rfl rfl (hN) rfl ?_ | refine i_f rfl rfl (hS2) rfl ?_ | refine i_f rfl rfl (hI2) rfl ?_ | refine i_cat rfl rfl (by simp only [List.length_append, List.length_cons, List.length_nil]; omega) ?_)
  all_goals clear hT hA hB hN
  all_goals first
    | (refine e_ret ⟨rfl, _, rfl, congrArg V.bool ?_⟩; first | rfl | (simp; done) | (simp at *; omega))
    | (exfalso; simp at *; omega)
    | (exfalso; simp_all; done)
theorem f_L1_SexprListsNest (a b : List UInt8) (ha : a.length ≤ 140737488351232) (hb : b.length ≤ 140737488351232) : Fc Go.Proofs.Try.prog 7 [.str a, .str b] (.bool true) := by
  by_cases h : readF a = okF ∧ readF b = okF ∧ readF (nestT a b) = okF
  · exact f_L1_SexprListsNest_ok a b h.1 h.2.1 h.2.2
  · exact f_L1_SexprListsNest_bad a b ha hb h
end Hm
end
