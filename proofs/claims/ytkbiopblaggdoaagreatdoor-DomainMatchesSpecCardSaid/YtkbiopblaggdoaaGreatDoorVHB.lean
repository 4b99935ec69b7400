/- Part VHB of the proof. -/
import Derived.Test.YtkbiopblaggdoaaGreatDoorVHA
import Derived.Test.YtkbiopblaggdoaaGreatDoorRows
import Derived.LaidLaws
import Derived.Lib.LaidTab
import Derived.Handed
import Derived.Stop.LaidErr
import Derived.LaidHandle
import Derived.MakeChecks
import Derived.LaidMore
import Derived.SevenTiedAt
set_option linter.unusedVariables false
set_option linter.unusedSimpArgs false
section
namespace Hm
open Go
set_option maxRecDepth 100000
set_option maxHeartbeats 4000000
section
variable {f d b : Nat} {s r : List UInt8} {c : UInt8} {acc : List Int}
theorem prs_nil (h : sk s = []) : prs (f + 1) true d s b acc = ⟨[], [], [], 1⟩ := by simp only [prs, h]
theorem prs_syn (h : sk s = c :: r) (h1 : c ≠ 40) (h2 : symB c = false) : prs (f + 1) true d s b acc = ⟨c :: r, [], [], 1⟩ := by simp only [prs, h]; rw [if_pos ⟨h1, h2⟩]
theorem prs_deep (h : sk s = c :: r) (h1 : ¬ (c ≠ 40 ∧ symB c = false)) (h2 : d = 12) : prs (f + 1) true d s b acc = ⟨c :: r, [], [], 10⟩ := by simp only [prs, h]; rw [if_neg h1, if_pos h2]
theorem prs_long (h : sk s = c :: r) (h1 : c ≠ 40) (h3 : symB c = true) (h2 : d ≠ 12) (h4 : ((c :: r).takeWhile symB).length > 12) : prs (f + 1) true d s b acc = ⟨c :: r, [], [], 1⟩ := by
 simp only [prs, h]; rw [if_neg (by simp [h3]), if_neg h2, if_pos h1, if_pos h4]
theorem prs_sym (h : sk s = c :: r) (h1 : c ≠ 40) (h3 : symB c = true) (h2 : d ≠ 12) (h4 : ¬ ((c :: r).takeWhile symB).length > 12) : prs (f + 1) true d s b acc = ⟨(c :: r).dropWhile symB, [⟨(c :: r).takeWhile symB, []⟩], [], 0⟩ := by
 simp only [prs, h]; rw [if_neg (by simp [h3]), if_neg h2, if_pos h1, if_neg h4]
theorem prs_lbad (h : sk s = 40 :: r) (h2 : d ≠ 12) (h4 : (prs f false d r b []).code ≠ 0) : prs (f + 1) true d s b acc = ⟨(prs f false d r b []).rest, (prs f false d r b []).new, [], (prs f false d r b []).code⟩ := by
 simp only [prs, h]; rw [if_neg (by simp), if_neg h2, if_neg (by simp), if_pos h4]
theorem prs_lst (h : sk s = 40 :: r) (h2 : d ≠ 12) (h4 : (prs f false d r b []).code = 0) : prs (f + 1) true d s b acc = ⟨(prs f false d r b []).rest, (prs f false d r b []).new ++ [⟨[], (prs f false d r b []).ch⟩], [], 0⟩ := by
 simp only [prs, h]; rw [if_neg (by simp), if_neg h2, if_neg (by simp), if_neg (by simp [h4])]
end
def c_sexpr_reader_node : Cmd :=
 (qS [qc 4 0, qc 5 0]
 (qS [qm 10 0, qq 11 (.call (.s [960259, 962690]) (.c (.fn 64 [])) [.t 10])]
 (qT (.block 0 (qS [qm 13 0, qq 14 (.nilck (.t 13)), qf 15 1 14, ql 16 1 15, qm 17 0, qq 18 (.nilck (.t 17)), qf 19 0 18, ql 20 1 19, qq 21 (.len true (.t 20)), qu 22 .eql [.i] 16 21, qm 23 22, qg 24 23 false (.mov (.t 0)), qg 25 23 false (.nilck (.t 24)), qg 26 23 false (.faddr 0 (.t 25)), qg 27 23 false (.load false 1 (.t 26)), qg 28 23 false (.mov (.t 0)), qg 29 23 false (.nilck (.t 28)), qg 30 23 false (.faddr 1 (.t 29)), qg 31 23 false (.load false 1 (.t 30)), qg 32 23 false (.index (.t 27) (.t 31)), qg 33 23 false (.bin .neq false [.i] (.t 32) (.c (.int .u8 40))), qg 34 23 false (.mov (.t 33)), qg 35 34 true (.mov (.t 0)), qg 36 34 true (.nilck (.t 35)), qg 37 34 true (.faddr 0 (.t 36)), qg 38 34 true (.load false 1 (.t 37)), qg 39 34 true (.mov (.t 0)), qg 40 34 true (.nilck (.t 39)), qg 41 34 true (.faddr 1 (.t 40)), qg 42 34 true (.load false 1 (.t 41)), qg 43 34 true (.index (.t 38) (.t 42)), qg 44 34 true (.call .f (.c (.fn 119 [])) [.t 43]), qg 45 34 true (.not (.t 44)), qg 46 23 false (.pick (.t 34) (.t 45) (.c (.bool false))), qq 47 (.pick (.t 23) (.c (.bool true)) (.t 46)), qm 12 47]
 (.cond (.t 12) (.seq (.ops [qc 4 0, qc 5 1]) .ret) (qS [qm 49 1, qv 50 .eql [.i] 49 12, qm 48 50]
 (.cond (.t 48) (.seq (.ops [qc 4 0, qc 5 10]) .ret) .skip)))))
 (qS [qq 6 (.alloc 4032386 (.agg [.str [], .sl .p []]))]
 (qS [qm 51 0, qq 52 (.nilck (.t 51)), qf 53 1 52, ql 54 1 53, qm 7 54]
 (qT (qS [qm 55 0, qq 56 (.nilck (.t 55)), qf 57 0 56, ql 58 1 57, qm 59 0, qq 60 (.nilck (.t 59)), qf 61 1 60, ql 62 1 61, qq 63 (.index (.t 58) (.t 62)), qq 64 (.bin .neq false [.i] (.t 63) (.c (.int .u8 40)))]
 (.cond (.t 64) (qT (.block 1 (.loop (qT (qS [qm 65 0, qq 66 (.nilck (.t 65)), qf 67 1 66, ql 68 1 67, qm 69 0, qq 70 (.nilck (.t 69)), qf 71 0 70, ql 72 1 71, qq 73 (.len true (.t 72)), qu 74 .lss [] 68 73, qm 75 74, qg 76 75 true (.mov (.t 0)), qg 77 75 true (.nilck (.t 76)), qg 78 75 true (.faddr 0 (.t 77)), qg 79 75 true (.load false 1 (.t 78)), qg 80 75 true (.mov (.t 0)), qg 81 75 true (.nilck (.t 80)), qg 82 75 true (.faddr 1 (.t 81)), qg 83 75 true (.load false 1 (.t 82)), qg 84 75 true (.index (.t 79) (.t 83)), qg 85 75 true (.call .f (.c (.fn 119 [])) [.t 84]), qq 86 (.pick (.t 75) (.t 85) (.c (.bool false)))]
 (.cond (.t 86) .skip (.exit 1)))
 (.block 2 (.ops [qm 87 0, qq 88 (.nilck (.t 87)), qf 89 1 88, ql 90 1 89, qv 91 .add [] 90 1, qq 92 (.nilck (.t 87)), qf 93 1 92, qs 1 93 91])))))
 (qS [qm 94 0, qq 95 (.nilck (.t 94)), qf 96 0 95, ql 97 1 96, qm 98 7, qm 99 0, qq 100 (.nilck (.t 99)), qf 101 1 100, ql 102 1 101, qq 103 (.slice true 1 (.t 97) (some (.t 98)) (some (.t 102))), qf 104 0 6, qs 1 104 103]
 (qS [qf 105 0 6, ql 106 1 105, qq 107 (.len true (.t 106)), qv 108 .gtr [] 107 12]
 (.cond (.t 108) (qS [qm 109 0, qm 110 7, qq 111 (.nilck (.t 109)), qf 112 1 111, qs 1 112 110]
 (.seq (.ops [qc 4 0, qc 5 1]) .ret)) .skip)))) (qS [qm 114 0, qm 115 1, qq 116 (.call (.s [960259, 962690]) (.c (.fn 120 [])) [.t 114, .t 115]), qm 113 116, qq 117 (.extract (.t 113) 0), qq 118 (.extract (.t 113) 1), qm 8 117, qm 9 118]
 (qT (qS [qm 119 9, qv 120 .neq [.i] 119 0]
 (.cond (.t 120) (.seq (.ops [qm 121 9, qc 4 0, qm 5 121]) .ret) .skip))
 (.ops [qm 122 8, qf 123 1 6, qs 1 123 122])))))
 (qS [qm 124 0, qm 125 0, qq 126 (.nilck (.t 125)), qf 127 2 126, ql 128 1 127, qL 129 2 6, qq 130 (.bsl 2 [.t 129]), qq 131 (.append 2 40 120 (.t 128) (.t 130)), qq 132 (.nilck (.t 124)), qf 133 2 132, qs 1 133 131]
 (.seq (.ops [qm 134 0, qq 135 (.nilck (.t 134)), qf 136 2 135, ql 137 1 136, qn 138 137, qv 139 .sub [] 138 1, qm 4 139, qc 5 0]) .ret))))))))
def r_sexpr_reader_node : List RVar := [.tmp 4, .tmp 5]
def n_sexpr_reader_node : Nat := 140
theorem k_sexpr_reader_node : chkFn PG 63 n_sexpr_reader_node r_sexpr_reader_node c_sexpr_reader_node = true := by kernel_rfl
theorem ct_node {G : Type} {H : HT G} (t : List UInt8) (ht : t.length ≤ 100000) (f : Nat) (hL : ListC H t f) : NodeC H t (f + 1) := by
 intro d s ns hd hs hb hf σ hσ g
 subst hσ
 have hsl := hs.length_le
 have hkl := (sk_suf s).length_le
 have hku := (sk_suf s).trans hs
 refine CT.step _ mixed k_sexpr_reader_node (fun nm h => stOf_mem (rdSx t s ns) nm h) fun hM => ?_
 repeat (first|refine i_s rfl ?_|refine sw ?_)
 refine i_c rfl rfl rfl (ct_blanks t s ns ht hs _ (rd_eq rfl rfl fun nm h => restr_mem nm h) g) ?_
 rintro _ _ g ⟨rfl, rfl, rfl⟩
 refine i_nil ?_
 refine e_seq ?_
 refine c_cut [(0, rdN), (1, .int .i64 d), (4, .int .i64 0), (5, .int .i64 0)] (rdSx t (sk s) ns) ft ?_
 cases hsk : sk s with
 | nil =>
  rw [prs_nil hsk]
  clear hL
  repeat' (first|refine i_s rfl ?_|refine sw ?_|refine i_gt rfl ?_|refine i_gf rfl ?_|refine i_gd rfl ?_|refine c_t rfl ?_|refine i_g rfl (fun h => ?_) (fun h => ?_))
  all_goals first
   | (exfalso; simp at h; done)
   | skip
  refine e_ret ⟨rfl, _, rfl, rfl, rfl, rfl, ?_, rfl⟩
  rw [List.append_nil]
  exact rd_eq rfl rfl fun nm h => restr_mem nm h
 | cons c r =>
  rw [hsk] at hkl hku
  have hg := suf_get hku rfl
  have hkul := hku.length_le
  have h0 : 0 ≤ ((t.length : Int) - (c :: r).length) := by omega
  have hne : ¬ ((t.length : Int) - (c :: r).length) = t.length := by simp only [List.length_cons]; omega
  have hF := f_sexpr_isSymbolByte c
  by_cases h40 : c = 40
  · subst h40
    by_cases hd12 : d = 12
    · rw [prs_deep hsk (by simp) hd12]
      subst hd12
      clear hL
      repeat' (first|refine i_s rfl ?_|refine sw ?_|refine i_gt rfl ?_|refine i_gf rfl ?_|refine i_gd rfl ?_|refine c_t rfl ?_|refine c_f rfl ?_|refine i_g rfl (fun h => ?_) (fun h => ?_)|refine i_ix rfl rfl h0 hg ?_)
      all_goals first
       | (exfalso; exact hne (by simpa using h))
       | skip
      refine e_ret ⟨rfl, _, rfl, rfl, rfl, rfl, ?_, rfl⟩
      rw [List.append_nil]
      exact rd_eq rfl rfl fun nm h => restr_mem nm h
    · have hq1 := hL d r ns (by omega) hku (by simp only [List.length_cons] at hkl; omega) (by simp only [List.length_cons] at hkl; omega)
      have hb1 := @prs_lbad f d ns.length s r [] hsk hd12
      have hb2 := @prs_lst f d ns.length s r [] hsk hd12
      have hfa := prs_facts f false d r ns.length []
      generalize hqq : prs f false d r ns.length [] = q at *
      obtain ⟨f1, f2, f3, f4⟩ := hfa
      have hd12' : ¬ (d : Int) = 12 := by omega
      repeat' (first|refine i_s rfl ?_|refine sw ?_|refine i_gt rfl ?_|refine i_gf rfl ?_|refine i_gd rfl ?_|refine c_t rfl ?_|refine c_f rfl ?_|refine i_alloc rfl ?_|(refine sp ?_ ?_ <;> try intro h)|refine i_ix rfl rfl h0 hg ?_)
      all_goals first
       | (exfalso; exact hne (by simpa using h))
       | (exfalso; exact hd12' (by simpa using h))
       | (exfalso; clear hF hg hku hkul hs hq1 hb1 hb2 f1 f2 f3 f4; simp_all; done)
       | skip
      refine i_c rfl rfl rfl (hq1 _ (rd_eq rfl rfl fun nm h => restr_mem nm h) g) ?_
      rintro _ _ g ⟨rfl, rfl, rfl⟩
      simp only [List.length_cons] at hkl
      by_cases hz : q.code = 0
      · rw [hb2 hz]
        clear hb1 hb2 hL hq1
        unfold lsR
        rw [if_pos hz, hz]
        repeat (first|refine i_s rfl ?_|refine sw ?_|refine c_f rfl ?_|refine i_stb rfl ?_)
        have hlen : (ns ++ q.new ++ [(⟨[], q.ch⟩ : Sx)]).length ≤ 200000 := by simp only [List.length_append, List.length_singleton]; omega
        refine i_appM (c := (⟨[], q.ch⟩ : Sx)) rfl rfl rfl rfl rfl (by simp only [List.length_append]; omega) (by simp only [List.length_append]; omega) ?_
        repeat' (first|refine i_len rfl ?_|refine i_s rfl ?_|refine sw ?_|refine jb rfl rfl ?_|refine i_stb rfl ?_)
        refine e_ret ⟨rfl, _, rfl, rfl, rfl, ?_, ?_, rfl⟩
        · unfold ndR
          rw [if_pos rfl]
          show V.tup [V.int .i64 (((ns ++ q.new ++ [(⟨[], q.ch⟩ : Sx)]).length : Int) - 1), .int .i64 0] = V.tup [V.int .i64 (((ns.length + (q.new ++ [(⟨[], q.ch⟩ : Sx)]).length : Nat) : Int) - 1), .int .i64 0]
          rw [show (ns ++ q.new ++ [(⟨[], q.ch⟩ : Sx)]).length = ns.length + (q.new ++ [(⟨[], q.ch⟩ : Sx)]).length from by simp only [List.length_append, Nat.add_assoc]]
        · rw [← List.append_assoc]
          refine rd_eq rfl ?_ fun nm h => restr_mem nm h
          simp only [List.length_append, List.length_singleton]
          rfl
      · rw [hb1 hz]
        clear hb1 hb2 hL hq1
        unfold lsR
        rw [if_neg hz]
        repeat' (first|refine i_s rfl ?_|refine sw ?_|refine i_stb rfl ?_|refine c_cond rfl (fun h => ?_) (fun h => ?_))
        all_goals first
         | (exfalso; exact hz (by simpa using h))
         | skip
        refine e_ret ⟨rfl, _, rfl, rfl, rfl, ?_, ?_, rfl⟩
        · unfold ndR; rw [if_neg hz]; rfl
        · exact rd_eq rfl rfl fun nm h => restr_mem nm h
  · have h40' : ¬ ((c.toNat : Int) = 40) := fun e => h40 (by
     have : c = 40 := UInt8.toNat_inj.1 (by have : c.toNat = 40 := by omega
                                            rw [this]; rfl)
     exact this)
    cases hsy : symB c with
    | false =>
     rw [hsy] at hF
     rw [prs_syn hsk h40 hsy]
     clear hL
     repeat' (first|refine i_s rfl ?_|refine sw ?_|refine i_gt rfl ?_|refine i_gf rfl ?_|refine i_gd rfl ?_|refine c_t rfl ?_|refine c_f rfl ?_|refine i_alloc rfl ?_|(refine sp ?_ ?_ <;> try intro h)|refine sf rfl rfl hF ?_|refine i_ix rfl rfl h0 hg ?_)
     all_goals first
      | (exfalso; exact hne (by simpa using h))
      | (exfalso; exact h40' (by simpa using h))
      | (exfalso; clear hF hg hku hkul hs; simp_all; done)
      | skip
     refine e_ret ⟨rfl, _, rfl, rfl, rfl, rfl, ?_, rfl⟩
     rw [List.append_nil]
     exact rd_eq rfl rfl fun nm h => restr_mem nm h
    | true =>
     rw [hsy] at hF
     by_cases hd12 : d = 12
     · rw [prs_deep hsk (by simp [hsy]) hd12]
       subst hd12
       clear hL
       repeat' (first|refine i_s rfl ?_|refine sw ?_|refine i_gt rfl ?_|refine i_gf rfl ?_|refine i_gd rfl ?_|refine c_t rfl ?_|refine c_f rfl ?_|refine i_g rfl (fun h => ?_) (fun h => ?_)|refine sf rfl rfl hF ?_|refine i_ix rfl rfl h0 hg ?_)
       all_goals first
        | (exfalso; exact hne (by simpa using h))
        | (exfalso; exact h40' (by simpa using h))
        | (exfalso; clear hF hg hku hkul hs; simp_all; done)
        | skip
       refine e_ret ⟨rfl, _, rfl, rfl, rfl, rfl, ?_, rfl⟩
       rw [List.append_nil]
       exact rd_eq rfl rfl fun nm h => restr_mem nm h
     · have hd12' : ¬ (d : Int) = 12 := by omega
       clear hL
       repeat' (first|refine i_s rfl ?_|refine sw ?_|refine i_gt rfl ?_|refine i_gf rfl ?_|refine i_gd rfl ?_|refine c_t rfl ?_|refine c_f rfl ?_|refine i_alloc rfl ?_|(refine sp ?_ ?_ <;> try intro h)|refine sf rfl rfl hF ?_|refine i_ix rfl rfl h0 hg ?_)
       all_goals first
        | (exfalso; exact hne (by simpa using h))
        | (exfalso; exact h40' (by simpa using h))
        | (exfalso; exact hd12' (by simpa using h))
        | (exfalso; clear hF hg hku hkul hs; simp_all; done)
        | skip
       have htw := tw_pos (r := r) hsy
       have hcat : (c :: r).takeWhile symB ++ (c :: r).dropWhile symB = c :: r := List.takeWhile_append_dropWhile
       refine c_lp (ι := List UInt8) (fun u => [(0, rdN), (1, .int .i64 d), (6, .bptr 4032386 0), (7, .int .i64 ((t.length : Int) - (c :: r).length))])
        (fun u => (4032386, .box (.agg [.str [], .sl .p []])) :: rdSx t u ns) (fun u => u <:+ t ∧ u.length ≤ (c :: r).length ∧ u.dropWhile symB = (c :: r).dropWhile symB) (fun u => u.length) (c :: r) ⟨hku, Nat.le_refl _, rfl⟩ ft fun u hu => ?_
       obtain ⟨hu, hul, hud⟩ := hu
       have hutl := hu.length_le
       have hu0 : 0 ≤ ((t.length : Int) - u.length) := by omega
       by_cases hst : ∃ c' r', u = c' :: r' ∧ symB c' = true
       · obtain ⟨c', r', rfl, hs'⟩ := hst
         have hF' := f_sexpr_isSymbolByte c'
         rw [hs'] at hF'
         have hg' := suf_get hu rfl
         have hlt' : ((t.length : Int) - (c' :: r').length) < t.length := by simp only [List.length_cons]; omega
         have hsc := at_succ (t := t) (r := r') c'
         rw [List.dropWhile_cons_of_pos hs'] at hud
         clear hF hg
         repeat' (first|refine i_s rfl ?_|refine sw ?_|refine i_gt rfl ?_|refine i_gf rfl ?_|refine c_t rfl ?_|refine c_f rfl ?_|refine ja rfl rfl ?_|refine i_stb rfl ?_|refine i_g rfl (fun h => ?_) (fun h => ?_)|refine sf rfl rfl hF' ?_|refine i_ix rfl rfl hu0 hg' ?_)
         all_goals first
          | (exfalso; have := of_decide_eq_false h; omega)
          | skip
         simp only [List.length_cons] at hul
         refine e_lp r' ⟨(List.suffix_cons c' r').trans hu, by simp only [List.length_cons]; omega, hud⟩ (by simp) ⟨⟨rfl, rfl, rfl, rfl, trivial⟩, ⟨rfl, ?_, rfl, trivial⟩, rfl⟩
         rw [← hsc]; rfl
       · have hue : u = (c :: r).dropWhile symB := by
          rw [← hud]
          cases u with
          | nil => rfl
          | cons c' r' =>
           have : symB c' = false := by
            cases h : symB c' with
            | true => exact absurd ⟨c', r', rfl, h⟩ hst
            | false => rfl
           rw [List.dropWhile_cons_of_neg (by simp [this])]
         have hsli := slice_suf (t := t) (w := (c :: r).takeWhile symB) (u := (c :: r).dropWhile symB) (by rw [hcat]; exact hku)
         rw [hcat, ← hue] at hsli
         have hle : ((t.length : Int) - (c :: r).length) ≤ (t.length : Int) - u.length := by omega
         have hlong := @prs_long f d ns.length s r c [] hsk h40 hsy hd12
         have hsym := @prs_sym f d ns.length s r c [] hsk h40 hsy hd12
         rw [← hue] at hsym
         have hkl2 := hkl
         simp only [List.length_cons] at hkl2
         clear hue
         have hnx : ∀ c' r', u = c' :: r' → symB c' = false := fun c' r' e => by
          cases h : symB c' with
          | true => exact absurd ⟨c', r', e, h⟩ hst
          | false => rfl
         generalize (c :: r).takeWhile symB = w at *
         clear hst hF hg
         rcases u with _ | ⟨c', r'⟩
         · repeat' (first|refine i_s rfl ?_|refine sw ?_|refine i_gt rfl ?_|refine i_gf rfl ?_|refine c_f rfl ?_|refine i_g rfl (fun h => ?_) (fun h => ?_))
           all_goals first
            | (exfalso; have := of_decide_eq_true h; simp at this; done)
            | skip
           refine i_ssh rfl rfl rfl h0 hle (by simp only [List.length_cons, List.length_nil]; omega) ?_
           rw [hsli]
           repeat (first|refine i_s rfl ?_|refine sw ?_|refine i_stb rfl ?_)
           refine c_cond rfl (fun h => ?_) (fun h => ?_)
           · have hw12 : w.length > 12 := by have := of_decide_eq_true h; omega
             rw [hlong hw12]
             clear hlong hsym
             repeat' (first|refine i_s rfl ?_|refine sw ?_|refine i_stb rfl ?_)
             refine e_ret ⟨rfl, _, rfl, rfl, rfl, rfl, ?_, rfl⟩
             rw [List.append_nil]
             exact rd_eq rfl rfl fun nm h => restr_mem nm h
           · have hw12 : ¬ w.length > 12 := by have := of_decide_eq_false h; omega
             rw [hsym hw12]
             clear hlong hsym
             have hlen : (ns ++ [(⟨w, []⟩ : Sx)]).length ≤ 200000 := by simp only [List.length_append, List.length_singleton]; omega
             repeat (first|refine i_s rfl ?_|refine sw ?_)
             refine i_appM (c := (⟨w, []⟩ : Sx)) rfl rfl rfl rfl rfl (by omega) (by omega) ?_
             repeat' (first|refine i_len rfl ?_|refine i_s rfl ?_|refine sw ?_|refine jb rfl rfl ?_|refine i_stb rfl ?_)
             refine e_ret ⟨rfl, _, rfl, rfl, rfl, ?_, ?_, rfl⟩
             · unfold ndR
               rw [if_pos rfl]
               show V.tup [V.int .i64 (((ns ++ [(⟨w, []⟩ : Sx)]).length : Int) - 1), .int .i64 0] = V.tup [V.int .i64 (((ns.length + [(⟨w, []⟩ : Sx)].length : Nat) : Int) - 1), .int .i64 0]
               rw [List.length_append]
             · refine rd_eq rfl ?_ fun nm h => restr_mem nm h
               simp only [List.length_append, List.length_singleton]
               rfl
         · have hF' := f_sexpr_isSymbolByte c'
           rw [hnx c' r' rfl] at hF'
           have hg' := suf_get hu rfl
           have hlt' : ((t.length : Int) - (c' :: r').length) < t.length := by simp only [List.length_cons]; omega
           repeat' (first|refine i_s rfl ?_|refine sw ?_|refine i_gt rfl ?_|refine i_gf rfl ?_|refine c_f rfl ?_|refine i_g rfl (fun h => ?_) (fun h => ?_)|refine sf rfl rfl hF' ?_|refine i_ix rfl rfl hu0 hg' ?_)
           all_goals first
            | (exfalso; have := of_decide_eq_false h; omega)
            | skip
           refine i_ssh rfl rfl rfl h0 hle (by simp only [List.length_cons, List.length_nil]; omega) ?_
           rw [hsli]
           repeat (first|refine i_s rfl ?_|refine sw ?_|refine i_stb rfl ?_)
           refine c_cond rfl (fun h => ?_) (fun h => ?_)
           · have hw12 : w.length > 12 := by have := of_decide_eq_true h; omega
             rw [hlong hw12]
             clear hlong hsym
             repeat' (first|refine i_s rfl ?_|refine sw ?_|refine i_stb rfl ?_)
             refine e_ret ⟨rfl, _, rfl, rfl, rfl, rfl, ?_, rfl⟩
             rw [List.append_nil]
             exact rd_eq rfl rfl fun nm h => restr_mem nm h
           · have hw12 : ¬ w.length > 12 := by have := of_decide_eq_false h; omega
             rw [hsym hw12]
             clear hlong hsym
             have hlen : (ns ++ [(⟨w, []⟩ : Sx)]).length ≤ 200000 := by simp only [List.length_append, List.length_singleton]; omega
             repeat (first|refine i_s rfl ?_|refine sw ?_)
             refine i_appM (c := (⟨w, []⟩ : Sx)) rfl rfl rfl rfl rfl (by omega) (by omega) ?_
             repeat' (first|refine i_len rfl ?_|refine i_s rfl ?_|refine sw ?_|refine jb rfl rfl ?_|refine i_stb rfl ?_)
             refine e_ret ⟨rfl, _, rfl, rfl, rfl, ?_, ?_, rfl⟩
             · unfold ndR
               rw [if_pos rfl]
               show V.tup [V.int .i64 (((ns ++ [(⟨w, []⟩ : Sx)]).length : Int) - 1), .int .i64 0] = V.tup [V.int .i64 (((ns.length + [(⟨w, []⟩ : Sx)].length : Nat) : Int) - 1), .int .i64 0]
               rw [List.length_append]
             · refine rd_eq rfl ?_ fun nm h => restr_mem nm h
               simp only [List.length_append, List.length_singleton]
               rfl
theorem ct_all {G : Type} {H : HT G} (t : List UInt8) (ht : t.length ≤ 100000) : ∀ f : Nat, NodeC H t f ∧ ListC H t f
 | 0 => ⟨fun d s ns hd hs hb hf => by omega, fun d s ns hd hs hb hf => by omega⟩
 | f + 1 => ⟨ct_node t ht f (ct_all t ht f).2, ct_list t ht f (ct_all t ht f).1⟩
def rdQ (t : List UInt8) : PR := prs (2 * t.length + 1) true 0 t 0 []
def readF (t : List UInt8) : Flt := if t.length > 4096 then ⟨2, -1⟩ else if (rdQ t).code ≠ 0 then ⟨(rdQ t).code, (t.length : Int) - (rdQ t).rest.length⟩ else if sk (rdQ t).rest ≠ [] then ⟨1, (t.length : Int) - (sk (rdQ t).rest).length⟩
 else if (rdQ t).new.length > 300 then ⟨10, -1⟩ else okF
def readL (t : List UInt8) : List Sx := if readF t = okF then (rdQ t).new else []
theorem read_ok {t : List UInt8} (h : readF t = okF) : t.length ≤ 4096 ∧ (rdQ t).code = 0 ∧ sk (rdQ t).rest = [] ∧ (rdQ t).new.length ≤ 300 := by
 unfold readF at h
 split at h
 · cases h
 · split at h
   · rename_i h2
     injection h with h3 _
     exact absurd h3 h2
   · split at h
     · cases h
     · split at h
       · cases h
       · rename_i h1 h2 h3 h4
         exact ⟨by omega, by simpa using h2, by simpa using h3, by omega⟩
def c_sexpr_Read : Cmd :=
 (qS [qq 2 (.mov (.c (.sl .nil []))), qq 3 (.alloc 960194 (.agg [.int .i64 0, .int .i64 0]))]
 (qT (qS [qm 7 0, qq 8 (.len true (.t 7)), qv 9 .gtr [] 8 4096]
 (.cond (.t 9) (.seq (.ops [qq 10 (.build [.int .i64 0, .int .i64 0] [(0 , 1 , .c (.int .i64 2)), (1 , 1 , .c (.int .i64 (-1)))]), qq 2 (.mov (.c (.sl .nil []))), qs 2 3 10]) .ret) .skip))
 (.seq (.ops [qm 11 0, qq 12 (.build [.str [], .int .i64 0, .sl .nil []] [(0 , 1 , .t 11)]), qq 4 (.alloc 960259 (.agg [.str [], .int .i64 0, .sl .nil []])), qs 3 4 12]) (.nvb 4 2 962690 (.cut (qS [qq 14 (.call (.s [960259, 962690]) (.c (.fn 63 [])) [.t 4, .c (.int .i64 0)]), qm 13 14, qq 15 (.extract (.t 13) 0), qq 16 (.extract (.t 13) 1), qm 5 15, qm 6 16]
 (qT (qS [qm 17 6, qv 18 .eql [.i] 17 0]
 (.cond (.t 18) (qS [qq 19 (.call (.s [960259, 962690]) (.c (.fn 64 [])) [.t 4])]
 (qS [qf 20 1 4, ql 21 1 20, qm 22 0, qq 23 (.len true (.t 22)), qu 24 .lss [] 21 23]
 (.cond (.t 24) (.ops [qc 6 1]) .skip))) .skip))
 (qT (.block 0 (qS [qm 26 6, qv 27 .neq [.i] 26 0, qm 25 27]
 (.cond (.t 25) (.seq (.ops [qm 28 6, qf 29 1 4, ql 30 1 29, qq 31 (.build [.int .i64 0, .int .i64 0] [(0 , 1 , .t 28), (1 , 1 , .t 30)]), qq 2 (.mov (.c (.sl .nil []))), qs 2 3 31]) .ret) (qS [qf 33 2 4, ql 34 1 33, qn 35 34, qv 36 .gtr [] 35 300, qm 32 36]
 (.cond (.t 32) (.seq (.ops [qq 37 (.build [.int .i64 0, .int .i64 0] [(0 , 1 , .c (.int .i64 10)), (1 , 1 , .c (.int .i64 (-1)))]), qq 2 (.mov (.c (.sl .nil []))), qs 2 3 37]) .ret) .skip)))))
 (.seq (.ops [qf 38 2 4, ql 39 1 38, qq 40 (.build [.int .i64 0, .int .i64 0] []), qm 2 39, qs 2 3 40]) .ret)))))))))
def r_sexpr_Read : List RVar := [.tmp 2, .cell true 2 3]
def n_sexpr_Read : Nat := 41
theorem k_sexpr_Read : chkFn PG 15 n_sexpr_Read r_sexpr_Read c_sexpr_Read = true := by kernel_rfl
theorem f_sexpr_Read (t : List UInt8) (hl : t.length ≤ 4611686018427387904) : Fc PG 15 [.str t] (.tup [.sl .p ((readL t).map sxV), ftV (readF t)]) := by
 by_cases h1 : t.length > 4096
 · have e : readF t = ⟨2, -1⟩ := by unfold readF; rw [if_pos h1]
   have e2 : readL t = [] := by unfold readL; rw [e, if_neg (by simp [okF])]
   rw [e, e2]
   refine Fn.step mixed k_sexpr_Read ?_
   repeat' (first|refine i_s rfl ?_|refine sw ?_|refine i_stb rfl ?_|refine i_alloc rfl ?_|refine c_cond rfl (fun h => ?_) (fun h => ?_))
   all_goals first
    | exact e_ret ⟨rfl, _, rfl, rfl⟩
    | (exfalso; have := of_decide_eq_false h; omega)
 have hN := (ct_all (G := Unit) (H := noH) t (by omega) (2 * t.length + 1)).1 0 t [] (by omega) (List.suffix_refl t) (by simp; omega) (Nat.le_refl _)
 have hfa := prs_facts (2 * t.length + 1) true 0 t 0 []
 have hrf : readF t = if (rdQ t).code ≠ 0 then ⟨(rdQ t).code, (t.length : Int) - (rdQ t).rest.length⟩ else if sk (rdQ t).rest ≠ [] then ⟨1, (t.length : Int) - (sk (rdQ t).rest).length⟩ else if (rdQ t).new.length > 300 then ⟨10, -1⟩ else okF := by
  conv => lhs; unfold readF
  rw [if_neg h1]
 have hrl : readL t = if readF t = okF then (rdQ t).new else [] := rfl
 generalize readL t = RL at *
 generalize readF t = RF at *
 unfold rdQ at hrf hrl
 rw [show ([] : List Sx).length = 0 from rfl] at hN
 generalize prs (2 * t.length + 1) true 0 t 0 [] = q at *
 obtain ⟨f1, f2, f3, f4⟩ := hfa
 refine Fn.step mixed k_sexpr_Read ?_
 repeat' (first|refine i_s rfl ?_|refine sw ?_|refine i_stb rfl ?_|refine i_alloc rfl ?_|refine c_cond rfl (fun h => ?_) (fun h => ?_))
 all_goals first
  | (exfalso; have := of_decide_eq_true h; omega)
  | skip
 refine c_nvb rfl rfl rfl rfl ?_
 repeat refine sw ?_
 refine i_c rfl rfl rfl (hN _ (rd_eq (by rw [Int.sub_self]; rfl) rfl fun nm h => restr_mem nm h) ()) ?_
 rintro _ _ g ⟨rfl, rfl, rfl⟩
 by_cases hz : q.code = 0
 · rw [if_neg (by simp [hz])] at hrf
   unfold ndR
   rw [if_pos hz, hz]
   rw [List.nil_append]
   have hsl := (sk_suf q.rest).length_le
   have hrl1 := f1.length_le
   repeat (first|refine i_s rfl ?_|refine sw ?_|refine c_t rfl ?_)
   refine i_c rfl rfl rfl (ct_blanks t q.rest q.new (by omega) f1 _ (rd_eq rfl rfl fun nm h => restr_mem nm h) _) ?_
   rintro _ _ g ⟨rfl, rfl, rfl⟩
   refine i_nil ?_
   refine e_seq ?_
   refine c_cut [(0, .str t), (4, .bptr 960259 0), (6, .int .i64 0), (3, .bptr 960194 0)] ((960194, .box (.agg [.int .i64 0, .int .i64 0])) :: rdSx t (sk q.rest) q.new) ft ?_
   by_cases hk : sk q.rest = []
   · rw [if_neg (by simp [hk])] at hrf
     rw [hk]
     by_cases h3 : q.new.length > 300
     · rw [if_pos h3] at hrf
       rw [if_neg (by rw [hrf]; simp [okF])] at hrl
       rw [hrl, hrf]
       repeat' (first|refine i_len rfl ?_|refine i_s rfl ?_|refine sw ?_|refine c_t rfl ?_|refine c_f rfl ?_|refine i_stb rfl ?_|refine c_cond rfl (fun h => ?_) (fun h => ?_))
       all_goals first
        | exact e_ret ⟨rfl, _, rfl, rfl⟩
        | (exfalso; have := of_decide_eq_true h; simp at this; done)
        | (exfalso; have := of_decide_eq_false h; omega)
        | (exfalso; clear hN; simp_all; done)
     · rw [if_neg h3] at hrf
       rw [if_pos hrf] at hrl
       rw [hrl, hrf]
       repeat' (first|refine i_len rfl ?_|refine i_s rfl ?_|refine sw ?_|refine c_t rfl ?_|refine c_f rfl ?_|refine i_stb rfl ?_|refine c_cond rfl (fun h => ?_) (fun h => ?_))
       all_goals first
        | exact e_ret ⟨rfl, _, rfl, rfl⟩
        | (exfalso; have := of_decide_eq_true h; simp at this; done)
        | (exfalso; have := of_decide_eq_true h; omega)
        | (exfalso; clear hN; simp_all; done)
   · rw [if_pos hk] at hrf
     rw [if_neg (by rw [hrf]; simp [okF])] at hrl
     rw [hrl, hrf]
     have hpos := List.length_pos_iff.2 hk
     repeat' (first|refine i_len rfl ?_|refine i_s rfl ?_|refine sw ?_|refine c_t rfl ?_|refine c_f rfl ?_|refine i_stb rfl ?_|refine c_cond rfl (fun h => ?_) (fun h => ?_))
     all_goals first
      | exact e_ret ⟨rfl, _, rfl, rfl⟩
      | (exfalso; have := of_decide_eq_false h; omega)
      | (exfalso; clear hN; simp_all; omega)
 · rw [if_pos hz] at hrf
   have hne : RF ≠ okF := fun e => by rw [hrf] at e; injection e with e _; exact hz e
   rw [if_neg hne] at hrl
   rw [hrl, hrf]
   unfold ndR
   rw [if_neg hz]
   rw [List.nil_append]
   repeat' (first|refine i_len rfl ?_|refine i_s rfl ?_|refine sw ?_|refine i_stb rfl ?_|refine c_cond rfl (fun h => ?_) (fun h => ?_))
   all_goals first
    | (exfalso; exact hz (by simpa using h))
    | exact e_ret ⟨rfl, _, rfl, rfl⟩
    | (exfalso; clear hN hrf hrl; simp_all; done)
instance : DecidableEq Sx := fun a b => if h : a.sym = b.sym ∧ a.ch = b.ch then isTrue (by cases a; cases b; simp only at h; rw [h.1, h.2]) else isFalse (by rintro rfl; exact h ⟨rfl, rfl⟩)
end Hm
end
section
namespace Hm
open Go
theorem tx_head {l : List Sx} {i : Nat} {x : Sx} (h : lowTo l (i + 1)) (hx : l[i]? = some x) (hv : NV l i x) : ∃ c w, tx l i = c :: w ∧ blankB c = false ∧ c ≠ 41 := by
 rw [tx_eq h hx]
 split
 · exact ⟨40, _, rfl, by decide, by decide⟩
 · rename_i hne
   have h1 := hv.shape
   unfold shapeC at h1
   rw [if_neg hne] at h1
   split at h1
   · cases h1
   · rename_i h2
     simp only [Bool.not_eq_false, symbolB, Bool.and_eq_true, decide_eq_true_eq, List.all_eq_true] at h2
     match hs : x.sym, hne with
     | c :: w, _ =>
      have := h2.1 c (by rw [hs]; simp)
      exact ⟨c, w, rfl, symB_blank this, symB_41 this⟩
theorem take_split (l : List Sx) (a m k : Nat) : (l.drop a).take m ++ (l.drop (a + m)).take k = (l.drop a).take (m + k) := by
 rw [List.take_add, List.drop_drop]
theorem rd_tx {l : List Sx} {n : Nat} (ho : okTo l n) : ∀ (i : Nat), i < n → i < l.length → ∀ (d b : Nat) (u rest : List UInt8) (acc : List Int), d + dp l i ≤ 12 → b + sz l i = i + 1 → (∀ c z, rest = c :: z → symB c = false) → sk u = tx l i ++ rest → Rd true d u b acc rest ((l.drop b).take (sz l i)) [] := by
 intro i
 induction i using Nat.strongRecOn with
 | ind i ih =>
  intro hn hil d b u rest acc hd hb hr hu
  have hlow : lowTo l (i + 1) := fun j hj => ho.low j (by omega)
  obtain ⟨x, hx⟩ := get_some hil
  have hv := ho i hn x hx
  have hsz := sz_eq hlow
  rw [chL_get hx] at hsz
  have hdp := dp_eq hlow
  rw [chL_get hx] at hdp
  have htx := tx_eq hlow hx
  by_cases hs : x.sym = []
  · rw [if_pos hs] at htx
    obtain ⟨e, he⟩ := hv.chain
    have hce := chn_end he
    have key : ∀ (cs : List Int) (a : Nat), chn l i cs.reverse = some (a : Int) → (∀ c ∈ cs, c ∈ x.ch) → ∀ (u : List UInt8) (acc : List Int), sk u = joinF (cs.map fun c => tx l c.toNat) ++ 41 :: rest → Rd false d u a acc rest ((l.drop a).take (i - a)) (acc ++ cs) := by
     intro cs
     induction cs with
     | nil =>
      intro a ha _ u acc hu
      simp only [List.reverse_nil, chn, Option.some.injEq] at ha
      have : i - a = 0 := by omega
      rw [this, List.take_zero, List.append_nil]
      exact .close (by simpa [joinF] using hu)
     | cons c cs ihc =>
      intro a ha hm u acc hu
      rw [List.reverse_cons, chn_snoc] at ha
      cases hq : chn l i cs.reverse with
      | none => rw [hq] at ha; cases ha
      | some e =>
       rw [hq] at ha
       simp only at ha
       split at ha
       · cases ha
       · rename_i hc
         simp only [not_or, Decidable.not_not, Option.some.injEq] at hc ha
         have hci := hlow i (by omega) c (by rw [chL_get hx]; exact hm c (by simp))
         have hlc : lowTo l (c.toNat + 1) := fun j hj => ho.low j (by omega)
         obtain ⟨y, hy⟩ := get_some (l := l) (k := c.toNat) (by omega)
         obtain ⟨c0, w0, hh, hbk, h41⟩ := tx_head hlc hy (ho c.toNat (by omega) y hy)
         have hsc := sz_pos l c.toNat
         have hdc := maxN_mem (f := dp l) (hm c (by simp))
         have hle := chn_end hq
         obtain ⟨z, hz1, hz2, hz3⟩ : ∃ z, sk u = tx l c.toNat ++ z ∧ (∀ c' z', z = c' :: z' → symB c' = false) ∧ sk z = joinF (cs.map fun c => tx l c.toNat) ++ 41 :: rest := by
          cases cs with
          | nil => exact ⟨41 :: rest, by simpa [joinF] using hu, by rintro c' z' h; cases h; decide, by rw [sk_stop (by decide)]; rfl⟩
          | cons c2 cs =>
           refine ⟨32 :: (joinF ((c2 :: cs).map fun c => tx l c.toNat) ++ 41 :: rest), by simpa [joinF] using hu, by rintro c' z' h; cases h; decide, ?_⟩
           rw [sk_cons (by decide)]
           have hci2 := hlow i (by omega) c2 (by rw [chL_get hx]; exact hm c2 (by simp))
           obtain ⟨y2, hy2⟩ := get_some (l := l) (k := c2.toNat) (by omega)
           obtain ⟨c1, w1, hh1, hbk1, _⟩ := tx_head (fun j hj => ho.low j (by omega)) hy2 (ho c2.toNat (by omega) y2 hy2)
           cases cs with
           | nil => simp only [List.map_cons, List.map_nil, joinF]; rw [hh1]; exact sk_stop hbk1
           | cons c3 cs => simp only [List.map_cons, joinF]; rw [hh1]; exact sk_stop hbk1
         have hN := ih c.toNat (by omega) (by omega) (by omega) (d + 1) a (sk u) z [] (by omega) (by omega) hz2 (by rw [sk_idem]; exact hz1)
         have hlen : ((l.drop a).take (sz l c.toNat)).length = sz l c.toNat := by rw [List.length_take, List.length_drop]; omega
         have hL := ihc (a + sz l c.toNat) (by rw [hq]; congr 1; omega) (fun c' h' => hm c' (by simp [h'])) z (acc ++ [c]) hz3
         rw [show acc ++ c :: cs = acc ++ [c] ++ cs from by simp, show i - a = sz l c.toNat + (i - (a + sz l c.toNat)) from by omega, ← take_split]
         refine .next (by rw [hz1, hh]; simp [h41]) hN ?_
         rw [hlen, show ((a + sz l c.toNat : Nat) : Int) - 1 = c from by omega]
         exact hL
    have hbe : (b : Int) = e := by rw [hce.1, sumN_rev]; omega
    rw [← hbe] at he
    rw [htx] at hu
    rw [show sz l i = (i - b) + 1 from by omega, ← take_split, show b + (i - b) = i from by omega, List.drop_eq_getElem_cons hil, List.take_succ_cons, List.take_zero]
    rw [List.getElem?_eq_getElem hil, Option.some.injEq] at hx
    rw [hx]
    have hx2 : x = ⟨[], x.ch⟩ := by cases x; simp only at hs; rw [hs]
    have hK := key x.ch b he (fun c h => h) (joinF (x.ch.map fun c => tx l c.toNat) ++ [41] ++ rest) [] (by
     cases hcc : x.ch with
     | nil => simp only [List.map_nil, joinF, List.nil_append, List.cons_append]; exact sk_stop (by decide)
     | cons c2 cs =>
      have hci2 := hlow i (by omega) c2 (by unfold chL; rw [List.getElem?_eq_getElem hil, hx]; simp [hcc])
      obtain ⟨y2, hy2⟩ := get_some (l := l) (k := c2.toNat) (by omega)
      obtain ⟨c1, w1, hh1, hbk1, _⟩ := tx_head (fun j hj => ho.low j (by omega)) hy2 (ho c2.toNat (by omega) y2 hy2)
      cases cs with
      | nil => simp only [List.map_cons, List.map_nil, joinF, List.append_assoc, List.cons_append, List.nil_append]; rw [hh1]; exact sk_stop hbk1
      | cons c3 cs => simp only [List.map_cons, joinF, List.append_assoc, List.cons_append, List.nil_append]; rw [hh1]; exact sk_stop hbk1)
    rw [List.nil_append] at hK
    rw [hx2]
    have hp := dp_pos l i
    exact .lst (by rw [hu]; simp) (by omega) hK
  · rw [if_neg hs] at htx
    have h1 := hv.shape
    unfold shapeC at h1
    rw [if_neg hs] at h1
    split at h1
    · cases h1
    · rename_i h2
      split at h1
      · cases h1
      · rename_i h3
        have h3 : x.ch = [] := by simpa using h3
        simp only [Bool.not_eq_false, symbolB, Bool.and_eq_true, decide_eq_true_eq, List.all_eq_true] at h2
        rw [h3] at hsz hdp
        simp only [sumN, maxN] at hsz hdp
        rw [hsz, show b = i from by omega, List.drop_eq_getElem_cons hil, List.take_succ_cons, List.take_zero]
        rw [List.getElem?_eq_getElem hil, Option.some.injEq] at hx
        rw [hx]
        have hx2 : x = ⟨x.sym, []⟩ := by cases x; simp only at h3; rw [h3]
        rw [hx2]
        exact .sym (by rw [hu, htx]) hs h2.1 (by omega) hr (by omega)
theorem read_tx {l : List Sx} (h : SxOk l) (ht : (tx l (l.length - 1)).length ≤ 4096) : readF (tx l (l.length - 1)) = okF ∧ readL (tx l (l.length - 1)) = l := by
 obtain ⟨hl1, hl2⟩ := h.len
 have hr := h.root
 obtain ⟨x, hx⟩ := get_some (l := l) (k := l.length - 1) (by omega)
 have hv := h.node _ (by omega) x hx
 obtain ⟨c, w, hh, hb, _⟩ := tx_head (fun j hj => h.node.low j (by omega)) hx hv
 have hR := rd_tx h.node (l.length - 1) (by omega) (by omega) 0 0 (tx l (l.length - 1)) [] [] (by have := hv.depth; omega) (by omega) (by intro c z h; cases h) (by rw [List.append_nil, hh]; exact sk_stop hb)
 have hq := rd_to hR (2 * (tx l (l.length - 1)).length + 1) (by simp)
 rw [List.drop_zero, hr, List.take_length] at hq
 have hF : readF (tx l (l.length - 1)) = okF := by
  unfold readF rdQ
  rw [hq, if_neg (by omega), if_neg (by simp), if_neg (by simp [sk]), if_neg (by simp only; omega)]
 refine ⟨hF, ?_⟩
 unfold readL rdQ
 rw [if_pos hF, hq]
theorem rd_valid {m d s b acc r n ch} (h : Rd m d s b acc r n ch) : ∀ (L : List Sx), (∀ j, j < n.length → L[b + j]? = n[j]?) → okTo L b → okTo L (b + n.length) ∧ (m = true → 1 ≤ n.length ∧ sz L (b + n.length - 1) = n.length ∧ dp L (b + n.length - 1) + d ≤ 12 ∧ (tx L (b + n.length - 1)).length + 1 + 2 * r.length ≤ 2 * s.length) ∧
  (m = false → ∃ nc, ch = acc ++ nc ∧ chn L ((b + n.length : Nat) : Int) nc.reverse = some (b : Int) ∧ (∀ c ∈ nc, dp L c.toNat + d + 1 ≤ 12) ∧ (joinF (nc.map fun c => tx L c.toNat)).length + 2 + 2 * r.length ≤ 2 * s.length ∧ (nc ≠ [] → (joinF (nc.map fun c => tx L c.toNat)).length + 3 + 2 * r.length ≤ 2 * s.length)) := by
 induction h with
 | @sym d s b acc w r h h0 ha hl hr hd =>
  intro L hL ho
  have hw := List.length_pos_iff.2 h0
  have hb : L[b]? = some ⟨w, []⟩ := by have := hL 0 (by simp); simpa using this
  have hx : chL L b = [] := by unfold chL; rw [hb]
  have hlow : lowTo L (b + 1) := fun j hj => by
   by_cases e : j = b
   · subst e; intro c hc; rw [hx] at hc; cases hc
   · exact ho.low j (by omega)
  have hsz := sz_eq hlow
  have hdp := dp_eq hlow
  have htx := tx_eq hlow hb
  rw [hx] at hsz hdp
  simp only [sumN, maxN, Nat.add_zero] at hsz hdp
  rw [if_neg h0] at htx
  refine ⟨fun j hj x hjx => ?_, fun _ => ?_, fun h => by cases h⟩
  · simp only [List.length_singleton] at hj
    by_cases e : j = b
    · subst e
      rw [hb] at hjx
      cases hjx
      refine ⟨?_, ⟨_, rfl⟩, by omega⟩
      unfold shapeC
      rw [if_neg h0, if_neg (by simp only [Bool.not_eq_false, symbolB, Bool.and_eq_true, decide_eq_true_eq, List.all_eq_true]; exact ⟨ha, by omega, hl⟩), if_neg (by simp)]
    · exact ho j (by omega) x hjx
  · have hk := (sk_suf s).length_le
    rw [h, List.length_append] at hk
    simp only [List.length_singleton, Nat.add_sub_cancel]
    rw [hsz, hdp, htx]
    refine ⟨Nat.le_refl _, rfl, by omega, ?_⟩
    simp only
    omega
 | @lst d s b acc r r' new ch h hd hi ih =>
  intro L hL ho
  obtain ⟨i1, _, i3⟩ := ih L (fun j hj => by have := hL j (by simp; omega); rwa [List.getElem?_append_left hj] at this) ho
  obtain ⟨nc, e1, e2, e3, e4, e5⟩ := i3 rfl
  rw [List.nil_append] at e1
  subst e1
  have hb : L[b + new.length]? = some ⟨[], ch⟩ := by have := hL new.length (by simp); simpa using this
  have hx : chL L (b + new.length) = ch := by unfold chL; rw [hb]
  have hce := chn_end e2
  have hlow : lowTo L (b + new.length + 1) := fun j hj => by
   by_cases e : j = b + new.length
   · subst e; intro c hc; rw [hx] at hc; have := hce.2 c (List.mem_reverse.2 hc); omega
   · exact i1.low j (by omega)
  have hsz := sz_eq hlow
  have hdp := dp_eq hlow
  have htx := tx_eq hlow hb
  rw [hx] at hsz hdp
  rw [if_pos rfl] at htx
  have hse := hce.1
  rw [sumN_rev] at hse
  have hmx : maxN (dp L) ch + d + 1 ≤ 12 := by
   have : ∀ (cs : List Int), (∀ c ∈ cs, dp L c.toNat + d + 1 ≤ 12) → maxN (dp L) cs + d + 1 ≤ 12 := by
    intro cs
    induction cs with
    | nil => intro _; simp only [maxN]; omega
    | cons c cs ih => intro h; have := ih fun c' h' => h c' (by simp [h']); have := h c (by simp); simp only [maxN]; omega
   exact this ch e3
  have hk := (sk_suf s).length_le
  rw [h] at hk
  simp only [List.length_cons] at hk
  refine ⟨fun j hj x hjx => ?_, fun _ => ?_, fun h => by cases h⟩
  · simp only [List.length_append, List.length_singleton] at hj
    by_cases e : j = b + new.length
    · subst e
      rw [hb] at hjx
      cases hjx
      exact ⟨by unfold shapeC; rw [if_pos rfl], ⟨_, e2⟩, by omega⟩
    · exact i1 j (by omega) x hjx
  · simp only [List.length_append, List.length_singleton]
    rw [show b + (new.length + 1) - 1 = b + new.length from by omega, hsz, hdp, htx]
    simp only [List.length_cons, List.length_append, List.length_nil]
    omega
 | @close d s b acc r h =>
  intro L hL ho
  have hk := (sk_suf s).length_le
  rw [h] at hk
  simp only [List.length_cons] at hk
  refine ⟨by simpa using ho, (by intro h; cases h), fun _ => ⟨[], by simp, by simp [chn], by simp, by simp [joinF]; omega, fun h => absurd rfl h⟩⟩
 | @next d s b acc r1 n1 r2 n2 ch h hi hj i1 i2 =>
  intro L hL ho
  obtain ⟨a1, a2, _⟩ := i1 L (fun j hj => by have := hL j (by simp; omega); rwa [List.getElem?_append_left hj] at this) ho
  obtain ⟨b1, b2, b3, b4⟩ := a2 rfl
  obtain ⟨c1, _, c3⟩ := i2 L (fun j hj => by
   have := hL (n1.length + j) (by simp; omega)
   rw [List.getElem?_append_right (by omega)] at this
   rw [Nat.add_assoc, this]
   congr 1
   omega) a1
  obtain ⟨nc, e1, e2, e3, e4, e5⟩ := c3 rfl
  have hk := (sk_suf s).length_le
  refine ⟨by rw [List.length_append, ← Nat.add_assoc]; exact c1, (by intro h; cases h), fun _ => ⟨(((b + n1.length : Nat) : Int) - 1) :: nc, by rw [e1]; simp, ?_, ?_, ?_, ?_⟩⟩
  · rw [List.reverse_cons, chn_snoc, List.length_append, ← Nat.add_assoc, e2]
    simp only
    rw [if_neg (by omega)]
    congr 1
    rw [show (((b + n1.length : Nat) : Int) - 1).toNat = b + n1.length - 1 from by omega, b2]
    omega
  · intro c hc
    rcases List.mem_cons.1 hc with rfl | hc
    · rw [show (((b + n1.length : Nat) : Int) - 1).toNat = b + n1.length - 1 from by omega]; omega
    · exact e3 c hc
  · cases nc with
    | nil =>
     simp only [List.map_cons, List.map_nil, joinF, List.length_nil] at e4 ⊢
     rw [show (((b + n1.length : Nat) : Int) - 1).toNat = b + n1.length - 1 from by omega]
     omega
    | cons c2 cs =>
     have := e5 (by simp)
     simp only [List.map_cons, joinF, List.length_append, List.length_cons] at this ⊢
     rw [show (((b + n1.length : Nat) : Int) - 1).toNat = b + n1.length - 1 from by omega]
     omega
  · intro _
    cases nc with
    | nil =>
     simp only [List.map_cons, List.map_nil, joinF, List.length_nil] at e4 ⊢
     rw [show (((b + n1.length : Nat) : Int) - 1).toNat = b + n1.length - 1 from by omega]
     omega
    | cons c2 cs =>
     have := e5 (by simp)
     simp only [List.map_cons, joinF, List.length_append, List.length_cons] at this ⊢
     rw [show (((b + n1.length : Nat) : Int) - 1).toNat = b + n1.length - 1 from by omega]
     omega
theorem read_valid {t : List UInt8} (h : readF t = okF) : SxOk (readL t) ∧ (tx (readL t) ((readL t).length - 1)).length ≤ 2 * t.length := by
 obtain ⟨h1, h2, h3, h4⟩ := read_ok h
 have hR := rd_of _ true 0 t 0 [] (by simp) h2
 have hL : readL t = (rdQ t).new := by unfold readL; rw [if_pos h]
 have hv := rd_valid hR (rdQ t).new (fun j hj => by rw [Nat.zero_add]; rfl) (fun j hj => by omega)
 obtain ⟨v1, v2, _⟩ := hv
 obtain ⟨w1, w2, w3, w4⟩ := v2 rfl
 rw [hL]
 simp only [Nat.zero_add] at v1 w2 w3 w4
 refine ⟨⟨⟨w1, h4⟩, v1, w2⟩, ?_⟩
 have e : prs (2 * t.length + 1) true 0 t 0 [] = rdQ t := rfl
 rw [e] at w4
 omega
theorem rdOk_of {L : List Sx} (h : SxOk L) : RdOk L := by
 have key : ∀ (i : Nat) (x : Sx), L[i]? = some x → NV L i x := fun i x hx => h.node i (get_lt hx) x hx
 refine ⟨by have := h.len; omega, h.len.2, fun i x hx => ⟨?_, ?_⟩, fun i x hx => ?_⟩
 · have hlow := h.node.low
   have h1 := sz_le i L.length h.node (get_lt hx)
   have h2 := sz_eq (l := L) (i := i) (fun j hj => hlow j (by have := get_lt hx; omega))
   rw [chL_get hx] at h2
   have h3 : ∀ l : List Int, l.length ≤ sumN (sz L) l := by
    intro l
    induction l with
    | nil => simp [sumN]
    | cons c r ih => have := sz_pos L c.toNat; simp only [sumN, List.length_cons]; omega
   have := h3 x.ch
   have := get_lt hx
   have := h.len
   omega
 · intro c hc
   have := h.node.low i (get_lt hx) c (by rw [chL_get hx]; exact hc)
   have := get_lt hx
   omega
 · have := (key i x hx).shape
   unfold shapeC at this
   split at this
   · rename_i h1; rw [h1]; simp
   · split at this
     · simp at this
     · rename_i h1
       have h1 : symbolB x.sym = true := by simpa using h1
       unfold symbolB at h1
       simp only [Bool.and_eq_true, decide_eq_true_eq] at h1
       omega
theorem fidx_rng {α : Type} (p : α → Bool) (l : List α) : -1 ≤ fidx p l ∧ fidx p l ≤ l.length := by
 unfold fidx
 split
 · rename_i i h
   have := (List.findIdx?_eq_some_iff_getElem.1 h).1
   omega
 · omega
theorem rSym_len {L : List Sx} (hL : RdOk L) (i : Int) : (rSym L i).length ≤ 100 := by
 unfold rSym nd
 cases h : L[i.toNat]? with
 | none => simp
 | some x => exact hL.sym _ _ h
theorem rCh_len {L : List Sx} (hL : RdOk L) (i : Int) : (rCh L i).length ≤ 300 := by
 unfold rCh nd
 cases h : L[i.toNat]? with
 | none => simp
 | some x => exact (hL.ch _ _ h).1
theorem nmV_len {L : List Sx} (hL : RdOk L) (i : Int) (name : List UInt8) : (nmV L i name).length ≤ 300 := by
 have := rCh_len hL i
 unfold nmV
 split
 · simp
 · rename_i c r h
   rw [h] at this
   simp at this
   split
   · omega
   · simp
theorem arg_rng {L : List Sx} (hL : RdOk L) (O : List Obj) (hO : O.length ≤ 1000) (i : Int) : InR .i64 (argV O L i) := by
 unfold argV
 split
 · have := fidx_rng (fun o : Obj => o.name == rSym L i) O; unfold InR; omega
 · rename_i c r h
   split
   · have := atoi_rng r; unfold InR at this ⊢; simp only at this ⊢; omega
   · have := fidx_rng (fun o : Obj => o.name == rSym L i) O; unfold InR; omega
theorem atm_ok {L : List Sx} (hL : RdOk L) (d : Dom) (hO : d.objects.length ≤ 1000) (hP : d.preds.length ≤ 1000) (i : Int) : AtOk (atmV d L i) := by
 have := rCh_len hL i
 unfold atmV
 split
 · exact ⟨by simp, fun c hc => by simp at hc, by show InR .i64 0; unfold InR; omega⟩
 · rename_i c r h
   rw [h] at this
   refine ⟨by simp at this ⊢; omega, fun c hc => ?_, ?_⟩
   · obtain ⟨x, _, rfl⟩ := List.mem_map.1 hc
     exact arg_rng hL d.objects hO x
   · have := fidx_rng (fun p : Prd => p.name == rSym L c) d.preds
     show InR .i64 (prdX d.preds L c)
     unfold prdX InR
     omega
theorem llt_ok {L : List Sx} (hL : RdOk L) (d : Dom) (hO : d.objects.length ≤ 1000) (hP : d.preds.length ≤ 1000) (i : Int) : AtOk (lltV d L i).at_ := by
 unfold lltV
 split <;> exact atm_ok hL d hO hP _
theorem tyF_ok {L : List Sx} (hL : RdOk L) : ∀ (l : List Int) (q : List Typ × Bool), (∀ t ∈ q.1, t.name.length ≤ 100) → ∀ t ∈ (l.foldl (tyF L) q).1, t.name.length ≤ 100
 | [], q, h => h
 | a :: r, q, h => tyF_ok hL r (tyF L q a) fun t ht => by
  rcases List.mem_append.1 ht with ht | ht
  · exact h t ht
  · rw [List.mem_singleton.1 ht]; exact rSym_len hL _
theorem obF_ok {L : List Sx} (hL : RdOk L) (T : List Typ) : ∀ (l : List Int) (q : List Obj × Bool), (∀ t ∈ q.1, t.name.length ≤ 100) → ∀ t ∈ (l.foldl (obF T L) q).1, t.name.length ≤ 100
 | [], q, h => h
 | a :: r, q, h => obF_ok hL T r (obF T L q a) fun t ht => by
  rcases List.mem_append.1 ht with ht | ht
  · exact h t ht
  · rw [List.mem_singleton.1 ht]; exact rSym_len hL _
theorem prF_ok {L : List Sx} (hL : RdOk L) (T : List Typ) : ∀ (l : List Int) (q : List Prd × Bool), (∀ t ∈ q.1, t.name.length ≤ 100 ∧ t.types.length ≤ 300) → ∀ t ∈ (l.foldl (prF T L) q).1, t.name.length ≤ 100 ∧ t.types.length ≤ 300
 | [], q, h => h
 | a :: r, q, h => prF_ok hL T r (prF T L q a) fun t ht => by
  unfold prF at ht
  split at ht
  · exact h t ht
  · rename_i c s hc
    rcases List.mem_append.1 ht with ht | ht
    · exact h t ht
    · rw [List.mem_singleton.1 ht]
      have := rCh_len hL a
      rw [hc] at this
      exact ⟨rSym_len hL _, by simp at this ⊢; omega⟩
theorem schX_ok {L : List Sx} (hL : RdOk L) (d : Dom) (hO : d.objects.length ≤ 1000) (hP : d.preds.length ≤ 1000) (i : Int) (ok : Bool) : SchOk (schX d L i ok) := by
 unfold schX
 split
 · refine ⟨?_, ?_, ?_, ?_, ?_, ?_, ?_, ?_, ?_⟩
   · have := rSym_len hL (at8 (exV L i 8) 1); simp only [schB]; omega
   · have := rCh_len hL (at8 (exV L i 8) 2); simp only [schB, List.length_map]; omega
   · have := nmV_len hL (at8 (exV L i 8) 3) sDifferent; simp only [schB, List.length_map]; omega
   · have := nmV_len hL (at8 (exV L i 8) 4) sPre; simp only [schB, List.length_map]; omega
   · have := nmV_len hL (at8 (exV L i 8) 5) sAdd; simp only [schB, List.length_map]; omega
   · have := nmV_len hL (at8 (exV L i 8) 6) sDel; simp only [schB, List.length_map]; omega
   · intro x hx; obtain ⟨y, _, rfl⟩ := List.mem_map.1 hx; exact llt_ok hL d hO hP y
   · intro x hx; obtain ⟨y, _, rfl⟩ := List.mem_map.1 hx; exact atm_ok hL d hO hP y
   · intro x hx; obtain ⟨y, _, rfl⟩ := List.mem_map.1 hx; exact atm_ok hL d hO hP y
 · exact ⟨by simp [scZ], by simp [scZ], by simp [scZ], by simp [scZ], by simp [scZ], by simp [scZ], fun x hx => by simp [scZ] at hx, fun x hx => by simp [scZ] at hx, fun x hx => by simp [scZ] at hx⟩
theorem scF_ok {L : List Sx} (hL : RdOk L) (d : Dom) (hO : d.objects.length ≤ 1000) (hP : d.preds.length ≤ 1000) : ∀ (l : List Int) (q : List Sch × Bool), (∀ t ∈ q.1, SchOk t) → ∀ t ∈ (l.foldl (scF d L) q).1, SchOk t
 | [], q, h => h
 | a :: r, q, h => scF_ok hL d hO hP r (scF d L q a) fun t ht => by
  rcases List.mem_append.1 ht with ht | ht
  · exact h t ht
  · rw [List.mem_singleton.1 ht]; exact schX_ok hL d hO hP _ _
theorem rDom_ok {L : List Sx} (hL : RdOk L) (c : List Int) (hc : c.length ≤ 300) : DoOk (rDom L c) := by
 have n0 := nmV_len hL (at8 c 0) sTypes
 have n1 := nmV_len hL (at8 c 1) sObjects
 have n2 := nmV_len hL (at8 c 2) sPredicates
 have n3 := nmV_len hL (at8 c (c.length - 2)) sInit
 have n4 := nmV_len hL (at8 c (c.length - 1)) sGoal
 have l0 : (rTy L c).1.length ≤ 300 := by have := fold_len (tyF_len L) (nmV L (at8 c 0) sTypes) ([], nmG L (rootX L) sDomain && nmG L (at8 c 0) sTypes); unfold rTy; simp only [List.length_nil] at this; omega
 have l1 : (rOb L c).1.length ≤ 300 := by have := fold_len (obF_len (rTy L c).1 L) (nmV L (at8 c 1) sObjects) ([], (rTy L c).2 && nmG L (at8 c 1) sObjects); unfold rOb; simp only [List.length_nil] at this; omega
 have l2 : (rPr L c).1.length ≤ 300 := by have := fold_len (prF_len (rTy L c).1 L) (nmV L (at8 c 2) sPredicates) ([], (rOb L c).2 && nmG L (at8 c 2) sPredicates); unfold rPr; simp only [List.length_nil] at this; omega
 have l3 : (rSc L c).1.length ≤ 300 := by have := fold_len (scF_len (rD3 L c) L) ((c.take (c.length - 2)).drop 3) ([], (rPr L c).2); unfold rSc; simp only [List.length_nil, List.length_drop, List.length_take] at this; omega
 have hO : (rD3 L c).objects.length ≤ 1000 := by show (rOb L c).1.length ≤ _; omega
 have hP : (rD3 L c).preds.length ≤ 1000 := by show (rPr L c).1.length ≤ _; omega
 have t0 := tyF_ok hL (nmV L (at8 c 0) sTypes) ([], nmG L (rootX L) sDomain && nmG L (at8 c 0) sTypes) (fun t ht => by cases ht)
 have t1 := obF_ok hL (rTy L c).1 (nmV L (at8 c 1) sObjects) ([], (rTy L c).2 && nmG L (at8 c 1) sObjects) (fun t ht => by cases ht)
 have t2 := prF_ok hL (rTy L c).1 (nmV L (at8 c 2) sPredicates) ([], (rOb L c).2 && nmG L (at8 c 2) sPredicates) (fun t ht => by cases ht)
 have t3 := scF_ok hL (rD3 L c) hO hP ((c.take (c.length - 2)).drop 3) ([], (rPr L c).2) (fun t ht => by cases ht)
 refine ⟨⟨by show (rTy L c).1.length ≤ _; omega, fun t ht => ?_⟩, ⟨by show (rOb L c).1.length ≤ _; omega, fun t ht => ?_⟩, ⟨by show (rPr L c).1.length ≤ _; omega, fun t ht => ?_⟩, ⟨by show (rSc L c).1.length ≤ _; omega, fun t ht => t3 t ht⟩, ⟨?_, fun x hx => ?_⟩, ⟨?_, fun x hx => ?_⟩⟩
 · have := t0 t ht; omega
 · have := t1 t ht; omega
 · have := t2 t ht; omega
 · show (rIn L c).1.length ≤ _; unfold rIn; simp only [List.length_map]; omega
 · obtain ⟨y, _, rfl⟩ := List.mem_map.1 hx; exact atm_ok hL _ hO hP y
 · show (rGo L c).1.length ≤ _; unfold rGo; simp only [List.length_map]; omega
 · obtain ⟨y, _, rfl⟩ := List.mem_map.1 hx; exact llt_ok hL _ hO hP y
def zD : Dom := ⟨[], [], [], [], [], []⟩
def parseF (t : List UInt8) : Flt := if readF t ≠ okF then readF t else match domR (readL t) with
 | none => ⟨1, -8⟩
 | some d => domFault d
def parseD (t : List UInt8) : Dom := if readF t ≠ okF then zD else match domR (readL t) with
 | none => zD
 | some d => if domFault d ≠ okF then zD else d
end Hm
end
section
namespace Hm
open Go
set_option maxRecDepth 100000
set_option maxHeartbeats 4000000
theorem secX_len {L : List Sx} (hL : RdOk L) : (secX L).length ≤ 300 := (nm_ix hL (root_ix hL) sDomain).1
def c_domain_Parse : Cmd :=
 (qS [qq 2 (.alloc 832134 (.agg [.sl .nil [], .sl .nil [], .sl .nil [], .sl .nil [], .sl .nil [], .sl .nil []])), qq 3 (.alloc 832194 (.agg [.int .i64 0, .int .i64 0]))]
 (qS [qm 9 0, qk 10 15 [9], qm 8 10, qq 11 (.extract (.t 8) 0), qq 12 (.extract (.t 8) 1), qq 5 (.alloc 832322 (.agg [.int .i64 0, .int .i64 0])), qm 4 11, qs 2 5 12]
 (qT (qS [qL 13 2 5, qq 14 (.build [.int .i64 0, .int .i64 0] []), qq 15 (.bin .neq true [.i, .i] (.t 13) (.t 14))]
 (.cond (.t 15) (.seq (.opsT (.node 1 2 (.leaf [0, 1, 2, 3]) (.leaf [0, 2, 1, 3])) [qq 16 (.build [.sl .p [], .sl .p [], .sl .p [], .sl .p [], .sl .p [], .sl .p []] []), qL 17 2 5, qs 6 2 16, qs 2 3 17]) .ret) .skip))
 (.seq (.ops [qm 18 4, qq 19 (.build [.sl .nil [], .sl .nil [], .sl .nil [], .sl .nil [], .sl .nil [], .sl .nil [], .sl .nil [], .bool false] [(0 , 1 , .t 18), (7 , 1 , .c (.bool true))]), qx 20 833288 8 19, qm 6 20]) (.nvb 20 6 845187 (.nvb 20 5 845122 (.nvb 20 4 845063 (.nvb 20 3 844994 (.nvb 20 2 844930 (.nvb 20 1 844866 (.fzb 20 6 (.fzb 20 5 (.cut (qS [qm 21 6, qq 22 (.call (.s [833288, 844866, 844930, 844994, 845063]) (.c (.fn 58 [])) [.t 21])]
 (.seq (qS [qm 23 6, qq 24 (.nilck (.t 23)), qf 25 7 24, ql 26 1 25, qq 27 (.not (.t 26))]
 (.cond (.t 27) (.seq (.ops [qq 28 (.build [.sl .p [], .sl .p [], .sl .p [], .sl .p [], .sl .p [], .sl .p []] []), qq 29 (.build [.int .i64 0, .int .i64 0] [(0 , 1 , .c (.int .i64 1)), (1 , 1 , .c (.int .i64 (-8)))]), qs 6 2 28, qs 2 3 29]) .ret) .skip)) (.fzb 6 4 (.fzb 6 3 (.fzb 6 2 (.fzb 6 1 (.cut (qT (qS [qm 30 6, qq 31 (.nilck (.t 30)), qf 32 1 31, qL 33 6 32, qk 34 8 [33], qq 7 (.alloc 832450 (.agg [.int .i64 0, .int .i64 0])), qs 2 7 34]
 (qS [qL 35 2 7, qq 36 (.build [.int .i64 0, .int .i64 0] []), qq 37 (.bin .neq true [.i, .i] (.t 35) (.t 36))]
 (.cond (.t 37) (.seq (.opsT (.node 1 2 (.leaf [0, 1, 2, 3]) (.leaf [0, 2, 1, 3])) [qq 38 (.build [.sl .p [], .sl .p [], .sl .p [], .sl .p [], .sl .p [], .sl .p []] []), qL 39 2 7, qs 6 2 38, qs 2 3 39]) .ret) .skip)))
 (.seq (.ops [qm 40 6, qq 41 (.nilck (.t 40)), qf 42 1 41, qL 43 6 42, qq 44 (.build [.int .i64 0, .int .i64 0] []), qs 6 2 43, qs 2 3 44]) .ret))))))))))))))))))))))
def r_domain_Parse : List RVar := [.cell true 6 2, .cell true 2 3]
def n_domain_Parse : Nat := 45
theorem k_domain_Parse : chkFn PG 13 n_domain_Parse r_domain_Parse c_domain_Parse = true := by kernel_rfl
theorem f_domain_Parse (t : List UInt8) (hl : t.length ≤ 4611686018427387904) : Fc PG 13 [.str t] (.tup [domV (parseD t), ftV (parseF t)]) := by
 have hR := f_sexpr_Read t hl
 by_cases hr : readF t = okF
 · have hv := (read_valid hr).1
   have hL := rdOk_of hv
   have e1 : parseF t = (match domR (readL t) with | none => ⟨1, -8⟩ | some d => domFault d) := by unfold parseF; exact if_neg (by simp [hr])
   have e2 : parseD t = (match domR (readL t) with | none => zD | some d => if domFault d ≠ okF then zD else d) := by unfold parseD; exact if_neg (by simp [hr])
   rw [hr] at hR
   generalize readL t = L at *
   have hC := ct_rdomain L hL Unit noH
   have hdo := rDom_ok hL (secX L) (secX_len hL)
   have hV := f_domain_Validate (rDom L (secX L)) hdo
   have e3 : domR L = if domX L (secX L) = true then some (rDom L (secX L)) else none := rfl
   generalize rDom L (secX L) = R at *
   generalize domX L (secX L) = ok at *
   refine Fn.step mixed k_domain_Parse ?_
   repeat' (first|refine i_s rfl ?_|refine sw ?_|refine c_f rfl ?_|refine i_stb rfl ?_|refine i_alloc rfl ?_|refine i_box rfl rfl ?_|refine sf rfl rfl hR ?_|fail)
   all_goals first
    | (exfalso; clear hR hC hV; simp at *; done)
    | skip
   clear hR
   refine c_nvb rfl rfl rfl rfl ?_
   refine c_nvb rfl rfl rfl rfl ?_
   refine c_nvb rfl rfl rfl rfl ?_
   refine c_nvb rfl rfl rfl rfl ?_
   refine c_nvb rfl rfl rfl rfl ?_
   refine c_nvb rfl rfl rfl rfl ?_
   refine c_fzb rfl rfl rfl rfl ?_
   refine c_fzb rfl rfl rfl rfl ?_
   repeat' (first|refine i_s rfl ?_|refine sw ?_|fail)
   refine i_cs rfl rfl rfl rfl (hC _) ?_
   rintro _ _ g ⟨⟨rfl, d', rfl, hd'⟩, rfl⟩
   cases ok with
   | false =>
    rw [if_neg (by simp)] at e3
    rw [e3] at e1 e2
    simp only at e1 e2
    rw [e1, e2]
    clear hC hV hd'
    repeat' (first|refine i_s rfl ?_|refine sw ?_|refine c_t rfl ?_|refine i_stb rfl ?_)
    all_goals first
     | (exfalso; simp at *; done)
     | exact e_ret ⟨rfl, _, rfl, rfl⟩
   | true =>
    have hd' := hd' rfl
    subst hd'
    rw [if_pos rfl] at e3
    rw [e3] at e1 e2
    simp only at e1 e2
    rw [e1, e2]
    clear hC e1 e2 e3
    repeat' (first|refine i_s rfl ?_|refine sw ?_|refine c_f rfl ?_)
    all_goals first
     | (exfalso; clear hV; simp at *; done)
     | skip
    refine c_fzb rfl rfl rfl rfl ?_
    refine c_fzb rfl rfl rfl rfl ?_
    refine c_fzb rfl rfl rfl rfl ?_
    refine c_fzb rfl rfl rfl rfl ?_
    by_cases hf : domFault d' = okF
    · rw [if_neg (by simp [hf]), hf]
      rw [hf] at hV
      repeat' (first|refine i_s rfl ?_|refine sw ?_|refine c_f rfl ?_|refine i_stb rfl ?_|refine i_alloc rfl ?_|refine sf rfl rfl hV ?_|fail)
      all_goals first
       | (exfalso; clear hV; simp at *; done)
       | exact e_ret ⟨rfl, _, rfl, rfl⟩
    · rw [if_pos hf]
      repeat' (first|refine i_s rfl ?_|refine sw ?_|refine i_stb rfl ?_|refine i_alloc rfl ?_|(refine sp ?_ ?_ <;> try intro h)|refine sf rfl rfl hV ?_|fail)
      all_goals first
       | (exact absurd (eq_ok h) hf)
       | exact e_ret ⟨rfl, _, rfl, rfl⟩
 · have e1 : parseF t = readF t := by unfold parseF; rw [if_pos hr]
   have e2 : parseD t = zD := by unfold parseD; rw [if_pos hr]
   rw [e1, e2]
   refine Fn.step mixed k_domain_Parse ?_
   repeat' (first|refine i_s rfl ?_|refine sw ?_|refine i_stb rfl ?_|refine i_alloc rfl ?_|refine i_box rfl rfl ?_|(refine sp ?_ ?_ <;> try intro h)|refine sf rfl rfl hR ?_|fail)
   all_goals first
    | (exact absurd (eq_ok h) hr)
    | exact e_ret ⟨rfl, _, rfl, rfl⟩
end Hm
end
section
namespace Hm
open Go
theorem num_of {s : List UInt8} {n : Int} (h : numO s = some n) : numG s = true ∧ atoiN s = n := by
 unfold numO at h
 split at h
 · rename_i hc
   obtain ⟨h1, h2, h3, h4⟩ := hc
   cases h
   have ha := atoi_dig h4
   rw [h3] at ha
   have e1 : atoiN s = (valD s : Int) := by unfold atoiN; rw [ha]
   have e2 : atoiE s = true := by unfold atoiE; rw [ha]
   have e3 : Lib.itoa (valD s : Int) = s := by rw [itoa_dig, h3]
   refine ⟨?_, e1⟩
   unfold numG
   rw [e1, e2, e3]
   simp
   omega
 · cases h
structure TrX (L : List Sx) (T : Int → Tr) : Prop where
 rd : RdOk L
 t : ∀ i, Ix L i → T i = if rSym L i = [] then .lst ((rCh L i).map T) else .sym (rSym L i)
theorem t_sym {L : List Sx} {T : Int → Tr} (hT : TrX L T) {i : Int} (hi : Ix L i) {s : List UInt8} (h : T i = .sym s) : rSym L i = s ∧ symG L i = true := by
 have := hT.t i hi
 rw [h] at this
 split at this
 · cases this
 · rename_i hn
   injection this with e
   exact ⟨e.symm, by unfold symG; exact decide_eq_true hn⟩
theorem t_lst {L : List Sx} {T : Int → Tr} (hT : TrX L T) {i : Int} (hi : Ix L i) {l : List Tr} (h : T i = .lst l) : chG L i = true ∧ (rCh L i).map T = l := by
 have := hT.t i hi
 rw [h] at this
 split at this
 · rename_i hn
   injection this with e
   exact ⟨by unfold chG; exact decide_eq_true hn, e.symm⟩
 · cases this
theorem t_sec {L : List Sx} {T : Int → Tr} (hT : TrX L T) {i : Int} (hi : Ix L i) {name : List UInt8} {r : List Tr} (h : secO name (T i) = some r) : nmG L i name = true ∧ (nmV L i name).map T = r := by
 cases hx : T i with
 | sym s => rw [hx] at h; simp [secO] at h
 | lst l =>
  obtain ⟨h1, h2⟩ := t_lst hT hi hx
  rw [hx] at h
  have hix := ch_ix hT.rd hi
  cases hc : rCh L i with
  | nil => rw [hc] at h2; subst h2; simp [secO] at h
  | cons c q =>
   rw [hc] at h2 hix
   subst h2
   simp only [List.map_cons] at h
   cases hy : T c with
   | lst m => rw [hy] at h; simp [secO] at h
   | sym s =>
    obtain ⟨h3, h4⟩ := t_sym hT hix.tail.1 hy
    rw [hy] at h
    simp only [secO] at h
    split at h
    · rename_i e
      cases h
      rw [e] at h3
      unfold nmG nmV
      rw [hc]
      simp [h1, h3, h4]
    · cases h
theorem t_pair {L : List Sx} {T : Int → Tr} (hT : TrX L T) {i : Int} (hi : Ix L i) {a b : Tr} (h : pairO (T i) = some (a, b)) : exG L i 2 = true ∧ Ix L (p0 L i) ∧ Ix L (p1 L i) ∧ T (p0 L i) = a ∧ T (p1 L i) = b := by
 cases hx : T i with
 | sym s => rw [hx] at h; simp [pairO] at h
 | lst l =>
  obtain ⟨h1, h2⟩ := t_lst hT hi hx
  rw [hx] at h
  have hix := ch_ix hT.rd hi
  match l, h with
  | [x, y], h =>
   simp only [pairO, Option.some.injEq, Prod.mk.injEq] at h
   obtain ⟨rfl, rfl⟩ := h
   match hc : rCh L i, h2 with
   | [c, e], h2 =>
    simp only [List.map_cons, List.map_nil, List.cons.injEq, and_true] at h2
    rw [hc] at hix
    have hv : exV L i 2 = [c, e] := by unfold exV; rw [hc]; rfl
    refine ⟨?_, ?_, ?_, ?_, ?_⟩
    · unfold exG; rw [hc, h1]; rfl
    · unfold p0 at8; rw [hv]; exact hix.2 c (by simp)
    · unfold p1 at8; rw [hv]; exact hix.2 e (by simp)
    · unfold p0 at8; rw [hv]; exact h2.1
    · unfold p1 at8; rw [hv]; exact h2.2
  | [], h => simp [pairO] at h
  | [x], h => simp [pairO] at h
  | x :: y :: z :: r, h => simp [pairO] at h
theorem t_all {L : List Sx} {T : Int → Tr} (hT : TrX L T) {β : Type} {f : Tr → Option β} {V : Int → β} {G : Int → Bool} : ∀ {l : List Int} {out : List β}, Ixs L l → (∀ i, Ix L i → ∀ q, f (T i) = some q → G i = true ∧ V i = q) → allO f (l.map T) = some out → l.all G = true ∧ l.map V = out
 | [], out, _, _, h => by simp only [List.map_nil, allO, Option.some.injEq] at h; subst h; exact ⟨rfl, rfl⟩
 | i :: r, out, hl, hp, h => by
  simp only [List.map_cons, allO] at h
  cases h1 : f (T i) with
  | none => rw [h1] at h; cases h
  | some q =>
   cases h2 : allO f (r.map T) with
   | none => rw [h1, h2] at h; cases h
   | some m =>
    rw [h1, h2] at h
    simp only [Option.some.injEq] at h
    subst h
    obtain ⟨a, b⟩ := hp i hl.tail.1 q h1
    obtain ⟨c, d⟩ := t_all hT hl.tail.2 hp h2
    exact ⟨by rw [List.all_cons, a, c]; rfl, by rw [List.map_cons, b, d]⟩
theorem t_typ {L : List Sx} {T : Int → Tr} (hT : TrX L T) {ts : List Typ} {i : Int} (hi : Ix L i) {q : Int} (h : typO ts (T i) = some q) : typG ts L i = true ∧ typV ts L i = q := by
 cases hx : T i with
 | lst l => rw [hx] at h; simp [typO] at h
 | sym s =>
  obtain ⟨h1, h2⟩ := t_sym hT hi hx
  rw [hx] at h
  simp only [typO] at h
  have e : typV ts L i = fidx (fun t => t.name == s) ts := by unfold typV; rw [h1]
  unfold typG
  rw [e, h1, h2]
  split at h
  · rename_i k hk
    cases h
    have e2 : fidx (fun t : Typ => t.name == s) ts = k := by unfold fidx; rw [hk]
    rw [e2]
    simp
  · rename_i hk
    have e3 : fidx (fun t : Typ => t.name == s) ts = -1 := by unfold fidx; rw [hk]
    rw [e3]
    split at h
    · rename_i e2
      cases h
      simp [e2]
    · cases h
theorem t_arg {L : List Sx} {T : Int → Tr} (hT : TrX L T) {d : Dom} {i : Int} (hi : Ix L i) {q : Int} (h : argO d (T i) = some q) : argG d.objects L i = true ∧ argV d.objects L i = q := by
 cases hx : T i with
 | lst l => rw [hx] at h; simp [argO] at h
 | sym s =>
  obtain ⟨h1, h2⟩ := t_sym hT hi hx
  rw [hx] at h
  cases s with
  | nil => simp [argO] at h
  | cons c r =>
   simp only [argO] at h
   unfold argG argV
   rw [h1]
   simp only
   split at h
   · rename_i hc
     obtain ⟨n, hn, rfl⟩ := Option.map_eq_some_iff.1 h
     obtain ⟨a, b⟩ := num_of hn
     rw [if_pos hc, if_pos hc, a, b]
     exact ⟨rfl, rfl⟩
   · rename_i hc
     rw [if_neg hc, if_neg hc]
     cases hf : d.objects.findIdx? (fun o => o.name == c :: r) with
     | none => rw [hf] at h; simp at h
     | some n =>
      rw [hf] at h
      have h : (n : Int) = q := by simpa using h
      have e : fidx (fun o : Obj => o.name == c :: r) d.objects = n := by unfold fidx; rw [hf]
      rw [e, h]
      simp
      omega
theorem t_at {L : List Sx} {T : Int → Tr} (hT : TrX L T) {d : Dom} {i : Int} (hi : Ix L i) {q : At} (h : atO d (T i) = some q) : atmG d L i = true ∧ atmV d L i = q := by
 cases hx : T i with
 | sym s => rw [hx] at h; simp [atO] at h
 | lst l =>
  obtain ⟨h1, h2⟩ := t_lst hT hi hx
  rw [hx] at h
  have hix := ch_ix hT.rd hi
  cases hc : rCh L i with
  | nil => rw [hc] at h2; subst h2; simp [atO] at h
  | cons c m =>
   rw [hc] at h2 hix
   subst h2
   simp only [List.map_cons] at h
   cases hy : T c with
   | lst m => rw [hy] at h; simp [atO] at h
   | sym s =>
    obtain ⟨h3, h4⟩ := t_sym hT hix.tail.1 hy
    rw [hy] at h
    simp only [atO] at h
    split at h
    · rename_i k hk
      obtain ⟨az, ha, rfl⟩ := Option.map_eq_some_iff.1 h
      obtain ⟨a, b⟩ := t_all hT (G := argG d.objects L) (V := argV d.objects L) hix.tail.2 (fun i hi q hq => t_arg hT hi hq) ha
      have e : prdX d.preds L c = k := by unfold prdX fidx; rw [h3, hk]
      unfold atmG atmV
      rw [hc]
      simp only
      rw [e, h1, h4, a, b]
      simp
    · cases h
theorem t_lit {L : List Sx} {T : Int → Tr} (hT : TrX L T) {d : Dom} {i : Int} (hi : Ix L i) {q : Lit} (h : litO d (T i) = some q) : lltG d L i = true ∧ lltV d L i = q := by
 have hch : chG L i = true := by
  cases hx : T i with
  | sym s => rw [hx] at h; simp [litO, isNot, atO] at h
  | lst l => exact (t_lst hT hi hx).1
 have hn : ∀ b, notX L i = some b → isNot (T i) = some (T b) := fun b hb => by
  unfold notX at hb
  split at hb
  · rename_i x y hc
    split at hb
    · rename_i hs
      cases hb
      have hix := ch_ix hT.rd hi
      rw [hc] at hix
      have ht := hT.t i hi
      have hs0 : rSym L i = [] := by unfold chG at hch; exact of_decide_eq_true hch
      rw [if_pos hs0, hc] at ht
      have hx := hT.t x (hix.2 x (by simp))
      rw [if_neg (by rw [hs]; decide), hs] at hx
      rw [ht]
      simp only [List.map_cons, List.map_nil, hx, isNot, if_true]
    · cases hb
  · cases hb
 have hn2 : notX L i = none → isNot (T i) = none := fun hb => by
  cases hx : isNot (T i) with
  | none => rfl
  | some u =>
   exfalso
   cases ht : T i with
   | sym s => rw [ht] at hx; simp [isNot] at hx
   | lst l =>
    obtain ⟨_, h2⟩ := t_lst hT hi ht
    rw [ht] at hx
    have hix := ch_ix hT.rd hi
    match l, hx, h2 with
    | [.sym s, v], hx, h2 =>
     simp only [isNot] at hx
     split at hx
     · rename_i hs
       have hlen : (rCh L i).length = 2 := by have := congrArg List.length h2; simpa using this
       match hc : rCh L i, hlen with
       | [c, e], _ =>
        rw [hc] at h2
        simp only [List.map_cons, List.map_nil, List.cons.injEq, and_true] at h2
        rw [hc] at hix
        obtain ⟨h3, _⟩ := t_sym hT (hix.2 c (by simp)) h2.1
        unfold notX at hb
        rw [hc] at hb
        simp only at hb
        rw [if_pos (by rw [h3, hs])] at hb
        cases hb
     · cases hx
    | [], hx, _ => simp [isNot] at hx
    | [x], hx, _ => simp [isNot] at hx
    | .lst m :: v :: r, hx, _ => simp [isNot] at hx
    | .sym s :: v :: w :: r, hx, _ => simp [isNot] at hx
 unfold lltG lltV
 rw [hch]
 unfold litO at h
 cases hb : notX L i with
 | some b =>
  rw [hn b hb] at h
  obtain ⟨a, ha, rfl⟩ := Option.map_eq_some_iff.1 h
  obtain ⟨u, v⟩ := t_at hT (notX_ix hT.rd hi hb) ha
  simp only
  rw [u, v]
  exact ⟨rfl, rfl⟩
 | none =>
  rw [hn2 hb] at h
  obtain ⟨a, ha, rfl⟩ := Option.map_eq_some_iff.1 h
  obtain ⟨u, v⟩ := t_at hT hi ha
  simp only
  rw [u, v]
  exact ⟨rfl, rfl⟩
theorem t_nbr {L : List Sx} {T : Int → Tr} (hT : TrX L T) {i : Int} (hi : Ix L i) {n : Int} (h : nbrO (T i) = some n) : (symG L i && numG (rSym L i)) = true ∧ atoiN (rSym L i) = n := by
 cases hx : T i with
 | lst l => rw [hx] at h; simp [nbrO] at h
 | sym s =>
  obtain ⟨h1, h2⟩ := t_sym hT hi hx
  rw [hx] at h
  obtain ⟨a, b⟩ := num_of (show numO s = some n from h)
  rw [h1, h2, a, b]
  exact ⟨rfl, rfl⟩
theorem t_diff {L : List Sx} {T : Int → Tr} (hT : TrX L T) {i : Int} (hi : Ix L i) {q : Int × Int} (h : diffO (T i) = some q) : difG L i = true ∧ difV L i = q := by
 unfold diffO at h
 cases hp : pairO (T i) with
 | none => rw [hp] at h; cases h
 | some ab =>
  obtain ⟨a, b⟩ := ab
  obtain ⟨h1, x0, x1, h2, h3⟩ := t_pair hT hi hp
  rw [hp] at h
  simp only at h
  cases ha : nbrO a with
  | none => rw [ha] at h; cases h
  | some x =>
   cases hb : nbrO b with
   | none => rw [ha, hb] at h; cases h
   | some y =>
    rw [ha, hb] at h
    simp only [Option.some.injEq] at h
    subst h
    obtain ⟨u0, v0⟩ := t_nbr hT x0 (by rw [h2]; exact ha)
    obtain ⟨u1, v1⟩ := t_nbr hT x1 (by rw [h3]; exact hb)
    unfold p0 at u0 v0
    unfold p1 at u1 v1
    unfold difG difV
    rw [h1, u0, u1, v0, v1]
    exact ⟨rfl, rfl⟩
theorem t_sch {L : List Sx} {T : Int → Tr} (hT : TrX L T) {d : Dom} {i : Int} (hi : Ix L i) {s : Sch} (h : schO d (T i) = some s) : schX d L i true = s ∧ schK d L i true = true := by
 cases hx : T i with
 | sym _ => rw [hx] at h; simp [schO] at h
 | lst l =>
  obtain ⟨h1, h2⟩ := t_lst hT hi hx
  rw [hx] at h
  have hix := ch_ix hT.rd hi
  unfold schO at h
  split at h
  · rename_i act name tys df pr ad de c heq
    cases heq
    split at h
    · rename_i ha
      split at h
      · rename_i ts dl pl al xl n e0 e1 e2 e3 e4 e5
        cases h
        have hlen : (rCh L i).length = 8 := by have := congrArg List.length h2; simpa using this
        match hc : rCh L i, hlen with
        | [c0, c1, c2, c3, c4, c5, c6, c7], _ =>
         rw [hc] at h2
         simp only [List.map_cons, List.map_nil, List.cons.injEq, and_true] at h2
         obtain ⟨q0, q1, q2, q3, q4, q5, q6, q7⟩ := h2
         rw [hc] at hix
         have hv : exV L i 8 = [c0, c1, c2, c3, c4, c5, c6, c7] := by unfold exV; rw [hc]; rfl
         obtain ⟨a0, b0⟩ := t_sym hT (hix.2 c0 (by simp)) q0
         obtain ⟨a1, b1⟩ := t_sym hT (hix.2 c1 (by simp)) q1
         obtain ⟨g2, m2⟩ := t_lst hT (hix.2 c2 (by simp)) q2
         obtain ⟨k2, v2⟩ := t_all hT (G := typG d.types L) (V := typV d.types L) (ch_ix hT.rd (hix.2 c2 (by simp))) (fun i hi q hq => t_typ hT hi hq) (by rw [m2]; exact e0)
         obtain ⟨r3, s3, f3⟩ := Option.bind_eq_some_iff.1 e1
         obtain ⟨r4, s4, f4⟩ := Option.bind_eq_some_iff.1 e2
         obtain ⟨r5, s5, f5⟩ := Option.bind_eq_some_iff.1 e3
         obtain ⟨r6, s6, f6⟩ := Option.bind_eq_some_iff.1 e4
         obtain ⟨n3, m3⟩ := t_sec hT (hix.2 c3 (by simp)) (by rw [q3]; exact s3)
         obtain ⟨n4, m4⟩ := t_sec hT (hix.2 c4 (by simp)) (by rw [q4]; exact s4)
         obtain ⟨n5, m5⟩ := t_sec hT (hix.2 c5 (by simp)) (by rw [q5]; exact s5)
         obtain ⟨n6, m6⟩ := t_sec hT (hix.2 c6 (by simp)) (by rw [q6]; exact s6)
         obtain ⟨k3, v3⟩ := t_all hT (G := difG L) (V := difV L) (nm_ix hT.rd (hix.2 c3 (by simp)) _) (fun i hi q hq => t_diff hT hi hq) (by rw [m3]; exact f3)
         obtain ⟨k4, v4⟩ := t_all hT (G := lltG d L) (V := lltV d L) (nm_ix hT.rd (hix.2 c4 (by simp)) _) (fun i hi q hq => t_lit hT hi hq) (by rw [m4]; exact f4)
         obtain ⟨k5, v5⟩ := t_all hT (G := atmG d L) (V := atmV d L) (nm_ix hT.rd (hix.2 c5 (by simp)) _) (fun i hi q hq => t_at hT hi hq) (by rw [m5]; exact f5)
         obtain ⟨k6, v6⟩ := t_all hT (G := atmG d L) (V := atmV d L) (nm_ix hT.rd (hix.2 c6 (by simp)) _) (fun i hi q hq => t_at hT hi hq) (by rw [m6]; exact f6)
         obtain ⟨k7, v7⟩ := t_nbr hT (hix.2 c7 (by simp)) (by rw [q7]; exact (show nbrO (.sym c) = some n from e5))
         have hG : exG L i 8 = true := by unfold exG; rw [hc, h1]; rfl
         have hs : scL L i true = true := by
          unfold scL
          rw [hG, hv]
          show (true && true && decide (rSym L c0 = sAction)) = true
          rw [a0, ha]
          simp
         refine ⟨?_, ?_⟩
         · unfold schX
           rw [if_pos hs, hv]
           show (⟨rSym L c1, (rCh L c2).map (typV d.types L), (nmV L c3 sDifferent).map (difV L), (nmV L c4 sPre).map (lltV d L), (nmV L c5 sAdd).map (atmV d L), (nmV L c6 sDel).map (atmV d L), atoiN (rSym L c7)⟩ : Sch) = _
           rw [a1, v2, v3, v4, v5, v6, v7]
         · unfold schK
           rw [hs, hv]
           show (true && ((symG L c1 && (chG L c2 && (rCh L c2).all (typG d.types L))) && ((nmG L c3 sDifferent && (nmV L c3 sDifferent).all (difG L)) && ((nmG L c4 sPre && (nmV L c4 sPre).all (lltG d L)) && ((nmG L c5 sAdd && (nmV L c5 sAdd).all (atmG d L)) && ((nmG L c6 sDel && (nmV L c6 sDel).all (atmG d L)) && (symG L c7 && numG (rSym L c7)))))))) = true
           rw [b1, g2, k2, n3, k3, n4, k4, n5, k5, n6, k6, k7]
           rfl
      · cases h
    · cases h
  · cases h
theorem t_types {L : List Sx} {T : Int → Tr} (hT : TrX L T) : ∀ {l : List Int} {acc out : List Typ}, Ixs L l → typesO acc (l.map T) = some out → l.foldl (tyF L) (acc, true) = (out, true)
 | [], acc, out, _, h => by simp only [List.map_nil, typesO, Option.some.injEq] at h; subst h; rfl
 | i :: r, acc, out, hl, h => by
  simp only [List.map_cons, typesO] at h
  split at h
  · rename_i n p hp
    obtain ⟨h1, x0, x1, h2, h3⟩ := t_pair hT hl.tail.1 hp
    split at h
    · rename_i q hq
      obtain ⟨h4, h5⟩ := t_sym hT x0 h2
      obtain ⟨h6, h7⟩ := t_typ hT x1 (by rw [h3]; exact hq)
      have e : tyF L (acc, true) i = (acc ++ [⟨n, q⟩], true) := by
       unfold tyF
       rw [h4, h7, h1, h6, h5]
       rfl
      rw [List.foldl_cons, e]
      exact t_types hT hl.tail.2 h
    · cases h
  · cases h
theorem t_objs {L : List Sx} {T : Int → Tr} (hT : TrX L T) {ts : List Typ} : ∀ {l : List Int} {acc out : List Obj}, Ixs L l → allO (objO ts) (l.map T) = some out → l.foldl (obF ts L) (acc, true) = (acc ++ out, true)
 | [], acc, out, _, h => by simp only [List.map_nil, allO, Option.some.injEq] at h; subst h; simp
 | i :: r, acc, out, hl, h => by
  simp only [List.map_cons, allO] at h
  split at h
  · rename_i o m ho hm
    cases h
    unfold objO at ho
    split at ho
    · rename_i n p hp
      obtain ⟨h1, x0, x1, h2, h3⟩ := t_pair hT hl.tail.1 hp
      obtain ⟨q, hq, rfl⟩ := Option.map_eq_some_iff.1 ho
      obtain ⟨h4, h5⟩ := t_sym hT x0 h2
      obtain ⟨h6, h7⟩ := t_typ hT x1 (by rw [h3]; exact hq)
      have e : obF ts L (acc, true) i = (acc ++ [⟨n, q⟩], true) := by
       unfold obF
       rw [h4, h7, h1, h6, h5]
       rfl
      rw [List.foldl_cons, e, t_objs hT hl.tail.2 hm]
      simp
    · cases ho
  · cases h
theorem t_prds {L : List Sx} {T : Int → Tr} (hT : TrX L T) {ts : List Typ} : ∀ {l : List Int} {acc out : List Prd}, Ixs L l → allO (prdO ts) (l.map T) = some out → l.foldl (prF ts L) (acc, true) = (acc ++ out, true) ∧ l.any (emX L) = false
 | [], acc, out, _, h => by simp only [List.map_nil, allO, Option.some.injEq] at h; subst h; simp
 | i :: r, acc, out, hl, h => by
  simp only [List.map_cons, allO] at h
  split at h
  · rename_i o m ho hm
    cases h
    have hi := hl.tail.1
    cases hx : T i with
    | sym s => rw [hx] at ho; simp [prdO] at ho
    | lst lt =>
     obtain ⟨h1, h2⟩ := t_lst hT hi hx
     rw [hx] at ho
     have hix := ch_ix hT.rd hi
     unfold prdO at ho
     split at ho
     · rename_i n rr heq
       cases heq
       obtain ⟨q, hq, rfl⟩ := Option.map_eq_some_iff.1 ho
       match hc : rCh L i, h2 with
       | c :: cr, h2 =>
        simp only [List.map_cons, List.cons.injEq] at h2
        rw [hc] at hix
        obtain ⟨h4, h5⟩ := t_sym hT hix.tail.1 h2.1
        obtain ⟨h6, h7⟩ := t_all hT (G := typG ts L) (V := typV ts L) hix.tail.2 (fun i hi q hq => t_typ hT hi hq) (by rw [h2.2]; exact hq)
        have e : prF ts L (acc, true) i = (acc ++ [⟨n, q⟩], true) := by
         unfold prF
         rw [hc]
         simp only
         rw [h4, h7, h1, h5, h6]
         rfl
        have ee : emX L i = false := by unfold emX; rw [hc]; rfl
        obtain ⟨u, v⟩ := t_prds hT (acc := acc ++ [⟨n, q⟩]) hl.tail.2 hm
        rw [List.foldl_cons, e, u, List.any_cons, ee, v]
        simp
     · cases ho
  · cases h
theorem t_schs {L : List Sx} {T : Int → Tr} (hT : TrX L T) {d : Dom} : ∀ {l : List Int} {acc out : List Sch}, Ixs L l → allO (schO d) (l.map T) = some out → l.foldl (scF d L) (acc, true) = (acc ++ out, true)
 | [], acc, out, _, h => by simp only [List.map_nil, allO, Option.some.injEq] at h; subst h; simp
 | i :: r, acc, out, hl, h => by
  simp only [List.map_cons, allO] at h
  split at h
  · rename_i o m ho hm
    cases h
    obtain ⟨u, v⟩ := t_sch hT hl.tail.1 ho
    have e : scF d L (acc, true) i = (acc ++ [o], true) := by
     unfold scF
     simp only
     rw [u, v]
    rw [List.foldl_cons, e, t_schs hT hl.tail.2 hm]
    simp
  · cases h
theorem t_nth {L : List Sx} {T : Int → Tr} (hT : TrX L T) {c : List Int} (hc : Ixs L c) {k : Nat} {name : List UInt8} {r : List Tr} (h : ((c.map T)[k]?).bind (secO name) = some r) : Ix L (at8 c k) ∧ nmG L (at8 c k) name = true ∧ (nmV L (at8 c k) name).map T = r := by
 obtain ⟨x, h1, h2⟩ := Option.bind_eq_some_iff.1 h
 rw [List.getElem?_map] at h1
 obtain ⟨y, h3, rfl⟩ := Option.map_eq_some_iff.1 h1
 have e : at8 c k = y := by unfold at8; rw [h3]; rfl
 rw [e]
 have hy := hc.2 y (mem_get h3)
 exact ⟨hy, t_sec hT hy h2⟩
theorem t_dom {L : List Sx} {T : Int → Tr} (hT : TrX L T) {d : Dom} (hr : Ix L (rootX L)) (h : domO (T (rootX L)) = some d) : domR L = some d := by
 unfold domO at h
 split at h
 · cases h
 rename_i l hs
 obtain ⟨n0, m0⟩ := t_sec hT hr hs
 have hcx : Ixs L (secX L) := nm_ix hT.rd hr sDomain
 have e0 : nmV L (rootX L) sDomain = secX L := rfl
 rw [e0] at m0
 subst m0
 split at h
 · cases h
 rename_i h5
 split at h
 · rename_i tl ol pl il gl f0 f1 f2 f3 f4
   simp only [List.length_map] at f3 f4 h5
   obtain ⟨i0, g0, m0⟩ := t_nth hT hcx f0
   obtain ⟨i1, g1, m1⟩ := t_nth hT hcx f1
   obtain ⟨i2, g2, m2⟩ := t_nth hT hcx f2
   obtain ⟨i3, g3, m3⟩ := t_nth hT hcx f3
   obtain ⟨i4, g4, m4⟩ := t_nth hT hcx f4
   split at h
   · cases h
   rename_i ts ht
   split at h
   · rename_i os ps ho hp
     split at h
     · rename_i ss is_ gs hss hi hg
       cases h
       have u0 := t_types hT (nm_ix hT.rd i0 sTypes) (by rw [m0]; exact ht)
       have u1 := t_objs hT (acc := []) (nm_ix hT.rd i1 sObjects) (by rw [m1]; exact ho)
       obtain ⟨u2, w2⟩ := t_prds hT (acc := []) (nm_ix hT.rd i2 sPredicates) (by rw [m2]; exact hp)
       have eT : rTy L (secX L) = (ts, true) := by
        unfold rTy
        rw [n0, g0]
        exact u0
       have eO : rOb L (secX L) = (os, true) := by
        unfold rOb
        rw [eT, g1]
        exact u1
       have eP : rPr L (secX L) = (ps, true) := by
        unfold rPr
        rw [eT, eO, g2]
        exact u2
       have eD : rD3 L (secX L) = ⟨ts, os, ps, [], [], []⟩ := by
        unfold rD3
        rw [eT, eO, eP]
       have hlS : Ixs L (((secX L).take ((secX L).length - 2)).drop 3) := ⟨by have := hcx.1; simp; omega, fun i hi => hcx.2 i (List.mem_of_mem_take (List.mem_of_mem_drop hi))⟩
       have u3 := t_schs hT (acc := []) hlS (by
        have hss := hss
        simp only [List.length_map] at hss
        rw [List.map_drop, List.map_take]
        exact hss)
       have eS : rSc L (secX L) = (ss, true) := by
        unfold rSc
        rw [eD, eP]
        exact u3
       obtain ⟨k3, v3⟩ := t_all hT (G := atmG ⟨ts, os, ps, [], [], []⟩ L) (V := atmV ⟨ts, os, ps, [], [], []⟩ L) (nm_ix hT.rd i3 sInit) (fun i hi q hq => t_at hT hi hq) (by rw [m3]; exact hi)
       obtain ⟨k4, v4⟩ := t_all hT (G := lltG ⟨ts, os, ps, [], [], []⟩ L) (V := lltV ⟨ts, os, ps, [], [], []⟩ L) (nm_ix hT.rd i4 sGoal) (fun i hi q hq => t_lit hT hi hq) (by rw [m4]; exact hg)
       have eI : rIn L (secX L) = (is_, true) := by
        unfold rIn
        rw [eD, eS, g3, k3, v3]
        rfl
       have eG : rGo L (secX L) = (gs, true) := by
        unfold rGo
        rw [eD, eI, g4, k4, v4]
        rfl
       have eX : domX L (secX L) = true := by
        unfold domX
        rw [eG, w2, decide_eq_true (by omega)]
        rfl
       unfold domR
       rw [if_pos eX]
       unfold rDom
       rw [eT, eO, eP, eS, eI, eG]
     · cases h
   · cases h
 · cases h
theorem trX_of {L : List Sx} (h : SxOk L) : TrX L (fun i => tr L i.toNat) := ⟨rdOk_of h, fun i hi => by
 obtain ⟨h0, h1⟩ := hi
 have hx := nd_get (L := L) (i := i) ⟨h0, h1⟩
 have hlow : lowTo L (i.toNat + 1) := fun j hj => h.node.low j (by omega)
 have := tr_eq hlow hx
 exact this⟩
theorem domR_flt {d : Dom} (hd : DomV d) (hs : tsz (domT d) ≤ 300) : domR (flt 0 (domT d)) = some d := by
 obtain ⟨h1, h2, h3⟩ := flt_ok (domT_tok hd) (domT_dp d) hs
 have hT := trX_of h1
 have hp := h1.len
 refine t_dom hT ⟨by unfold rootX; omega, by unfold rootX; omega⟩ ?_
 have e : (rootX (flt 0 (domT d))).toNat = (flt 0 (domT d)).length - 1 := by unfold rootX; omega
 show domO (tr _ (rootX _).toNat) = _
 rw [e, h3]
 exact domO_ok hd
theorem parse_print {d : Dom} (hd : domFault d = okF) (hb : bigD d = false) : parseF (ttx (domT d)) = okF ∧ parseD (ttx (domT d)) = d := by
 unfold bigD at hb
 simp only [Bool.or_eq_false_iff, decide_eq_false_iff_not] at hb
 have hv := domV_of hd
 obtain ⟨h1, h2, h3⟩ := flt_ok (domT_tok hv) (domT_dp d) (by omega)
 obtain ⟨r1, r2⟩ := read_tx h1 (by rw [h2]; omega)
 rw [h2] at r1 r2
 have hr := domR_flt hv (by omega)
 constructor
 · unfold parseF
   rw [if_neg (fun h => h r1), r2, hr]
   exact hd
 · unfold parseD
   rw [if_neg (fun h => h r1), r2, hr]
   simp only
   rw [if_neg (fun h => h hd)]
theorem print_code (d : Dom) : (printF d).code = 0 ↔ printF d = okF := by
 unfold printF
 split
 · exact domFault_code' d
 · split
   · exact ⟨fun h => (by cases h), fun h => (by cases h)⟩
   · simp [okF]
theorem print_bad {d : Dom} (h : printF d ≠ okF) : printS d = [] := by
 unfold printF at h
 unfold printS
 split
 · rfl
 · rename_i h1
   rw [if_neg h1] at h
   split
   · rfl
   · rename_i h2
     rw [if_neg h2] at h
     exact absurd rfl h
theorem print_ok {d : Dom} (h : printF d = okF) : domFault d = okF ∧ bigD d = false ∧ printS d = ttx (domT d) := by
 unfold printF at h
 split at h
 · rename_i h1; exact absurd h h1
 · rename_i h1
   split at h
   · cases h
   · rename_i h2
     have h2 : bigD d = false := by simpa using h2
     refine ⟨Classical.byContradiction h1, h2, ?_⟩
     unfold printS
     rw [if_neg h1, if_neg (by rw [h2]; simp)]
end Hm
end
section
namespace Hm
open Go
set_option maxRecDepth 100000
set_option maxHeartbeats 4000000
abbrev lampS (c : Int) : Sch := ⟨[115, 119, 105, 116, 99, 104], [0], [], [⟨true, ⟨0, [-1]⟩⟩], [⟨0, [-1]⟩], [], c⟩
def lampD (c : Int) : Dom := ⟨[⟨[108, 97, 109, 112], -1⟩], [⟨[120], 0⟩], [⟨[111, 110], [0]⟩], [lampS c], [], [⟨false, ⟨0, [0]⟩⟩]⟩
def lampT : List UInt8 := [40, 100, 111, 109, 97, 105, 110, 32, 40, 116, 121, 112, 101, 115, 32, 40, 108, 97, 109, 112, 32, 111, 98, 106, 101, 99, 116, 41, 41, 32, 40, 111, 98, 106, 101, 99, 116, 115, 32, 40, 120, 32, 108, 97, 109, 112, 41, 41, 32, 40, 112, 114, 101, 100, 105, 99, 97, 116, 101, 115, 32, 40, 111, 110, 32, 108, 97, 109, 112, 41, 41, 32, 40, 97, 99, 116, 105, 111, 110, 32, 115, 119, 105, 116, 99, 104, 32, 40, 108, 97, 109, 112, 41, 32, 40, 100, 105, 102, 102, 101, 114, 101, 110, 116, 41, 32, 40, 112, 114, 101, 32, 40, 110, 111, 116, 32, 40, 111, 110, 32, 63, 48, 41, 41, 41, 32, 40, 97, 100, 100, 32, 40, 111, 110, 32, 63, 48, 41, 41, 32, 40, 100, 101, 108, 41, 32, 50, 41, 32, 40, 105, 110, 105, 116, 41, 32, 40, 103, 111, 97, 108, 32, 40, 111, 110, 32, 120, 41, 41, 41]
def emT : List UInt8 := [40, 100, 111, 109, 97, 105, 110, 41]
def c_L1_lamp : Cmd :=
 (qS [qq 0 (.alloc 1344006 (.agg [.sl .nil [], .sl .nil [], .sl .nil [], .sl .nil [], .sl .nil [], .sl .nil []]))]
 (qS [qq 2 (.bsl 1 [.c (.int .i64 (-1))]), qq 3 (.build [.int .i64 0, .sl .nil []] [(0 , 1 , .c (.int .i64 0)), (1 , 1 , .t 2)]), qq 4 (.build [.bool false, .int .i64 0, .sl .nil []] [(0 , 1 , .c (.bool true)), (1 , 2 , .t 3)]), qq 1 (.alloc 1344067 (.agg [.bool false, .int .i64 0, .sl .nil []])), qs 3 1 4]
 (.seq (.ops [qq 5 (.build [.str [], .int .i64 0] [(0 , 1 , .c (.str [108, 97, 109, 112])), (1 , 1 , .c (.int .i64 (-1)))]), qq 6 (.bsl 2 [.t 5]), qq 7 (.build [.str [], .int .i64 0] [(0 , 1 , .c (.str [120])), (1 , 1 , .c (.int .i64 0))]), qq 8 (.bsl 2 [.t 7]), qq 9 (.bsl 1 [.c (.int .i64 0)]), qq 10 (.build [.str [], .sl .nil []] [(0 , 1 , .c (.str [111, 110])), (1 , 1 , .t 9)]), qq 11 (.bsl 2 [.t 10]), qq 12 (.bsl 1 [.c (.int .i64 0)]), qL 13 3 1, qq 14 (.bsl 3 [.t 13]), qq 15 (.bsl 1 [.c (.int .i64 (-1))]), qq 16 (.build [.int .i64 0, .sl .nil []] [(0 , 1 , .c (.int .i64 0)), (1 , 1 , .t 15)]), qq 17 (.bsl 2 [.t 16]), qq 18 (.build [.str [], .sl .p [], .sl .p [], .sl .p [], .sl .p [], .sl .p [], .int .i64 0] [(0 , 1 , .c (.str [115, 119, 105, 116, 99, 104])), (1 , 1 , .t 12), (3 , 1 , .t 14), (4 , 1 , .t 17), (6 , 1 , .c (.int .i64 2))]), qq 19 (.bsl 7 [.t 18]), qq 20 (.bsl 1 [.c (.int .i64 0)]), qq 21 (.build [.int .i64 0, .sl .nil []] [(0 , 1 , .c (.int .i64 0)), (1 , 1 , .t 20)]), qq 22 (.build [.bool false, .int .i64 0, .sl .nil []] [(1 , 2 , .t 21)]), qq 23 (.bsl 3 [.t 22]), qq 24 (.build [.sl .p [], .sl .p [], .sl .p [], .sl .p [], .sl .p [], .sl .p []] [(0 , 1 , .t 6), (1 , 1 , .t 8), (2 , 1 , .t 11), (3 , 1 , .t 19), (5 , 1 , .t 23)]), qs 6 0 24]) .ret)))
def r_L1_lamp : List RVar := [.cell true 6 0]
def n_L1_lamp : Nat := 25
theorem k_L1_lamp : chkFn PG 21 n_L1_lamp r_L1_lamp c_L1_lamp = true := by kernel_rfl
theorem f_L1_lamp : Fc PG 21 [] (domV (lampD 2)) := by
 refine Fn.step mixed k_L1_lamp ?_
 repeat' (first|refine i_s rfl ?_|refine sw ?_|refine i_stb rfl ?_|refine i_alloc rfl ?_)
 exact e_ret ⟨rfl, _, rfl, rfl⟩
def c_L1_lampM : Cmd :=
 (qS [qq 0 (.alloc 1344006 (.agg [.sl .nil [], .sl .nil [], .sl .nil [], .sl .nil [], .sl .nil [], .sl .nil []]))]
 (qS [qq 2 (.bsl 1 [.c (.int .i64 (-1))]), qq 3 (.build [.int .i64 0, .sl .nil []] [(0 , 1 , .c (.int .i64 0)), (1 , 1 , .t 2)]), qq 4 (.build [.bool false, .int .i64 0, .sl .nil []] [(0 , 1 , .c (.bool true)), (1 , 2 , .t 3)]), qq 1 (.alloc 1344067 (.agg [.bool false, .int .i64 0, .sl .nil []])), qs 3 1 4]
 (.seq (.ops [qq 5 (.build [.str [], .int .i64 0] [(0 , 1 , .c (.str [108, 97, 109, 112])), (1 , 1 , .c (.int .i64 (-1)))]), qq 6 (.bsl 2 [.t 5]), qq 7 (.build [.str [], .int .i64 0] [(0 , 1 , .c (.str [120])), (1 , 1 , .c (.int .i64 0))]), qq 8 (.bsl 2 [.t 7]), qq 9 (.bsl 1 [.c (.int .i64 0)]), qq 10 (.build [.str [], .sl .nil []] [(0 , 1 , .c (.str [111, 110])), (1 , 1 , .t 9)]), qq 11 (.bsl 2 [.t 10]), qq 12 (.bsl 1 [.c (.int .i64 0)]), qL 13 3 1, qq 14 (.bsl 3 [.t 13]), qq 15 (.bsl 1 [.c (.int .i64 (-1))]), qq 16 (.build [.int .i64 0, .sl .nil []] [(0 , 1 , .c (.int .i64 0)), (1 , 1 , .t 15)]), qq 17 (.bsl 2 [.t 16]), qq 18 (.build [.str [], .sl .p [], .sl .p [], .sl .p [], .sl .p [], .sl .p [], .int .i64 0] [(0 , 1 , .c (.str [115, 119, 105, 116, 99, 104])), (1 , 1 , .t 12), (3 , 1 , .t 14), (4 , 1 , .t 17), (6 , 1 , .c (.int .i64 2))]), qq 19 (.bslA 1345223 7 [.t 18]), qq 20 (.bsl 1 [.c (.int .i64 0)]), qq 21 (.build [.int .i64 0, .sl .nil []] [(0 , 1 , .c (.int .i64 0)), (1 , 1 , .t 20)]), qq 22 (.build [.bool false, .int .i64 0, .sl .nil []] [(1 , 2 , .t 21)]), qq 23 (.bsl 3 [.t 22]), qq 24 (.build [.sl .p [], .sl .p [], .sl .p [], .sl .p [], .sl .p [], .sl .p []] [(0 , 1 , .t 6), (1 , 1 , .t 8), (2 , 1 , .t 11), (3 , 1 , .t 19), (5 , 1 , .t 23)]), qs 6 0 24]) .ret)))
def r_L1_lampM : List RVar := [.cell true 6 0]
def n_L1_lampM : Nat := 25
theorem k_L1_lampM : chkFn PG 21 n_L1_lampM r_L1_lampM c_L1_lampM = true := by kernel_rfl
abbrev lampMV : V := .agg [.sl .p [tyV ⟨[108, 97, 109, 112], -1⟩], .sl .p [obV ⟨[120], 0⟩], .sl .p [prdV ⟨[111, 110], [0]⟩], .msl 1345223 0 0 1, .sl .p [], .sl .p [litV ⟨false, ⟨0, [0]⟩⟩]]
theorem ct_lampM (G : Type) (H : HT G) (g : G) : Cc PG H 21 [] [1345223] (stOf [(1345223, .unused)]) g fun v σ' g' => (v = lampMV ∧ σ' = stOf [(1345223, .arr 0 [schV (lampS 2)])]) ∧ g' = g := by
 refine CT.step _ mixed k_L1_lampM (fun nm hnm => stOf_mem _ nm hnm) fun hM => ?_
 repeat' (first|refine i_s rfl ?_|refine sw ?_|refine i_stb rfl ?_|refine i_alloc rfl ?_)
 refine i_bsla rfl rfl rfl rfl ?_
 repeat' (first|refine i_s rfl ?_|refine sw ?_|refine i_stb rfl ?_)
 exact e_ret ⟨rfl, _, rfl, rfl, rfl, ⟨rfl, restr_stOf _ _⟩, rfl⟩
def c_L1_lampText : Cmd :=
 (qS [qq 0 (.mov (.c (.str [])))]
 (.seq (.ops [qq 0 (.mov (.c (.str [40, 100, 111, 109, 97, 105, 110, 32, 40, 116, 121, 112, 101, 115, 32, 40, 108, 97, 109, 112, 32, 111, 98, 106, 101, 99, 116, 41, 41, 32, 40, 111, 98, 106, 101, 99, 116, 115, 32, 40, 120, 32, 108, 97, 109, 112, 41, 41, 32, 40, 112, 114, 101, 100, 105, 99, 97, 116, 101, 115, 32, 40, 111, 110, 32, 108, 97, 109, 112, 41, 41, 32, 40, 97, 99, 116, 105, 111, 110, 32, 115, 119, 105, 116, 99, 104, 32, 40, 108, 97, 109, 112, 41, 32, 40, 100, 105, 102, 102, 101, 114, 101, 110, 116, 41, 32, 40, 112, 114, 101, 32, 40, 110, 111, 116, 32, 40, 111, 110, 32, 63, 48, 41, 41, 41, 32, 40, 97, 100, 100, 32, 40, 111, 110, 32, 63, 48, 41, 41, 32, 40, 100, 101, 108, 41, 32, 50, 41, 32, 40, 105, 110, 105, 116, 41, 32, 40, 103, 111, 97, 108, 32, 40, 111, 110, 32, 120, 41, 41, 41])))]) .ret))
def r_L1_lampText : List RVar := [.tmp 0]
def n_L1_lampText : Nat := 1
theorem k_L1_lampText : chkFn PG 22 n_L1_lampText r_L1_lampText c_L1_lampText = true := by kernel_rfl
theorem f_L1_lampText : Fc PG 22 [] (.str lampT) := by
 refine Fn.step mixed k_L1_lampText ?_
 repeat' (first|refine i_s rfl ?_|refine sw ?_|fail)
 exact e_ret ⟨rfl, _, rfl, rfl⟩
theorem lamp_ok : domFault (lampD 2) = okF := by decide +kernel
theorem lamp_big : bigD (lampD 2) = false := by decide +kernel
theorem lamp_tx : ttx (domT (lampD 2)) = lampT := by decide +kernel
theorem lamp_bad : domFault (lampD (-1)) = ⟨3, 0⟩ := by decide +kernel
theorem em_bad : parseF emT = ⟨1, -8⟩ := by decide +kernel
theorem lampD_do (c : Int) : DoOk (lampD c) := by
 have atm : AtOk ⟨0, [-1]⟩ := ⟨by simp, by simp [InR], by simp [InR]⟩
 have on0 : AtOk ⟨0, [0]⟩ := ⟨by simp, by simp [InR], by simp [InR]⟩
 refine ⟨⟨by simp [lampD], fun x hx => ?_⟩, ⟨by simp [lampD], fun x hx => ?_⟩, ⟨by simp [lampD], fun x hx => ?_⟩, ⟨by simp [lampD], fun x hx => ?_⟩, ⟨by simp [lampD], fun x hx => ?_⟩, ⟨by simp [lampD], fun x hx => ?_⟩⟩
 all_goals simp only [lampD, List.mem_singleton, List.not_mem_nil] at hx
 all_goals subst hx
 · simp
 · simp
 · simp
 · exact ⟨by simp, by simp, by simp, by simp, by simp, by simp, fun x hx => by rw [List.mem_singleton.1 hx]; exact atm, fun x hx => by rw [List.mem_singleton.1 hx]; exact atm, fun x hx => by simp at hx⟩
 · exact on0
def c_L1_describes : Cmd :=
 (qS [qb 0 false]
 (qS [qk 9 21 [], qk 10 11 [9], qm 8 10, qq 11 (.extract (.t 8) 0), qq 12 (.extract (.t 8) 1), qq 2 (.alloc 448130 (.agg [.int .i64 0, .int .i64 0])), qm 1 11, qs 2 2 12]
 (qS [qk 14 22 [], qk 15 13 [14], qm 13 15, qq 16 (.extract (.t 13) 0), qq 17 (.extract (.t 13) 1), qq 3 (.alloc 448198 (.agg [.sl .nil [], .sl .nil [], .sl .nil [], .sl .nil [], .sl .nil [], .sl .nil []])), qq 4 (.alloc 448258 (.agg [.int .i64 0, .int .i64 0])), qs 6 3 16, qs 2 4 17]
 (qS [qq 19 (.call .f (.c (.fn 13 [])) [.c (.str [40, 100, 111, 109, 97, 105, 110, 41])]), qm 18 19, qq 20 (.extract (.t 18) 0), qq 21 (.extract (.t 18) 1), qq 5 (.alloc 448326 (.agg [.sl .nil [], .sl .nil [], .sl .nil [], .sl .nil [], .sl .nil [], .sl .nil []])), qq 6 (.alloc 448386 (.agg [.int .i64 0, .int .i64 0])), qs 6 5 20, qs 2 6 21]
 (qS [qq 22 (.call (.s [1345223]) (.c (.fn 21 [])) []), qq 7 (.alloc 448454 (.agg [.sl .nil [], .sl .nil [], .sl .nil [], .sl .nil [], .sl .nil [], .sl .nil []])), qs 6 7 22]
 (qS [qf 23 3 7, ql 24 1 23, qq 25 (.iaddr 7 (.t 24) (.c (.int .i64 0))), qf 26 6 25, .op none none (.store 1 (.t 26) (.c (.int .i64 (-1))))]
 (.seq (.ops [qf 27 0 2, ql 28 1 27, qv 29 .eql [.i] 28 0, qm 30 29, qg 31 30 true (.faddr 0 (.t 4)), qg 32 30 true (.load false 1 (.t 31)), qg 33 30 true (.bin .eql false [.i] (.t 32) (.c (.int .i64 0))), qq 34 (.pick (.t 30) (.t 33) (.c (.bool false))), qm 35 34, qg 36 35 true (.mov (.t 1)), qg 37 35 true (.call .f (.c (.fn 22 [])) []), qg 38 35 true (.bin .eql false [.s] (.t 36) (.t 37)), qq 39 (.pick (.t 35) (.t 38) (.c (.bool false))), qm 40 39, qg 41 40 true (.load true 6 (.t 3)), qg 42 40 true (.call .f (.c (.fn 21 [])) []), qg 43 40 true (.call .f (.c (.fn 14 [])) [.t 41, .t 42]), qq 44 (.pick (.t 40) (.t 43) (.c (.bool false))), qm 45 44, qg 46 45 true (.load true 2 (.t 6)), qg 47 45 true (.call .f (.c (.fn 20 [])) [.c (.int .i64 1), .c (.int .i64 (-8))]), qg 48 45 true (.bin .eql true [.i, .i] (.t 46) (.t 47)), qq 49 (.pick (.t 45) (.t 48) (.c (.bool false))), qm 50 49, qg 51 50 true (.load true 6 (.t 7)), qg 52 50 true (.call .f (.c (.fn 8 [])) [.t 51]), qg 53 50 true (.call .f (.c (.fn 20 [])) [.c (.int .i64 3), .c (.int .i64 0)]), qg 54 50 true (.bin .eql true [.i, .i] (.t 52) (.t 53)), qq 55 (.pick (.t 50) (.t 54) (.c (.bool false))), qm 0 55]) .ret)))))))
def r_L1_describes : List RVar := [.tmp 0]
def n_L1_describes : Nat := 56
theorem k_L1_describes : chkFn PG 7 n_L1_describes r_L1_describes c_L1_describes = true := by kernel_rfl
theorem f_L1_describes (hI : ItoaOk) : Fc PG 7 [] (.bool true) := by
 have hL := f_L1_lamp
 have hT := f_L1_lampText
 have hP := f_domain_Print hI (lampD 2) (lampD_do 2)
 have hp1 : printF (lampD 2) = okF := by unfold printF; rw [if_neg (fun h => h lamp_ok), if_neg (by rw [lamp_big]; simp)]
 obtain ⟨_, _, hp2⟩ := print_ok hp1
 rw [hp1, hp2, lamp_tx] at hP
 obtain ⟨hr1, hr2⟩ := parse_print lamp_ok lamp_big
 rw [lamp_tx] at hr1 hr2
 have hR := f_domain_Parse lampT (by decide)
 rw [hr1, hr2] at hR
 have hE := f_domain_Parse emT (by decide)
 rw [em_bad] at hE
 have hS := f_R1_SameDomainR (lampD 2) (lampD_do 2)
 have hA := f_R1_At 1 (-8)
 have hB := f_R1_At 3 0
 have hV := f_domain_Validate (lampD (-1)) (lampD_do (-1))
 rw [lamp_bad] at hV
 have hM := ct_lampM Unit noH ()
 refine Fn.step mixed k_L1_describes ?_
 clear hp1 hp2 hr1 hr2
 generalize parseD emT = eD at *
 generalize hlt : lampT = LT at *
 generalize hem : emT = ET at *
 have hE : Fc PG 13 [.str [40, 100, 111, 109, 97, 105, 110, 41]] (.tup [domV eD, ftV ⟨1, -8⟩]) := by rw [← hem] at hE; exact hE
 repeat' (first|refine i_s rfl ?_|refine sw ?_|refine i_stb rfl ?_|refine i_alloc rfl ?_|refine sf rfl rfl hL ?_|refine sf rfl rfl hP ?_|refine sf rfl rfl hT ?_|refine sf rfl rfl hR ?_|refine sf rfl rfl hE ?_|fail)
 all_goals first
  | (exfalso; clear hL hP hT hR hE hS hA hB hV hM; simp at *; done)
  | skip
 refine i_cs rfl rfl rfl rfl hM ?_
 rintro _ _ _ ⟨⟨rfl, rfl⟩, rfl⟩
 clear hM
 repeat (first|refine i_s rfl ?_|refine sw ?_|refine i_stb rfl ?_|refine i_alloc rfl ?_)
 refine i_ima rfl rfl rfl rfl (by decide) (by decide) rfl ?_
 repeat refine i_s rfl ?_
 refine i_stp (row := schV (lampS 2)) (row' := schV (lampS (-1))) rfl rfl rfl rfl rfl rfl ?_
 subst hlt
 repeat' (first|refine i_s rfl ?_|refine sw ?_|refine i_gt rfl ?_|refine sf rfl rfl hL ?_|refine sf rfl rfl hT ?_|refine sf rfl rfl hS ?_|refine sf rfl rfl hA ?_|refine sf rfl rfl hB ?_|refine sf rfl rfl hV ?_|fail)
 all_goals first
  | exact e_ret ⟨rfl, _, rfl, rfl⟩
  | (exfalso; clear hL hP hT hR hE hS hA hB hV; simp at *; done)
  | skip
theorem itoaOk : ItoaOk := fun n h => itoa_ok (by omega)
def prevB (s : List UInt8) : Nat → Bool
 | 0 => false
 | k + 1 => match s[k]? with
   | some c => symB c
   | none => false
def cntD (p : Bool) (c : UInt8) : Nat := if c = 40 ∨ (symB c = true ∧ p = false) then 1 else 0
def cntTo (s : List UInt8) : Nat → Nat
 | 0 => 0
 | k + 1 => cntTo s k + match s[k]? with
   | some c => cntD (prevB s k) c
   | none => 0
theorem cntTo_succ {s : List UInt8} {k : Nat} {c : UInt8} (h : s[k]? = some c) : cntTo s (k + 1) = cntTo s k + cntD (prevB s k) c := by simp only [cntTo, h]
theorem cntTo_le (s : List UInt8) : ∀ k, cntTo s k ≤ k
 | 0 => Nat.le_refl _
 | k + 1 => by
  have := cntTo_le s k
  simp only [cntTo]
  split
  · unfold cntD; split <;> omega
  · omega
theorem cntTo_eq (s : List UInt8) : ∀ k, k ≤ s.length → cntTo s k + cntN (prevB s k) (s.drop k) = cntN false s
 | 0, _ => by simp [cntTo, prevB]
 | k + 1, h => by
  have ih := cntTo_eq s k (by omega)
  obtain ⟨c, hc⟩ := get_some (l := s) (k := k) (by omega)
  have hd : s.drop k = c :: s.drop (k + 1) := by
   obtain ⟨h1, h2⟩ := List.getElem?_eq_some_iff.1 hc
   rw [List.drop_eq_getElem_cons h1, h2]
  rw [hd] at ih
  simp only [cntN] at ih
  rw [cntTo_succ hc]
  have hp : prevB s (k + 1) = symB c := by simp only [prevB, hc]
  rw [hp]
  unfold cntD
  omega
theorem cntTo_all (s : List UInt8) : cntTo s s.length = cntN false s := by
 have := cntTo_eq s s.length (Nat.le_refl _)
 rw [List.drop_length] at this
 simpa [cntN] using this
def c_R1_TextNodes : Cmd :=
 (qS [qc 2 0]
 (qS [qc 3 0]
 (qT (qS [qc 4 0]
 (.block 0 (.loop (qT (qS [qm 5 4, qm 6 0, qq 7 (.len true (.t 6)), qu 8 .lss [] 5 7]
 (.cond (.t 8) .skip (.exit 0)))
 (qT (.block 1 (qS [qm 11 0, qm 12 4, qq 13 (.index (.t 11) (.t 12)), qq 14 (.bin .eql false [.i] (.t 13) (.c (.int .u8 40))), qm 15 14, qg 16 15 false (.mov (.t 0)), qg 17 15 false (.mov (.t 4)), qg 18 15 false (.index (.t 16) (.t 17)), qg 19 15 false (.call .f (.c (.fn 89 [])) [.t 18]), qg 20 15 false (.mov (.t 19)), qg 21 20 true (.mov (.t 4)), qg 22 20 true (.bin .eql false [.i] (.t 21) (.c (.int .i64 0))), qg 23 20 true (.mov (.t 22)), qg 24 23 false (.mov (.t 0)), qg 25 23 false (.mov (.t 4)), qg 26 23 false (.bin .sub false [] (.t 25) (.c (.int .i64 1))), qg 27 23 false (.index (.t 24) (.t 26)), qg 28 23 false (.call .f (.c (.fn 89 [])) [.t 27]), qg 29 23 false (.not (.t 28)), qg 30 20 true (.pick (.t 23) (.c (.bool true)) (.t 29)), qg 31 15 false (.pick (.t 20) (.t 30) (.c (.bool false))), qq 32 (.pick (.t 15) (.c (.bool true)) (.t 31))]
 (.cond (.t 32) (.ops [qm 33 3, qv 34 .add [] 33 1, qm 3 34]) .skip)))
 (.ops [qm 9 4, qv 10 .add [] 9 1, qm 4 10]))))))
 (.seq (.ops [qm 35 3, qm 2 35]) .ret))))
def r_R1_TextNodes : List RVar := [.tmp 2]
def n_R1_TextNodes : Nat := 36
theorem k_R1_TextNodes : chkFn PG 37 n_R1_TextNodes r_R1_TextNodes c_R1_TextNodes = true := by kernel_rfl
theorem f_R1_TextNodes (s : List UInt8) (hl : s.length ≤ 1000000) : Fc PG 37 [.str s] (.int .i64 (cntN false s)) := by
 refine Fn.step mixed k_R1_TextNodes ?_
 repeat (first|refine i_s rfl ?_|refine sw ?_)
 refine c_for s.length (fun k => [(0, .str s), (3, .int .i64 (cntTo s k)), (4, .int .i64 k)]) (fun _ => []) (fun _ => True) trivial ft fun k hk _ => ?_
 have hle := cntTo_le s k
 by_cases hlt : k < s.length
 · obtain ⟨c, hc⟩ := get_some hlt
   have e := cntTo_succ hc
   have hS := f_R1_SymbolByte c
   have h40 : ((c.toNat : Int) = 40) ↔ c = 40 := by
    constructor
    · intro h
      have h2 : c.toNat = 40 := by omega
      exact UInt8.toNat_inj.1 (by rw [h2]; rfl)
    · intro h
      rw [h]; rfl
   have fin : ∀ (n : Int), n = ((cntTo s (k + 1) : Nat) : Int) → V.int .i64 n = .int .i64 ((cntTo s (k + 1) : Nat) : Int) := fun n h => by rw [h]
   by_cases c40 : c = 40
   · have hd : cntD (prevB s k) c = 1 := by unfold cntD; rw [if_pos (.inl c40)]
     have h40 := h40.2 c40
     rw [hd] at e
     clear hd c40
     repeat' (first|refine i_s rfl ?_|refine sw ?_|refine i_gt rfl ?_|refine i_gf rfl ?_|refine i_gd rfl ?_|refine c_t rfl ?_|refine ja rfl rfl ?_|refine jf rfl rfl ?_|(refine sp ?_ ?_ <;> try intro h)|fail)
     all_goals first
      | (exfalso; clear hS; simp at *; done)
      | (exfalso; clear hS; simp at *; omega)
      | (refine e_for hlt trivial ⟨⟨rfl, fin _ (by omega), rfl, trivial⟩, trivial, rfl⟩)
   · have h40 : ¬ ((c.toNat : Int) = 40) := fun h => c40 (h40.1 h)
     cases hsc : symB c with
     | false =>
      have hd : cntD (prevB s k) c = 0 := by unfold cntD; rw [if_neg (by rw [hsc]; simp [c40])]
      rw [hd] at e
      rw [hsc] at hS
      clear hd c40
      repeat' (first|refine i_s rfl ?_|refine sw ?_|refine i_gt rfl ?_|refine i_gf rfl ?_|refine i_gd rfl ?_|refine c_t rfl ?_|refine c_f rfl ?_|refine ja rfl rfl ?_|refine jf rfl rfl ?_|(refine sp ?_ ?_ <;> try intro h)|refine sf rfl rfl hS ?_|fail)
      all_goals first
       | (exfalso; clear hS; simp at *; done)
       | (exfalso; clear hS; simp at *; omega)
       | (refine e_for hlt trivial ⟨⟨rfl, fin _ (by omega), rfl, trivial⟩, trivial, rfl⟩)
     | true =>
      rw [hsc] at hS
      by_cases hk0 : k = 0
      · have hd : cntD (prevB s k) c = 1 := by unfold cntD; rw [if_pos (.inr ⟨hsc, by rw [hk0]; rfl⟩)]
        rw [hd] at e
        clear hd c40
        repeat' (first|refine i_s rfl ?_|refine sw ?_|refine i_gt rfl ?_|refine i_gf rfl ?_|refine i_gd rfl ?_|refine c_t rfl ?_|refine ja rfl rfl ?_|refine jb rfl rfl ?_|refine jf rfl rfl ?_|(refine sp ?_ ?_ <;> try intro h)|refine sf rfl rfl hS ?_|fail)
        all_goals first
         | (exfalso; clear hS; simp at *; done)
         | (exfalso; clear hS; simp at *; omega)
         | (refine e_for hlt trivial ⟨⟨rfl, fin _ (by omega), rfl, trivial⟩, trivial, rfl⟩)
      · obtain ⟨c', hc'⟩ := get_some (l := s) (k := k - 1) (by omega)
        have hp : prevB s k = symB c' := by
         cases k with
         | zero => exact absurd rfl hk0
         | succ k =>
          rw [Nat.add_sub_cancel] at hc'
          simp only [prevB, hc']
        have hix : s[((k : Int) - 1).toNat]? = some c' := by rw [show ((k : Int) - 1).toNat = k - 1 from by omega]; exact hc'
        have hS2 := f_R1_SymbolByte c'
        rw [hp] at e
        cases hsc' : symB c' with
        | false =>
         have hd : cntD (symB c') c = 1 := by unfold cntD; rw [if_pos (.inr ⟨hsc, hsc'⟩)]
         rw [hd] at e
         rw [hsc'] at hS2
         clear hd c40
         repeat' (first|refine i_s rfl ?_|refine sw ?_|refine i_gt rfl ?_|refine i_gf rfl ?_|refine i_gd rfl ?_|refine c_t rfl ?_|refine ja rfl rfl ?_|refine jb rfl rfl ?_|refine jf rfl rfl ?_|(refine sp ?_ ?_ <;> try intro h)|refine sf rfl rfl hS ?_|refine sf rfl rfl hS2 ?_|refine i_ix rfl rfl (by omega) hix ?_)
         all_goals first
          | (exfalso; clear hS hS2; simp at *; done)
          | (exfalso; clear hS hS2; simp at *; omega)
          | (refine e_for hlt trivial ⟨⟨rfl, fin _ (by omega), rfl, trivial⟩, trivial, rfl⟩)
        | true =>
         have hd : cntD (symB c') c = 0 := by unfold cntD; rw [if_neg (by rw [hsc']; simp [c40])]
         rw [hd] at e
         rw [hsc'] at hS2
         clear hd c40
         repeat' (first|refine i_s rfl ?_|refine sw ?_|refine i_gt rfl ?_|refine i_gf rfl ?_|refine i_gd rfl ?_|refine c_t rfl ?_|refine c_f rfl ?_|refine ja rfl rfl ?_|refine jb rfl rfl ?_|refine jf rfl rfl ?_|(refine sp ?_ ?_ <;> try intro h)|refine sf rfl rfl hS ?_|refine sf rfl rfl hS2 ?_|refine i_ix rfl rfl (by omega) hix ?_)
         all_goals first
          | (exfalso; clear hS hS2; simp at *; done)
          | (exfalso; clear hS hS2; simp at *; omega)
          | (refine e_for hlt trivial ⟨⟨rfl, fin _ (by omega), rfl, trivial⟩, trivial, rfl⟩)
 · have hge : k = s.length := by omega
   subst hge
   rw [cntTo_all]
   repeat' (first|refine i_s rfl ?_|refine sw ?_|refine c_cond rfl (fun h => ?_) (fun h => ?_))
   all_goals first
    | exact e_ret ⟨rfl, _, rfl, rfl⟩
    | (exfalso; simp at *; done)
    | (exfalso; simp at *; omega)
theorem domT_tx (d : Dom) : ttx (domT d) = [40, 100, 111, 109, 97, 105, 110, 32, 40, 116, 121, 112, 101, 115] ++ spT (d.types.map (tyT d)) ++ [41, 32, 40, 111, 98, 106, 101, 99, 116, 115] ++ spT (d.objects.map (obT d)) ++ [41, 32, 40, 112, 114, 101, 100, 105, 99, 97, 116, 101, 115] ++ spT (d.preds.map (prT d)) ++ [41] ++ spT (d.schemas.map (schT d)) ++ [32, 40, 105, 110, 105, 116] ++ spT (d.init.map (atT d)) ++ [41, 32, 40, 103, 111, 97, 108] ++ spT (d.goal.map (litT d)) ++ [41, 41] := by
 simp only [domT, ttx_sec, sp_append, sp_cons, sp_nil, sDomain, sTypes, sObjects, sPredicates, sInit, sGoal]
 simp
theorem schT_tx (d : Dom) (s : Sch) : 32 :: ttx (schT d s) = [32, 40, 97, 99, 116, 105, 111, 110, 32] ++ s.name ++ [32, 40] ++ (spT (s.types.map (nmT d))).drop 1 ++ [41, 32, 40, 100, 105, 102, 102, 101, 114, 101, 110, 116] ++ spT (s.diff.map pairT) ++ [41, 32, 40, 112, 114, 101] ++ spT (s.pre.map (litT d)) ++ [41, 32, 40, 97, 100, 100] ++ spT (s.add.map (atT d)) ++ [41, 32, 40, 100, 101, 108] ++ spT (s.del.map (atT d)) ++ [41, 32] ++ dig s.cost.toNat ++ [41] := by
 simp only [schT, ttx_sec, ttx_lst, sp_append, sp_cons, sp_nil, sAction, sDifferent, sPre, sAdd, sDel]
 simp [ttx]
theorem dom_parts {d : Dom} (hd : DomV d) (hty : d.types.length ≤ 1000) : (spT (d.types.map (tyT d))).length ≤ 280000 ∧ (spT (d.objects.map (obT d))).length ≤ 280000 ∧ (spT (d.preds.map (prT d))).length ≤ 280000 ∧ (spT (d.schemas.map (schT d))).length ≤ 280000 := by
 have ht := domT_tok hd
 have hz := tsz_dom hd hty
 unfold domT at ht hz
 simp only [secT, tok, tokL, tokL_append, Bool.and_eq_true] at ht
 simp only [secT, tsz, tszL, tszL_append] at hz
 obtain ⟨_, ⟨⟨⟨_, t1⟩, ⟨⟨_, t2⟩, ⟨_, t3⟩, _⟩⟩, t4⟩, _⟩ := ht
 have := spT_len _ t1
 have := spT_len _ t2
 have := spT_len _ t3
 have := spT_len _ t4
 omega
theorem pairs_len {d : Dom} {s : Sch} (hs : SchVal d s) (h : tok (schT d s) = true) (hz : tsz (schT d s) ≤ 200) : (spT (s.diff.map pairT)).length ≤ 2800 := by
 unfold schT at h hz
 simp only [secT, tok, tokL, Bool.and_eq_true] at h
 simp only [secT, tsz, tszL] at hz
 have := spT_len _ h.2.2.2.1.2
 omega
def c_R1_DomainText : Cmd :=
 (qS [qx 1 768070 6 0, qq 2 (.mov (.c (.str [])))]
 (qS [qq 3 (.mov (.c (.str [40, 100, 111, 109, 97, 105, 110, 32, 40, 116, 121, 112, 101, 115])))]
 (qT (qS [qc 4 0]
 (.block 0 (.loop (qT (qS [qm 10 4, qf 11 0 1, ql 12 1 11, qn 13 12, qu 14 .lss [] 10 13]
 (.cond (.t 14) .skip (.exit 0)))
 (qT (.block 1 (.ops [qm 17 3, qq 18 (.bin .add false [] (.t 17) (.c (.str [32, 40]))), qf 19 0 1, ql 20 1 19, qm 21 4, qi 22 2 20 21, qf 23 0 22, ql 24 1 23, qu 25 .add [] 18 24, qq 26 (.bin .add false [] (.t 25) (.c (.str [32]))), qL 27 6 1, qf 28 0 1, ql 29 1 28, qm 30 4, qi 31 2 29 30, qf 32 1 31, ql 33 1 32, qk 34 52 [27, 33], qu 35 .add [] 26 34, qq 36 (.bin .add false [] (.t 35) (.c (.str [41]))), qm 3 36]))
 (.ops [qm 15 4, qv 16 .add [] 15 1, qm 4 16]))))))
 (qS [qm 37 3, qq 38 (.bin .add false [] (.t 37) (.c (.str [41, 32, 40, 111, 98, 106, 101, 99, 116, 115]))), qm 3 38]
 (qT (qS [qc 5 0]
 (.block 2 (.loop (qT (qS [qm 39 5, qf 40 1 1, ql 41 1 40, qn 42 41, qu 43 .lss [] 39 42]
 (.cond (.t 43) .skip (.exit 2)))
 (qT (.block 3 (.ops [qm 46 3, qq 47 (.bin .add false [] (.t 46) (.c (.str [32, 40]))), qf 48 1 1, ql 49 1 48, qm 50 5, qi 51 2 49 50, qf 52 0 51, ql 53 1 52, qu 54 .add [] 47 53, qq 55 (.bin .add false [] (.t 54) (.c (.str [32]))), qL 56 6 1, qf 57 1 1, ql 58 1 57, qm 59 5, qi 60 2 58 59, qf 61 1 60, ql 62 1 61, qk 63 52 [56, 62], qu 64 .add [] 55 63, qq 65 (.bin .add false [] (.t 64) (.c (.str [41]))), qm 3 65]))
 (.ops [qm 44 5, qv 45 .add [] 44 1, qm 5 45]))))))
 (qS [qm 66 3, qq 67 (.bin .add false [] (.t 66) (.c (.str [41, 32, 40, 112, 114, 101, 100, 105, 99, 97, 116, 101, 115]))), qm 3 67]
 (qT (qS [qc 6 0]
 (.block 4 (.loop (qT (qS [qm 68 6, qf 69 2 1, ql 70 1 69, qn 71 70, qu 72 .lss [] 68 71]
 (.cond (.t 72) .skip (.exit 4)))
 (qT (.block 5 (.ops [qm 75 3, qq 76 (.bin .add false [] (.t 75) (.c (.str [32, 40]))), qf 77 2 1, ql 78 1 77, qm 79 6, qi 80 2 78 79, qf 81 0 80, ql 82 1 81, qu 83 .add [] 76 82, qL 84 6 1, qf 85 2 1, ql 86 1 85, qm 87 6, qi 88 2 86 87, qf 89 1 88, ql 90 1 89, qk 91 53 [84, 90], qu 92 .add [] 83 91, qq 93 (.bin .add false [] (.t 92) (.c (.str [41]))), qm 3 93]))
 (.ops [qm 73 6, qv 74 .add [] 73 1, qm 6 74]))))))
 (qS [qm 94 3, qq 95 (.bin .add false [] (.t 94) (.c (.str [41]))), qm 3 95]
 (qT (qS [qc 7 0]
 (.block 6 (.loop (qT (qS [qm 96 7, qf 97 3 1, ql 98 1 97, qn 99 98, qu 100 .lss [] 96 99]
 (.cond (.t 100) .skip (.exit 6)))
 (qT (.block 7 (qS [qf 103 3 1, ql 104 1 103, qm 105 7, qi 106 7 104 105, qL 107 7 106, qq 8 (.alloc 768519 (.agg [.str [], .sl .nil [], .sl .nil [], .sl .nil [], .sl .nil [], .sl .nil [], .int .i64 0])), qs 7 8 107]
 (qS [qm 108 3, qq 109 (.bin .add false [] (.t 108) (.c (.str [32, 40, 97, 99, 116, 105, 111, 110, 32]))), qf 110 0 8, ql 111 1 110, qu 112 .add [] 109 111, qq 113 (.bin .add false [] (.t 112) (.c (.str [32, 40]))), qL 114 6 1, qf 115 1 8, ql 116 1 115, qk 117 53 [114, 116], qk 118 54 [117], qu 119 .add [] 113 118, qq 120 (.bin .add false [] (.t 119) (.c (.str [41, 32, 40, 100, 105, 102, 102, 101, 114, 101, 110, 116]))), qm 3 120]
 (qT (qS [qc 9 0]
 (.block 8 (.loop (qT (qS [qm 121 9, qf 122 2 8, ql 123 1 122, qn 124 123, qu 125 .lss [] 121 124]
 (.cond (.t 125) .skip (.exit 8)))
 (qT (.block 9 (.ops [qm 128 3, qq 129 (.bin .add false [] (.t 128) (.c (.str [32, 40]))), qf 130 2 8, ql 131 1 130, qm 132 9, qi 133 2 131 132, qf 134 0 133, ql 135 1 134, qk 136 55 [135], qu 137 .add [] 129 136, qq 138 (.bin .add false [] (.t 137) (.c (.str [32]))), qf 139 2 8, ql 140 1 139, qm 141 9, qi 142 2 140 141, qf 143 1 142, ql 144 1 143, qk 145 55 [144], qu 146 .add [] 138 145, qq 147 (.bin .add false [] (.t 146) (.c (.str [41]))), qm 3 147]))
 (.ops [qm 126 9, qv 127 .add [] 126 1, qm 9 127]))))))
 (.ops [qm 148 3, qq 149 (.bin .add false [] (.t 148) (.c (.str [41, 32, 40, 112, 114, 101]))), qL 150 6 1, qf 151 3 8, ql 152 1 151, qk 153 56 [150, 152], qu 154 .add [] 149 153, qq 155 (.bin .add false [] (.t 154) (.c (.str [41, 32, 40, 97, 100, 100]))), qL 156 6 1, qf 157 4 8, ql 158 1 157, qk 159 57 [156, 158], qu 160 .add [] 155 159, qq 161 (.bin .add false [] (.t 160) (.c (.str [41, 32, 40, 100, 101, 108]))), qL 162 6 1, qf 163 5 8, ql 164 1 163, qk 165 57 [162, 164], qu 166 .add [] 161 165, qq 167 (.bin .add false [] (.t 166) (.c (.str [41, 32]))), qf 168 6 8, ql 169 1 168, qk 170 55 [169], qu 171 .add [] 167 170, qq 172 (.bin .add false [] (.t 171) (.c (.str [41]))), qm 3 172])))))
 (.ops [qm 101 7, qv 102 .add [] 101 1, qm 7 102]))))))
 (.seq (.ops [qm 173 3, qq 174 (.bin .add false [] (.t 173) (.c (.str [32, 40, 105, 110, 105, 116]))), qL 175 6 1, qf 176 4 1, ql 177 1 176, qk 178 57 [175, 177], qu 179 .add [] 174 178, qq 180 (.bin .add false [] (.t 179) (.c (.str [41, 32, 40, 103, 111, 97, 108]))), qL 181 6 1, qf 182 5 1, ql 183 1 182, qk 184 56 [181, 183], qu 185 .add [] 180 184, qq 186 (.bin .add false [] (.t 185) (.c (.str [41, 41]))), qm 2 186]) .ret))))))))))
def r_R1_DomainText : List RVar := [.tmp 2]
def n_R1_DomainText : Nat := 187
theorem k_R1_DomainText : chkFn PG 12 n_R1_DomainText r_R1_DomainText c_R1_DomainText = true := by kernel_rfl
theorem f_R1_DomainText (d : Dom) (hd : DomV d) : Fc PG 12 [domV d] (.str (ttx (domT d))) := by
 have q0 := hd.ty.ty.1
 have q1 := hd.ty.ol
 have q2 := hd.pl
 have q3 := hd.sl
 obtain ⟨b0, b1, b2, b3⟩ := dom_parts hd (by omega)
 have hi := atomsCode_all hd.ini
 have hg := atomsCode_all hd.goal
 have hgl := hg.1
 rw [List.length_map] at hgl
 have cI := f_R1_atomTexts d hd [] (by simp) d.init (by have := hi.1; omega) hi.2
 have cG := f_R1_literalTexts d hd [] (by simp) d.goal (by omega) (fun x hx => hg.2 x.at_ (List.mem_map_of_mem hx))
 have bI : (spT (d.init.map (atT d))).length ≤ 14 * tszL (d.init.map (atT d)) := spT_len _ (tokL_map fun a ha => at_tok hd (ps := []) (by simp) (hi.2 a ha))
 have zI : tszL (d.init.map (atT d)) ≤ d.init.length * 5 := tszL_map_le fun a ha => tsz_at d (atW_of hd (ps := []) (by simp) (hi.2 a ha)).2
 have bG : (spT (d.goal.map (litT d))).length ≤ 14 * tszL (d.goal.map (litT d)) := spT_len _ (tokL_map fun a ha => lit_tok hd (ps := []) (by simp) (hg.2 a.at_ (List.mem_map_of_mem ha)))
 have zG : tszL (d.goal.map (litT d)) ≤ d.goal.length * 7 := tszL_map_le fun a ha => tsz_lit d (atW_of hd (ps := []) (by simp) (hg.2 a.at_ (List.mem_map_of_mem ha))).2
 have hil := hi.1
 have hend := domT_tx d
 refine Fn.step mixed k_R1_DomainText ?_
 repeat (first|refine i_s rfl ?_|refine sw ?_|refine i_box rfl rfl ?_)
 refine c_for d.types.length (fun k => [(1, .bptr 768070 0), (3, .str ([40, 100, 111, 109, 97, 105, 110, 32, 40, 116, 121, 112, 101, 115] ++ spT ((d.types.take k).map (tyT d)))), (4, .int .i64 k)]) (fun _ => [(768070, .box (domV d))]) (fun _ => True) trivial ⟨⟨rfl, rfl, rfl, trivial⟩, ⟨rfl, trivial⟩, rfl⟩ fun k hk _ => ?_
 have hp := sp_pre (tyT d) d.types k
 by_cases hlt : k < d.types.length
 · clear cI cG hend
   obtain ⟨t, ht⟩ := get_some hlt
   have hpr : t.parent < d.types.length := by have := hd.ty.ty.2 k t ht; omega
   have hN := f_R1_typeName d t.parent hpr
   have n1 := sym_len (typeNm_sym hd hpr)
   have n2 := sym_len (name_symbol (tyVal_of hd.types ht).name)
   have e := sp_take (g := tyT d) ht
   have e2 : ttx (tyT d t) = 40 :: (t.name ++ 32 :: (typeNm d t.parent ++ [41])) := ttx_pair _ _
   rw [e2] at e
   generalize spT ((d.types.take k).map (tyT d)) = S at *
   generalize typeNm d t.parent = nn at *
   repeat' (first|refine i_len rfl ?_|refine i_s rfl ?_|refine sw ?_|refine ja rfl rfl ?_|refine jd rfl rfl ?_|refine c_cond rfl (fun h => ?_) (fun h => ?_)|refine sf rfl rfl hN ?_|refine i_cat rfl rfl (by simp only [List.length_append, List.length_cons, List.length_nil]; omega) ?_)
   all_goals first
    | (exfalso; clear hN; simp at *; done)
    | (exfalso; clear hN; simp at *; omega)
    | skip
   refine e_for hlt trivial ⟨⟨rfl, ?_, rfl, trivial⟩, ⟨rfl, trivial⟩, rfl⟩
   exact congrArg V.str (by rw [e]; simp)
 have hge : k = d.types.length := by omega
 subst hge
 rw [List.take_length] at hp ⊢
 have hpl : ([40, 100, 111, 109, 97, 105, 110, 32, 40, 116, 121, 112, 101, 115] ++ spT (d.types.map (tyT d))).length ≤ 300000 := by simp only [List.length_append, List.length_cons, List.length_nil]; omega
 generalize [40, 100, 111, 109, 97, 105, 110, 32, 40, 116, 121, 112, 101, 115] ++ spT (d.types.map (tyT d)) = P1 at *
 repeat' (first|refine i_len rfl ?_|refine i_s rfl ?_|refine sw ?_|refine c_cond rfl (fun h => ?_) (fun h => ?_)|refine i_cat rfl rfl (by simp only [List.length_append, List.length_cons, List.length_nil]; omega) ?_)
 all_goals first
  | (exfalso; clear cI cG hend; simp at *; done)
  | (exfalso; clear cI cG hend; simp at *; omega)
  | skip
 refine c_for d.objects.length (fun k => [(1, .bptr 768070 0), (3, .str (P1 ++ [41, 32, 40, 111, 98, 106, 101, 99, 116, 115] ++ spT ((d.objects.take k).map (obT d)))), (5, .int .i64 k)]) (fun _ => [(768070, .box (domV d))]) (fun _ => True) trivial ⟨⟨rfl, by rw [List.take_zero, List.map_nil, sp_nil, List.append_nil]; rfl, rfl, trivial⟩, ⟨rfl, trivial⟩, rfl⟩ fun k hk _ => ?_
 have hp := sp_pre (obT d) d.objects k
 by_cases hlt : k < d.objects.length
 · clear cI cG hend
   obtain ⟨t, ht⟩ := get_some hlt
   have hpr : t.type < d.types.length := (hd.ty.o t (mem_get ht)).2
   have hN := f_R1_typeName d t.type hpr
   have n1 := sym_len (typeNm_sym hd hpr)
   have n2 := sym_len (name_symbol (obVal_of hd.objects ht).name)
   have e := sp_take (g := obT d) ht
   have e2 : ttx (obT d t) = 40 :: (t.name ++ 32 :: (typeNm d t.type ++ [41])) := ttx_pair _ _
   rw [e2] at e
   generalize spT ((d.objects.take k).map (obT d)) = S at *
   generalize typeNm d t.type = nn at *
   repeat' (first|refine i_len rfl ?_|refine i_s rfl ?_|refine sw ?_|refine ja rfl rfl ?_|refine jd rfl rfl ?_|refine c_cond rfl (fun h => ?_) (fun h => ?_)|refine sf rfl rfl hN ?_|refine i_cat rfl rfl (by simp only [List.length_append, List.length_cons, List.length_nil]; omega) ?_)
   all_goals first
    | (exfalso; clear hN; simp at *; done)
    | (exfalso; clear hN; simp at *; omega)
    | skip
   refine e_for hlt trivial ⟨⟨rfl, ?_, rfl, trivial⟩, ⟨rfl, trivial⟩, rfl⟩
   exact congrArg V.str (by rw [e]; simp)
 have hge : k = d.objects.length := by omega
 subst hge
 rw [List.take_length] at hp ⊢
 have hpl2 : (P1 ++ [41, 32, 40, 111, 98, 106, 101, 99, 116, 115] ++ spT (d.objects.map (obT d))).length ≤ 600000 := by simp only [List.length_append, List.length_cons, List.length_nil]; omega
 generalize P1 ++ [41, 32, 40, 111, 98, 106, 101, 99, 116, 115] ++ spT (d.objects.map (obT d)) = P2 at *
 repeat' (first|refine i_len rfl ?_|refine i_s rfl ?_|refine sw ?_|refine c_cond rfl (fun h => ?_) (fun h => ?_)|refine i_cat rfl rfl (by simp only [List.length_append, List.length_cons, List.length_nil]; omega) ?_)
 all_goals first
  | (exfalso; clear cI cG hend; simp at *; done)
  | (exfalso; clear cI cG hend; simp at *; omega)
  | skip
 refine c_for d.preds.length (fun k => [(1, .bptr 768070 0), (3, .str (P2 ++ [41, 32, 40, 112, 114, 101, 100, 105, 99, 97, 116, 101, 115] ++ spT ((d.preds.take k).map (prT d)))), (6, .int .i64 k)]) (fun _ => [(768070, .box (domV d))]) (fun _ => True) trivial ⟨⟨rfl, by rw [List.take_zero, List.map_nil, sp_nil, List.append_nil]; rfl, rfl, trivial⟩, ⟨rfl, trivial⟩, rfl⟩ fun k hk _ => ?_
 have hp := sp_pre (prT d) d.preds k
 by_cases hlt : k < d.preds.length
 · clear cI cG hend
   obtain ⟨t, ht⟩ := get_some hlt
   have hv := prdVal_of hd ht
   have htl := hv.types.1
   have hN := f_R1_typeNames d hd t.types (by omega) (fun x hx => (hv.types.2 x hx).2)
   have n1 := spT_len (t.types.map (nmT d)) (tokL_map fun x hx => typeNm_sym hd (hv.types.2 x hx).2)
   have n3 : tszL (t.types.map (nmT d)) ≤ t.types.length * 1 := tszL_map_le fun x _ => by simp [nmT, tsz]
   have n2 := sym_len (name_symbol hv.name)
   have e := sp_take (g := prT d) ht
   have e2 : ttx (prT d t) = 40 :: (t.name ++ (spT (t.types.map (nmT d)) ++ [41])) := ttx_sec _ _
   rw [e2] at e
   generalize spT ((d.preds.take k).map (prT d)) = S at *
   generalize spT (t.types.map (nmT d)) = nn at *
   repeat' (first|refine i_len rfl ?_|refine i_s rfl ?_|refine sw ?_|refine ja rfl rfl ?_|refine jd rfl rfl ?_|refine c_cond rfl (fun h => ?_) (fun h => ?_)|refine sf rfl rfl hN ?_|refine i_cat rfl rfl (by simp only [List.length_append, List.length_cons, List.length_nil]; omega) ?_)
   all_goals first
    | (exfalso; clear hN; simp at *; done)
    | (exfalso; clear hN; simp at *; omega)
    | skip
   refine e_for hlt trivial ⟨⟨rfl, ?_, rfl, trivial⟩, ⟨rfl, trivial⟩, rfl⟩
   exact congrArg V.str (by rw [e]; simp)
 have hge : k = d.preds.length := by omega
 subst hge
 rw [List.take_length] at hp ⊢
 have hpl3 : (P2 ++ [41, 32, 40, 112, 114, 101, 100, 105, 99, 97, 116, 101, 115] ++ spT (d.preds.map (prT d))).length ≤ 900000 := by simp only [List.length_append, List.length_cons, List.length_nil]; omega
 generalize P2 ++ [41, 32, 40, 112, 114, 101, 100, 105, 99, 97, 116, 101, 115] ++ spT (d.preds.map (prT d)) = P3 at *
 repeat' (first|refine i_len rfl ?_|refine i_s rfl ?_|refine sw ?_|refine c_cond rfl (fun h => ?_) (fun h => ?_)|refine i_cat rfl rfl (by simp only [List.length_append, List.length_cons, List.length_nil]; omega) ?_)
 all_goals first
  | (exfalso; clear cI cG hend; simp at *; done)
  | (exfalso; clear cI cG hend; simp at *; omega)
  | skip
 refine c_for d.schemas.length (fun k => [(1, .bptr 768070 0), (3, .str (P3 ++ [41] ++ spT ((d.schemas.take k).map (schT d)))), (7, .int .i64 k)]) (fun _ => [(768070, .box (domV d))]) (fun _ => True) trivial ⟨⟨rfl, by rw [List.take_zero, List.map_nil, sp_nil, List.append_nil]; rfl, rfl, trivial⟩, ⟨rfl, trivial⟩, rfl⟩ fun k hk _ => ?_
 have hp := sp_pre (schT d) d.schemas k
 by_cases hlt : k < d.schemas.length
 · clear cI cG hend
   obtain ⟨s, hs⟩ := get_some hlt
   have hv := (schV2_of hd hs).val
   have hz := tsz_sch hd (mem_get hs)
   have htk := sch_tok hd (mem_get hs)
   have bP := pairs_len hv htk hz
   have e := sp_take (g := schT d) hs
   have e2 := schT_tx d s
   rw [e2] at e
   clear e2
   have htl := hv.types.1
   have hdl := hv.dl
   have c0 := hv.c0
   have c1 := hv.c1
   have n0 := sym_len (name_symbol (schV2_of hd hs).name)
   have hN := f_R1_typeNames d hd s.types (by omega) (fun x hx => (hv.types.2 x hx).2)
   have n1 := spT_len (s.types.map (nmT d)) (tokL_map fun x hx => typeNm_sym hd (hv.types.2 x hx).2)
   have n3 : tszL (s.types.map (nmT d)) ≤ s.types.length * 1 := tszL_map_le fun x _ => by simp [nmT, tsz]
   have hTr := f_R1_trimmed (spT (s.types.map (nmT d))) (by omega)
   have hpl' : s.pre.length ≤ 1000 := by have := hv.prel; omega
   have hal' : s.add.length ≤ 1000 := by have := hv.addl; omega
   have hdl' : s.del.length ≤ 1000 := by have := hv.dell; omega
   have hpp := f_R1_literalTexts d hd s.types (by omega) s.pre hpl' hv.pre
   have haa := f_R1_atomTexts d hd s.types (by omega) s.add hal' hv.add
   have hdd := f_R1_atomTexts d hd s.types (by omega) s.del hdl' hv.del
   have m1 := spT_len (s.pre.map (litT d)) (tokL_map fun a ha => lit_tok hd (ps := s.types) (by omega) (hv.pre a ha))
   have m2 : tszL (s.pre.map (litT d)) ≤ s.pre.length * 7 := tszL_map_le fun a ha => tsz_lit d (atW_of hd (ps := s.types) (by omega) (hv.pre a ha)).2
   have m3 := spT_len (s.add.map (atT d)) (tokL_map fun a ha => at_tok hd (ps := s.types) (by omega) (hv.add a ha))
   have m4 : tszL (s.add.map (atT d)) ≤ s.add.length * 5 := tszL_map_le fun a ha => tsz_at d (atW_of hd (ps := s.types) (by omega) (hv.add a ha)).2
   have m5 := spT_len (s.del.map (atT d)) (tokL_map fun a ha => at_tok hd (ps := s.types) (by omega) (hv.del a ha))
   have m6 : tszL (s.del.map (atT d)) ≤ s.del.length * 5 := tszL_map_le fun a ha => tsz_at d (atW_of hd (ps := s.types) (by omega) (hv.del a ha)).2
   have hC := f_R1_Digits s.cost.toNat (by omega)
   have hCl := dig_len (n := s.cost.toNat) (by omega)
   rw [show (s.cost.toNat : Int) = s.cost from by omega] at hC
   have hdfb : (spT (s.types.map (nmT d))).drop 1 = (spT (s.types.map (nmT d))).drop 1 := rfl
   have n4 : ((spT (s.types.map (nmT d))).drop 1).length ≤ 1000 := by simp; omega
   generalize spT ((d.schemas.take k).map (schT d)) = S at *
   generalize spT (s.types.map (nmT d)) = TN at *
   generalize spT (s.pre.map (litT d)) = PR at *
   generalize spT (s.add.map (atT d)) = AD at *
   generalize spT (s.del.map (atT d)) = DE at *
   generalize dig s.cost.toNat = CO at *
   repeat' (first|refine i_len rfl ?_|refine i_s rfl ?_|refine sw ?_|refine jd rfl rfl ?_|refine i_stb rfl ?_|refine i_alloc rfl ?_|refine c_cond rfl (fun h => ?_) (fun h => ?_)|refine sf rfl rfl hN ?_|refine sf rfl rfl hTr ?_|refine i_cat rfl rfl (by simp only [List.length_append, List.length_cons, List.length_nil]; omega) ?_)
   all_goals first
    | (exfalso; clear hN hTr hpp haa hdd hC e; simp at *; done)
    | (exfalso; clear hN hTr hpp haa hdd hC e; simp at *; omega)
    | skip
   clear hN hTr
   generalize TN.drop 1 = TD at *
   have hQl : (P3 ++ [41] ++ S ++ [32, 40, 97, 99, 116, 105, 111, 110, 32] ++ s.name ++ [32, 40] ++ TD ++ [41, 32, 40, 100, 105, 102, 102, 101, 114, 101, 110, 116]).length ≤ 2000000 := by simp only [List.length_append, List.length_cons, List.length_nil]; omega
   generalize hQ : P3 ++ [41] ++ S ++ [32, 40, 97, 99, 116, 105, 111, 110, 32] ++ s.name ++ [32, 40] ++ TD ++ [41, 32, 40, 100, 105, 102, 102, 101, 114, 101, 110, 116] = Q at *
   refine c_for s.diff.length (fun j => [(1, .bptr 768070 0), (3, .str (Q ++ spT ((s.diff.take j).map pairT))), (7, .int .i64 k), (8, .bptr 768519 0), (9, .int .i64 j)]) (fun _ => [(768070, .box (domV d)), (768519, .box (schV s))]) (fun _ => True) trivial ⟨⟨rfl, by rw [List.take_zero, List.map_nil, sp_nil, List.append_nil]; rfl, rfl, rfl, rfl, trivial⟩, ⟨rfl, rfl, trivial⟩, rfl⟩ fun j hj _ => ?_
   have hpj := sp_pre pairT s.diff j
   by_cases hltj : j < s.diff.length
   · obtain ⟨p, hp'⟩ := get_some hltj
     have hpb := hv.diff p (mem_get hp')
     have htl3 := hv.types.1
     have ej := sp_take (g := pairT) hp'
     have ej2 : ttx (pairT p) = 40 :: (dig p.1.toNat ++ 32 :: (dig p.2.toNat ++ [41])) := ttx_pair _ _
     rw [ej2] at ej
     have hA1 := f_R1_Digits p.1.toNat (by omega)
     have hA2 := f_R1_Digits p.2.toNat (by omega)
     have l1 := dig_len (n := p.1.toNat) (by omega)
     have l2 := dig_len (n := p.2.toNat) (by omega)
     rw [show (p.1.toNat : Int) = p.1 from by omega] at hA1
     rw [show (p.2.toNat : Int) = p.2 from by omega] at hA2
     generalize spT ((s.diff.take j).map pairT) = SJ at *
     generalize dig p.1.toNat = D1 at *
     generalize dig p.2.toNat = D2 at *
     clear hpp haa hdd hC e hQ
     repeat' (first|refine i_len rfl ?_|refine i_s rfl ?_|refine sw ?_|refine ja rfl rfl ?_|refine jd rfl rfl ?_|refine c_cond rfl (fun h => ?_) (fun h => ?_)|refine sf rfl rfl hA1 ?_|refine sf rfl rfl hA2 ?_|refine i_cat rfl rfl (by simp only [List.length_append, List.length_cons, List.length_nil]; omega) ?_)
     all_goals first
      | (exfalso; clear hA1 hA2; simp at *; done)
      | (exfalso; clear hA1 hA2; simp at *; omega)
      | skip
     refine e_for hltj trivial ⟨⟨rfl, ?_, rfl, rfl, rfl, trivial⟩, ⟨rfl, rfl, trivial⟩, rfl⟩
     exact congrArg V.str (by rw [ej]; simp)
   have hgj : j = s.diff.length := by omega
   subst hgj
   rw [List.take_length] at hpj ⊢
   generalize spT (s.diff.map pairT) = DF at *
   repeat' (first|refine i_len rfl ?_|refine i_s rfl ?_|refine sw ?_|refine ja rfl rfl ?_|refine c_cond rfl (fun h => ?_) (fun h => ?_)|refine sf rfl rfl hpp ?_|refine sf rfl rfl haa ?_|refine sf rfl rfl hdd ?_|refine sf rfl rfl hC ?_|refine i_cat rfl rfl (by simp only [List.length_append, List.length_cons, List.length_nil]; omega) ?_)
   all_goals first
    | (exfalso; clear hpp haa hdd hC e hQ; simp at *; done)
    | (exfalso; clear hpp haa hdd hC e hQ; simp at *; omega)
    | skip
   refine e_for hlt trivial ⟨⟨rfl, ?_, rfl, trivial⟩, ⟨rfl, trivial⟩, rfl⟩
   exact congrArg V.str (by rw [e, ← hQ]; simp)
 have hge : k = d.schemas.length := by omega
 subst hge
 rw [List.take_length] at hp ⊢
 have hpl4 : (P3 ++ [41] ++ spT (d.schemas.map (schT d))).length ≤ 1200000 := by simp only [List.length_append, List.length_cons, List.length_nil]; omega
 generalize P3 ++ [41] ++ spT (d.schemas.map (schT d)) = P4 at *
 generalize spT (d.init.map (atT d)) = IN at *
 generalize spT (d.goal.map (litT d)) = GO at *
 repeat' (first|refine i_len rfl ?_|refine i_s rfl ?_|refine sw ?_|refine c_cond rfl (fun h => ?_) (fun h => ?_)|refine sf rfl rfl cI ?_|refine sf rfl rfl cG ?_|refine i_cat rfl rfl (by simp only [List.length_append, List.length_cons, List.length_nil]; omega) ?_)
 all_goals first
  | (exfalso; clear cI cG hend; simp at *; done)
  | (exfalso; clear cI cG hend; simp at *; omega)
  | exact e_ret ⟨rfl, _, rfl, congrArg V.str hend⟩
  | exact e_ret ⟨rfl, _, rfl, congrArg V.str hend.symm⟩
def c_R1_PrintFault : Cmd :=
 (qS [qx 1 640070 6 0, qq 2 (.alloc 640130 (.agg [.int .i64 0, .int .i64 0]))]
 (qS [qL 5 6 1, qk 6 9 [5], qq 3 (.alloc 640194 (.agg [.int .i64 0, .int .i64 0])), qs 2 3 6]
 (qT (qS [qf 7 0 3, ql 8 1 7, qv 9 .neq [.i] 8 0]
 (.cond (.t 9) (.seq (.ops [qL 10 2 3, qs 2 2 10]) .ret) .skip))
 (qS [qL 11 6 1, qk 12 12 [11], qm 4 12]
 (qT (qS [qm 13 4, qq 14 (.len true (.t 13)), qv 15 .gtr [] 14 4096, qm 16 15, qg 17 16 false (.mov (.t 4)), qg 18 16 false (.call .f (.c (.fn 37 [])) [.t 17]), qg 19 16 false (.bin .gtr false [] (.t 18) (.c (.int .i64 300))), qq 20 (.pick (.t 16) (.c (.bool true)) (.t 19))]
 (.cond (.t 20) (.seq (.ops [qq 21 (.call .f (.c (.fn 20 [])) [.c (.int .i64 10), .c (.int .i64 (-7))]), qs 2 2 21]) .ret) .skip))
 (.seq (.ops [qL 22 2 3, qs 2 2 22]) .ret))))))
def r_R1_PrintFault : List RVar := [.cell true 2 2]
def n_R1_PrintFault : Nat := 23
theorem k_R1_PrintFault : chkFn PG 10 n_R1_PrintFault r_R1_PrintFault c_R1_PrintFault = true := by kernel_rfl
theorem f_R1_PrintFault (d : Dom) (ho : DoOk d) : Fc PG 10 [domV d] (ftV (printF d)) := by
 have hV := f_R1_DomainFault d ho
 by_cases hdf : domFault d = okF
 · have hd := domV_of hdf
   have hT := f_R1_DomainText d hd
   have hcn := cnt_text (domT_tok hd)
   have q0 := hd.ty.ty.1
   have hz := tsz_dom hd (by omega)
   have hA := f_R1_At 10 (-7)
   have hll := ttx_len _ (domT_tok hd)
   have hN : Fc PG 37 [.str (ttx (domT d))] (.int .i64 (tsz (domT d))) := by
    have := f_R1_TextNodes (ttx (domT d)) (by omega)
    rwa [hcn] at this
   have hp : printF d = if bigD d = true then ⟨10, -7⟩ else okF := by unfold printF; rw [if_neg (fun h => h hdf)]
   rw [hp]
   rw [hdf] at hV
   unfold bigD
   clear hcn hp hdf hd
   generalize ttx (domT d) = T at *
   generalize tsz (domT d) = z at *
   by_cases h1 : T.length > 4096
   · rw [decide_eq_true h1, Bool.or_true, if_pos rfl]
     refine Fn.step mixed k_R1_PrintFault ?_
     repeat' (first|refine i_s rfl ?_|refine sw ?_|refine i_gt rfl ?_|refine i_gf rfl ?_|refine c_t rfl ?_|refine c_f rfl ?_|refine i_stb rfl ?_|refine i_alloc rfl ?_|refine i_box rfl rfl ?_|(refine sp ?_ ?_ <;> try intro h)|refine sf rfl rfl hV ?_|refine sf rfl rfl hT ?_|refine sf rfl rfl hN ?_|refine sf rfl rfl hA ?_|fail)
     all_goals first
      | exact e_ret ⟨rfl, _, rfl, rfl⟩
      | (exfalso; clear hV hT hN hA; simp at *; done)
      | (exfalso; clear hV hT hN hA; simp at *; omega)
   · rw [decide_eq_false h1, Bool.or_false]
     by_cases h2 : z > 300
     · rw [decide_eq_true h2, if_pos rfl]
       refine Fn.step mixed k_R1_PrintFault ?_
       repeat' (first|refine i_s rfl ?_|refine sw ?_|refine i_gt rfl ?_|refine i_gf rfl ?_|refine c_t rfl ?_|refine c_f rfl ?_|refine i_stb rfl ?_|refine i_alloc rfl ?_|refine i_box rfl rfl ?_|(refine sp ?_ ?_ <;> try intro h)|refine sf rfl rfl hV ?_|refine sf rfl rfl hT ?_|refine sf rfl rfl hN ?_|refine sf rfl rfl hA ?_|fail)
       all_goals first
        | exact e_ret ⟨rfl, _, rfl, rfl⟩
        | (exfalso; clear hV hT hN hA; simp at *; done)
        | (exfalso; clear hV hT hN hA; simp at *; omega)
     · rw [decide_eq_false h2, if_neg (by simp)]
       refine Fn.step mixed k_R1_PrintFault ?_
       repeat' (first|refine i_s rfl ?_|refine sw ?_|refine i_gt rfl ?_|refine i_gf rfl ?_|refine c_t rfl ?_|refine c_f rfl ?_|refine i_stb rfl ?_|refine i_alloc rfl ?_|refine i_box rfl rfl ?_|(refine sp ?_ ?_ <;> try intro h)|refine sf rfl rfl hV ?_|refine sf rfl rfl hT ?_|refine sf rfl rfl hN ?_|refine sf rfl rfl hA ?_|fail)
       all_goals first
        | exact e_ret ⟨rfl, _, rfl, rfl⟩
        | (exfalso; clear hV hT hN hA; simp at *; done)
        | (exfalso; clear hV hT hN hA; simp at *; omega)
 · have hp : printF d = domFault d := by unfold printF; rw [if_pos hdf]
   have hc : (domFault d).code ≠ 0 := fun h => hdf ((domFault_code' d).1 h)
   rw [hp]
   clear hp hdf
   generalize domFault d = f at *
   refine Fn.step mixed k_R1_PrintFault ?_
   repeat' (first|refine i_s rfl ?_|refine sw ?_|refine i_stb rfl ?_|refine i_alloc rfl ?_|refine i_box rfl rfl ?_|refine c_cond rfl (fun h => ?_) (fun h => ?_)|refine sf rfl rfl hV ?_|fail)
   all_goals first
    | exact e_ret ⟨rfl, _, rfl, rfl⟩
    | (exfalso; clear hV; simp at *; done)
    | (exfalso; clear hV; simp at *; omega)
def c_L1_DomainMatchesSpec : Cmd :=
 (qS [qx 1 192070 6 0, qb 2 false]
 (qT (qS [qk 6 7 [], qq 7 (.not (.t 6)), qm 8 7, qg 9 8 false (.load true 6 (.t 1)), qg 10 8 false (.call .f (.c (.fn 8 [])) [.t 9]), qg 11 8 false (.load true 6 (.t 1)), qg 12 8 false (.call .f (.c (.fn 9 [])) [.t 11]), qg 13 8 false (.bin .neq true [.i, .i] (.t 10) (.t 12)), qq 14 (.pick (.t 8) (.c (.bool true)) (.t 13))]
 (.cond (.t 14) (.seq (.ops [qb 2 false]) .ret) .skip))
 (qS [qL 15 6 1, qk 16 10 [15], qq 3 (.alloc 192194 (.agg [.int .i64 0, .int .i64 0])), qs 2 3 16]
 (qS [qL 18 6 1, qk 19 11 [18], qm 17 19, qq 20 (.extract (.t 17) 0), qq 21 (.extract (.t 17) 1), qq 5 (.alloc 192322 (.agg [.int .i64 0, .int .i64 0])), qm 4 20, qs 2 5 21]
 (.seq (.ops [qL 22 2 5, qL 23 2 3, qq 24 (.bin .eql true [.i, .i] (.t 22) (.t 23)), qm 25 24, qg 26 25 true (.faddr 0 (.t 3)), qg 27 25 true (.load false 1 (.t 26)), qg 28 25 true (.bin .neq false [.i] (.t 27) (.c (.int .i64 0))), qg 29 25 true (.mov (.t 28)), qg 30 29 true (.mov (.t 4)), qg 31 29 true (.bin .eql false [.s] (.t 30) (.c (.str []))), qg 32 25 true (.pick (.t 29) (.t 31) (.c (.bool false))), qg 33 25 true (.mov (.t 32)), qg 34 33 false (.faddr 0 (.t 3)), qg 35 33 false (.load false 1 (.t 34)), qg 36 33 false (.bin .eql false [.i] (.t 35) (.c (.int .i64 0))), qg 37 33 false (.mov (.t 36)), qg 38 37 true (.mov (.t 4)), qg 39 37 true (.load true 6 (.t 1)), qg 40 37 true (.call .f (.c (.fn 12 [])) [.t 39]), qg 41 37 true (.bin .eql false [.s] (.t 38) (.t 40)), qg 42 33 false (.pick (.t 37) (.t 41) (.c (.bool false))), qg 43 25 true (.pick (.t 33) (.c (.bool true)) (.t 42)), qq 44 (.pick (.t 25) (.t 43) (.c (.bool false))), qm 2 44]) .ret)))))
def r_L1_DomainMatchesSpec : List RVar := [.tmp 2]
def n_L1_DomainMatchesSpec : Nat := 45
theorem k_L1_DomainMatchesSpec : chkFn PG 3 n_L1_DomainMatchesSpec r_L1_DomainMatchesSpec c_L1_DomainMatchesSpec = true := by kernel_rfl
theorem f_L1_DomainMatchesSpec (d : Dom) (ho : DoOk d) : Fc PG 3 [domV d] (.bool true) := by
 have hD := f_L1_describes itoaOk
 have hV := f_domain_Validate d ho
 have hW := f_R1_DomainFault d ho
 have hF := f_R1_PrintFault d ho
 have hP := f_domain_Print itoaOk d ho
 by_cases hf : printF d = okF
 · obtain ⟨h1, hb, h2⟩ := print_ok hf
   have hT := f_R1_DomainText d (domV_of h1)
   rw [hf] at hF
   rw [hf, h2] at hP
   rw [h1] at hV hW
   clear h1 hb h2 hf
   generalize ttx (domT d) = T at *
   refine Fn.step mixed k_L1_DomainMatchesSpec ?_
   repeat' (first|refine i_s rfl ?_|refine sw ?_|refine i_gt rfl ?_|refine i_gf rfl ?_|refine c_f rfl ?_|refine i_stb rfl ?_|refine i_alloc rfl ?_|refine i_box rfl rfl ?_|refine sf rfl rfl hD ?_|refine sf rfl rfl hV ?_|refine sf rfl rfl hW ?_|refine sf rfl rfl hF ?_|refine sf rfl rfl hP ?_|refine sf rfl rfl hT ?_|fail)
   all_goals first
    | exact e_ret ⟨rfl, _, rfl, rfl⟩
    | (refine e_ret ⟨rfl, _, rfl, congrArg V.bool ?_⟩; simp; done)
    | (exfalso; clear hD hV hW hF hP hT; simp at *; done)
 · have hc : (printF d).code ≠ 0 := fun h => hf ((print_code d).1 h)
   rw [print_bad hf] at hP
   clear hf
   generalize printF d = q at *
   generalize domFault d = f at *
   refine Fn.step mixed k_L1_DomainMatchesSpec ?_
   repeat' (first|refine i_s rfl ?_|refine sw ?_|refine i_gt rfl ?_|refine i_gf rfl ?_|refine i_gd rfl ?_|refine i_stb rfl ?_|refine i_alloc rfl ?_|refine i_box rfl rfl ?_|(refine sp ?_ ?_ <;> try intro h)|refine sf rfl rfl hD ?_|refine sf rfl rfl hV ?_|refine sf rfl rfl hW ?_|refine sf rfl rfl hF ?_|refine sf rfl rfl hP ?_|fail)
   all_goals first
    | exact e_ret ⟨rfl, _, rfl, rfl⟩
    | (refine e_ret ⟨rfl, _, rfl, congrArg V.bool ?_⟩; simp; done)
    | (exfalso; clear hD hV hW hF hP; simp at *; done)
    | (exfalso; clear hD hV hW hF hP; simp at *; omega)
end Hm
end
section
namespace Hm
open Go Go.Proofs.YtkbiopblaggdoaaGreatDoor
set_option maxRecDepth 100000
abbrev laidL : List (String × DataW Unit) := [("math/bits.deBruijn32tab", Rows.laid_math_bits_deBruijn32tab), ("math/bits.deBruijn64tab", Rows.laid_math_bits_deBruijn64tab), ("internal/strconv.uint64pow10", Rows.laid_internal_strconv_uint64pow10), ("strconv.ErrRange", Rows.laid_strconv_ErrRange), ("strconv.ErrSyntax", Rows.laid_strconv_ErrSyntax)]
theorem var_block {P : Program} {w : World} {n : String} {g : Nat} {cs : Array Value} (hg : P.globalNamed n = some g) (h : w.var? P n = some cs) : ∃ (e : TypeId) (fr : Nat × Nat), w.heap[g]? = some (.cells cs.toList.toArray e fr) := by
 unfold World.var? at h
 rw [hg] at h
 simp only [Option.bind_some] at h
 split at h
 · rename_i c e fr hc
   cases h
   exact ⟨e, fr, by simpa using hc⟩
 · cases h
theorem err_block {n nm : String} {d : DataW Unit} {r : List (String × DataW Unit)} {W : World} {g : Nat} {ti : TypeId} {ms : Array (String × TypeId)} (h : laidMet Go.Proofs.Tryz.prog ((n, .iface nm d) :: r) W)
  (hg : Go.Proofs.Tryz.prog.globalNamed n = some g) (ht : (Go.Proofs.Tryz.prog.globals[g]?).map (·.type) = some ti) (hi : Go.Proofs.Tryz.prog.underlying ti = some (.interface ms)) : ∃ (cs : List Value) (e : TypeId) (fr : Nat × Nat), W.heap[g]? = some (.cells cs.toArray e fr) ∧ isErr cs := by
 obtain ⟨ps, ⟨g0, t0, cs0, f0, p0, q0, hg0, ht0, hv0, hd0, _, e0⟩, _, hrows⟩ := h
 obtain rfl := Option.some.inj (hg.symm.trans hg0)
 obtain rfl := Option.some.inj (ht.symm.trans ht0)
 obtain ⟨e, fr, hb⟩ := var_block hg hv0
 obtain ⟨_, u, v, hc, _, _⟩ := iface_of_trod hi hd0
 exact ⟨cs0.toList, e, fr, hb, u, v, hc⟩
theorem gl_of_laid {W : World} (h : laidMet Go.Proofs.Tryz.prog laidL W) : ∀ p ∈ glb, ∃ (cs : List Value) (e : TypeId) (fr : Nat × Nat), W.heap[p.1]? = some (.cells cs.toArray e fr) ∧ p.2 cs := by
 have h3 := h.tail.tail
 have h4 := h3.tail
 have h5 := h4.tail
 intro p hp
 unfold glb at hp
 rcases List.mem_cons.1 hp with rfl | hp
 · have ht := Lib.tabIs_of_head (k := .u64) (zs := pow10) (P := Go.Proofs.Tryz.prog) pow_named (by kernel_rfl) (Go.Proofs.Tryz.underlying200) (Go.Proofs.Tryz.underlying193) (by kernel_rfl) (by kernel_rfl) h3
   obtain ⟨e, fr, hb⟩ := var_block pow_named ht
   exact ⟨_, e, fr, hb, by simp⟩
 rcases List.mem_cons.1 hp with rfl | hp
 · exact err_block h5 (by kernel_rfl) (by kernel_rfl) (Go.Proofs.Tryz.underlying122)
 rcases List.mem_cons.1 hp with rfl | hp
 · exact err_block h4 (by kernel_rfl) (by kernel_rfl) (Go.Proofs.Tryz.underlying122)
 cases hp
theorem law_liftL {C : Checked} {os : Os} {f : FuncId} {fn : Func} {s : ChangeSpec} {H : Type} {enc : TypeId × Value → H} {tb : TypeId} {n : Nat} (hC : C.prog = Go.Proofs.Tryz.prog)
  (own : ownKnob C.prog.godebug = none) (started : os.Started) (noInit : C.prog.inits.idxOf? f = none) (hfn : C.prog.funcs[f]? = some fn)
  (witness : ∃ (w : World) (tape : Tape) (i : Input), w.os = os ∧ (w.forCall tape i).Shaped C.prog ∧ i.vars = [] ∧ Input.okWide C.prog (w.forCall tape i) .any w.heap.size f i ∧
    ((s.pre enc C.prog fn [] false (w.forCall tape i).memory i.args ∧ laidMetH C.prog laidL (w.forCall tape i).memory) ∧ sizedMet enc C.prog fn (OpenSpec.ofChange s) false (w.forCall tape i).memory i.args) ∧ (({} : Assume)).holds C.prog (lone (Frame.enter C.prog f i.args .normal) [] (w.forCall tape i)))
  (hvars : s.vars = []) (hs : ∀ ds : List (DataW H), ds.length = fn.params.toList.length → (s.fn H (ds ++ [])).results = [.lit (.bool true)] ∧ (s.fn H (ds ++ [])).args = ds ∧ (s.fn H (ds ++ [])).vars = [])
  (hlaid : laidOutB C.prog = true) (hp : (fn.params.toList.all (pl C.prog n)) = true) (hr : (fn.params.toList.all fun t => C.prog.readableRec t && decide (t < C.prog.types.size)) = true)
  (hres : fn.resultTypes = #[tb]) (htb : C.prog.underlying tb = some .bool)
  (hc : ∀ ds : List (DataW H), ds.length = fn.params.toList.length → (∀ (j : Nat) t d, fn.params.toList[j]? = some t → ds[j]? = some d → ∃ n, wt C.prog n t d) → Fc C.prog f (ds.map dv) (.bool true)) :
  ReturnsInHanded {} C os f .any (fun w args => (s.pre enc C.prog fn [] false w args ∧ laidMetH C.prog laidL w) ∧ sizedMet enc C.prog fn (OpenSpec.ofChange s) false w args) (s.post enc C.prog fn false true false false) := by
 refine returnsInHanded_of_change_and (X := fun w _ => laidMetH C.prog laidL w) (fun _ _ _ hh h => h.of_heap hh) own started noInit hfn witness ?_
 intro W base args ds gs before hval hW _ hsz hL _
 have hL : laidMetH C.prog laidL W := hL
 rw [hC] at hL
 exact law_call hvars hs hlaid hp hr hres htb hc W base args ds gs before hval hW hsz (gl_of_laid hL)
theorem door_met (os : Os) (args : Array Value) : laidMetH Go.Proofs.Tryz.prog laidL ((World.doorLaid Go.Proofs.Tryz.prog 62 os).forCall (fun _ _ => 0) ⟨#[], args, []⟩).memory := by
 rw [MakeChecks.laidMetH_plain _ _ _ (by kernel_rfl)]
 exact laidMet_of_run' 8 (by kernel_rfl) (by kernel_rfl)
theorem no_stand {P : Program} {fn : Func} (h : (fn.params.toList.all fun t => !(P.wantsStandIn t)) = true) {j : Nat} {t : TypeId} (ht : fn.params[j]? = some t) : P.wantsStandIn t = false := by
 have := List.all_eq_true.1 h t (List.mem_of_getElem? (by simpa using ht))
 simpa using this
end Hm
end
