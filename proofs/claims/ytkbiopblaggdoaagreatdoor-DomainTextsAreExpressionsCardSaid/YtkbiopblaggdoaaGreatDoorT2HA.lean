/- Part T2HA of the proof. -/
import Derived.Test.YtkbiopblaggdoaaGreatDoorTHB
import Derived.Test.YtkbiopblaggdoaaGreatDoorT2PA
set_option linter.unusedVariables false
set_option linter.unusedSimpArgs false
section
namespace Hm
open Go
set_option maxRecDepth 100000
set_option maxHeartbeats 4000000
theorem readF_code (t : List UInt8) : (readF t).code = 0 ↔ readF t = okF := by
  refine ⟨fun h => ?_, fun h => by rw [h]; rfl⟩
  unfold readF at h ⊢
  split at h
  · cases h
  · rename_i h1
    rw [if_neg h1]
    split at h
    · rename_i h2; exact absurd h h2
    · rename_i h2
      rw [if_neg h2]
      split at h
      · cases h
      · rename_i h3
        rw [if_neg h3]
        split at h
        · cases h
        · rename_i h4
          rw [if_neg h4]
end Hm
end
section
namespace Hm
open Go
theorem len_sumN {f : Nat → Nat} (hf : ∀ i, 1 ≤ f i) : ∀ l : List Int, l.length ≤ sumN f l
  | [] => Nat.le_refl _
  | a :: l => by have := len_sumN hf l; have := hf a.toNat; simp only [List.length_cons, sumN]; omega
theorem SxOk.mem {l : List Sx} (h : SxOk l) : SxsOk l := by
  have hl := h.len
  have key : ∀ x ∈ l, x.sym.length ≤ 12 ∧ x.ch.length ≤ 300 ∧ ∀ c ∈ x.ch, 0 ≤ c ∧ c < 300 := by
    intro x hx
    obtain ⟨i, hi, rfl⟩ := List.mem_iff_getElem.1 hx
    have hg := List.getElem?_eq_getElem hi
    have hv := h.node i hi _ hg
    have hlow := hv.low hg
    have hsz := sz_eq (fun j hj => h.node.low j (by omega) : lowTo l (i + 1))
    have hle := sz_le i l.length h.node hi
    have := len_sumN (fun j => sz_pos l j) (chL l i)
    unfold Hm.low at hlow
    rw [chL_get hg] at *
    refine ⟨?_, by omega, fun c hc => by have := hlow c hc; omega⟩
    have h1 := hv.shape
    unfold shapeC at h1
    split at h1
    · rename_i e; rw [e]; simp
    · split at h1
      · cases h1
      · rename_i h2
        simp only [Bool.not_eq_false, symbolB, Bool.and_eq_true, decide_eq_true_eq] at h2
        exact h2.2.2
  exact ⟨by omega, fun x hx => by have := key x hx; omega, fun x hx c hc => by have := (key x hx).2.2 c hc; exact ⟨by show (-9223372036854775808 : Int) ≤ c; omega, by show c ≤ 9223372036854775807; omega⟩⟩
theorem parse_valid {t : List UInt8} (h : parseF t = okF) : domFault (parseD t) = okF ∧ DoOk (parseD t) := by
  unfold parseF at h
  split at h
  · rename_i h1; exact absurd h h1
  · rename_i h1
    have h1 : readF t = okF := Classical.byContradiction h1
    split at h
    · cases h
    · rename_i d hd
      unfold parseD
      rw [if_neg (fun k => k h1), hd]
      simp only
      rw [if_neg (fun k => k h)]
      refine ⟨h, ?_⟩
      have hL := rdOk_of (read_valid h1).1
      unfold domR at hd
      split at hd
      · cases hd
        exact rDom_ok hL _ (nm_ix hL ⟨by have := hL.pos; unfold rootX; omega, by have := hL.pos; unfold rootX; omega⟩ sDomain).1
      · cases hd
theorem parse_code (t : List UInt8) : (parseF t).code = 0 ↔ parseF t = okF := by
  unfold parseF
  split
  · exact readF_code t
  · split
    · exact ⟨fun h => (by cases h), fun h => (by cases h)⟩
    · exact domFault_code' _
theorem print_read {d : Dom} (h : printF d = okF) : readF (printS d) = okF ∧ SxOk (readL (printS d)) ∧ tx (readL (printS d)) ((readL (printS d)).length - 1) = printS d := by
  obtain ⟨h1, hb, h2⟩ := print_ok h
  unfold bigD at hb
  simp only [Bool.or_eq_false_iff, decide_eq_false_iff_not] at hb
  have hv := domV_of h1
  obtain ⟨k1, k2, k3⟩ := flt_ok (domT_tok hv) (domT_dp d) (by omega)
  obtain ⟨r1, r2⟩ := read_tx k1 (by rw [k2]; omega)
  rw [k2] at r1 r2
  rw [h2, r2]
  exact ⟨r1, k1, k2⟩
end Hm
end
section
namespace Hm
open Go
set_option maxRecDepth 100000
set_option maxHeartbeats 4000000
def c_L1_DomainTextsAreExpressions : Cmd :=
 (qS [qx 2 320134 6 0, qb 4 false]
 (qS [qL 14 6 2, qk 15 11 [14], qm 13 15, qq 16 (.extract (.t 13) 0), qq 17 (.extract (.t 13) 1), qq 6 (.alloc 320386 (.agg [.int .i64 0, .int .i64 0])), qm 5 16, qs 2 6 17]
 (qS [qm 19 1, qk 20 13 [19], qm 18 20, qq 21 (.extract (.t 18) 0), qq 22 (.extract (.t 18) 1), qq 7 (.alloc 320454 (.agg [.sl .nil [], .sl .nil [], .sl .nil [], .sl .nil [], .sl .nil [], .sl .nil []])), qq 8 (.alloc 320514 (.agg [.int .i64 0, .int .i64 0])), qs 6 7 21, qs 2 8 22]
 (qT (qS [qk 23 7 [], qq 24 (.not (.t 23)), qm 25 24, qg 26 25 false (.faddr 0 (.t 6)), qg 27 25 false (.load false 1 (.t 26)), qg 28 25 false (.bin .neq false [.i] (.t 27) (.c (.int .i64 0))), qg 29 25 false (.mov (.t 28)), qg 30 29 true (.mov (.t 5)), qg 31 29 true (.bin .neq false [.s] (.t 30) (.c (.str []))), qg 32 25 false (.pick (.t 29) (.t 31) (.c (.bool false))), qq 33 (.pick (.t 25) (.c (.bool true)) (.t 32)), qm 34 33, qg 35 34 false (.faddr 0 (.t 8)), qg 36 34 false (.load false 1 (.t 35)), qg 37 34 false (.bin .eql false [.i] (.t 36) (.c (.int .i64 0))), qg 38 34 false (.mov (.t 37)), qg 39 38 true (.load true 6 (.t 7)), qg 40 38 true (.call .f (.c (.fn 8 [])) [.t 39]), qg 41 38 true (.build [.int .i64 0, .int .i64 0] []), qg 42 38 true (.bin .neq true [.i, .i] (.t 40) (.t 41)), qg 43 34 false (.pick (.t 38) (.t 42) (.c (.bool false))), qq 44 (.pick (.t 34) (.c (.bool true)) (.t 43))]
 (.cond (.t 44) (.seq (.ops [qb 4 false]) .ret) .skip))
 (qT (qS [qf 45 0 6, ql 46 1 45, qv 47 .neq [.i] 46 0]
 (.cond (.t 47) (.seq (.ops [qb 4 true]) .ret) .skip))
 (qS [qm 49 5, qk 50 15 [49], qm 48 50, qq 51 (.extract (.t 48) 0), qq 52 (.extract (.t 48) 1), qq 10 (.alloc 320642 (.agg [.int .i64 0, .int .i64 0])), qm 9 51, qs 2 10 52]
 (qS [qm 54 9, qk 55 16 [54], qm 53 55, qq 56 (.extract (.t 53) 0), qq 57 (.extract (.t 53) 1), qq 12 (.alloc 320770 (.agg [.int .i64 0, .int .i64 0])), qm 11 56, qs 2 12 57]
 (.seq (.ops [qf 58 0 10, ql 59 1 58, qv 60 .eql [.i] 59 0, qm 61 60, qg 62 61 true (.faddr 0 (.t 12)), qg 63 61 true (.load false 1 (.t 62)), qg 64 61 true (.bin .eql false [.i] (.t 63) (.c (.int .i64 0))), qq 65 (.pick (.t 61) (.t 64) (.c (.bool false))), qm 66 65, qg 67 66 true (.mov (.t 11)), qg 68 66 true (.mov (.t 5)), qg 69 66 true (.bin .eql false [.s] (.t 67) (.t 68)), qq 70 (.pick (.t 66) (.t 69) (.c (.bool false))), qm 4 70]) .ret))))))))
def r_L1_DomainTextsAreExpressions : List RVar := [.tmp 4]
def n_L1_DomainTextsAreExpressions : Nat := 71
theorem k_L1_DomainTextsAreExpressions : chkFn Go.Proofs.Tryz.prog 5 n_L1_DomainTextsAreExpressions r_L1_DomainTextsAreExpressions c_L1_DomainTextsAreExpressions = true := by kernel_rfl
theorem f_L1_DomainTextsAreExpressions (d : Dom) (ho : DoOk d) (t : List UInt8) (ht : t.length ≤ 140737488351232) : Fc Go.Proofs.Tryz.prog 5 [domV d, .str t] (.bool true) := by
  have hD := f_L1_describes itoaOk
  have hP := f_domain_Print itoaOk d ho
  have hR := f_domain_Parse t (by omega)
  have hV : parseF t = okF → Fc Go.Proofs.Tryz.prog 8 [domV (parseD t)] (ftV okF) := fun h => by
    obtain ⟨h1, h2⟩ := parse_valid h
    have := f_domain_Validate (parseD t) h2
    rwa [h1] at this
  have hc1 := parse_code t
  by_cases hf : printF d = okF
  · obtain ⟨r1, r2, r3⟩ := print_read hf
    have hlen := print_len hf
    have hX := f_sexpr_Read (printS d) (by omega)
    have hY := f_sexpr_Print_ok (readL (printS d)) r2.mem r2
    rw [r1] at hX
    rw [r3] at hY
    rw [hf] at hP
    clear r1 r2 r3 hlen hf
    generalize readL (printS d) = L at *
    generalize printS d = s at *
    generalize parseD t = e at *
    by_cases hg : parseF t = okF
    · have hV := hV hg
      rw [hg] at hR
      clear hc1 hg
      refine Fn.step mixed k_L1_DomainTextsAreExpressions ?_
      repeat' (first | refine i_s rfl ?_ | refine sw ?_ | refine i_gt rfl ?_ | refine i_gf rfl ?_ | refine c_f rfl ?_ | refine i_stb rfl ?_ | refine i_alloc rfl ?_ | refine i_box rfl rfl ?_ | refine sf rfl rfl hD ?_ | refine sf rfl rfl hP ?_ | refine sf rfl rfl hR ?_ | refine sf rfl rfl hV ?_ | refine sf rfl rfl hX ?_ | refine sf rfl rfl hY ?_ | fail)
      all_goals first
        | exact e_ret ⟨rfl, _, rfl, rfl⟩
        | (refine e_ret ⟨rfl, _, rfl, congrArg V.bool ?_⟩; simp; done)
        | (exfalso; clear hD hP hR hV hX hY; simp at *; done)
    · have hc : (parseF t).code ≠ 0 := fun h => hg (hc1.1 h)
      clear hc1 hg hV
      generalize parseF t = f at *
      refine Fn.step mixed k_L1_DomainTextsAreExpressions ?_
      repeat' (first | refine i_s rfl ?_ | refine sw ?_ | refine i_gt rfl ?_ | refine i_gf rfl ?_ | refine c_f rfl ?_ | refine i_stb rfl ?_ | refine i_alloc rfl ?_ | refine i_box rfl rfl ?_ | refine i_g rfl (fun h => ?_) (fun h => ?_) | refine sf rfl rfl hD ?_ | refine sf rfl rfl hP ?_ | refine sf rfl rfl hR ?_ | refine sf rfl rfl hX ?_ | refine sf rfl rfl hY ?_ | fail)
      all_goals first
        | exact e_ret ⟨rfl, _, rfl, rfl⟩
        | (refine e_ret ⟨rfl, _, rfl, congrArg V.bool ?_⟩; simp; done)
        | (exfalso; clear hD hP hR hX hY; simp at *; done)
        | (exfalso; clear hD hP hR hX hY; simp at *; omega)
  · have hd : (printF d).code ≠ 0 := fun h => hf ((print_code d).1 h)
    rw [print_bad hf] at hP
    clear hf
    generalize printF d = q at *
    generalize parseD t = e at *
    by_cases hg : parseF t = okF
    · have hV := hV hg
      rw [hg] at hR
      clear hc1 hg
      refine Fn.step mixed k_L1_DomainTextsAreExpressions ?_
      repeat' (first | refine i_s rfl ?_ | refine sw ?_ | refine i_gt rfl ?_ | refine i_gf rfl ?_ | refine c_f rfl ?_ | refine i_stb rfl ?_ | refine i_alloc rfl ?_ | refine i_box rfl rfl ?_ | (refine sp ?_ ?_ <;> try intro h) | refine sf rfl rfl hD ?_ | refine sf rfl rfl hP ?_ | refine sf rfl rfl hR ?_ | refine sf rfl rfl hV ?_ | fail)
      all_goals first
        | exact e_ret ⟨rfl, _, rfl, rfl⟩
        | (exfalso; clear hD hP hR hV; simp at *; done)
        | (exfalso; clear hD hP hR hV; simp at *; omega)
    · have hc : (parseF t).code ≠ 0 := fun h => hg (hc1.1 h)
      clear hc1 hg hV
      generalize parseF t = f at *
      refine Fn.step mixed k_L1_DomainTextsAreExpressions ?_
      repeat' (first | refine i_s rfl ?_ | refine sw ?_ | refine i_gt rfl ?_ | refine i_gf rfl ?_ | refine c_f rfl ?_ | refine i_stb rfl ?_ | refine i_alloc rfl ?_ | refine i_box rfl rfl ?_ | (refine sp ?_ ?_ <;> try intro h) | refine sf rfl rfl hD ?_ | refine sf rfl rfl hP ?_ | refine sf rfl rfl hR ?_ | fail)
      all_goals first
        | exact e_ret ⟨rfl, _, rfl, rfl⟩
        | (exfalso; clear hD hP hR; simp at *; done)
        | (exfalso; clear hD hP hR; simp at *; omega)
end Hm
end
