/- Part K5HA of the proof. -/
import Derived.Test.YtmninopppdnhoaaGreatKHA
import Derived.Test.YtmninopppdnhoaaGreatK5PA
set_option linter.unusedVariables false
set_option linter.unusedSimpArgs false
section
namespace Hm
open Go
set_option maxRecDepth 100000
set_option maxHeartbeats 4000000
theorem evalFault_code (d : Dom) (c : Cnd) (l : List At) (args : List Int) : (evalFault d c l args).code = 0 ↔ evalFault d c l args = okF := by
  unfold evalFault
  split
  · exact condFault_code d c
  · split
    · exact groundFault_code d l
    · exact argsFault_code d c args
theorem rstA_fault {d : Dom} {c : Cnd} {A : List At} {args : List Int} {p : Int} (h : evalFault d c A args = okF) : evalFault d c (rstA p A) args = okF ∧ A.length ≤ 400 := by
  unfold evalFault at h ⊢
  by_cases t1 : condFault d c = okF
  · rw [if_neg (by simp [t1])] at h ⊢
    by_cases t2 : groundFault d A = okF
    · rw [if_neg (by simp [t2])] at h
      have hg : A.length ≤ 400 ∧ ∀ x ∈ A, atomCode d [] x = 0 := by
        unfold groundFault at t2
        split at t2
        · rename_i h; exact absurd (congrArg Flt.code t2) h
        · rename_i h
          have t3 : atomsCode d [] A 400 = 0 := by simpa using h
          unfold atomsCode at t3
          split at t3
          · cases t3
          · rename_i h; exact ⟨by omega, fnz_all t3⟩
      have hr : groundFault d (rstA p A) = okF := by
        have : atomsCode d [] (rstA p A) 400 = 0 := by
          unfold atomsCode
          have := rstA_len (p := p) (A := A)
          rw [if_neg (by omega)]
          exact fnz_ok fun j hj x hx => hg.2 x (rstA_mem (mem_get hx))
        unfold groundFault
        rw [if_neg (by simp [this])]
      rw [if_neg (by simp [hr])]
      exact ⟨h, hg.1⟩
    · rw [if_pos t2] at h
      exact absurd h t2
  · rw [if_pos t1] at h
    exact absurd h t1
def c_L1_ConditionAtomsThatDoNotOccur : Cmd :=
 (qS [qx 5 512326 6 0, qx 6 512386 2 1, qb 10 false]
 (qT (qS [qk 18 9 [], qq 19 (.not (.t 18))]
 (.cond (.t 19) (.seq (.ops [qb 10 false]) .ret) .skip))
 (qT (qS [qc 11 0]
 (.block 0 (.loop (qT (qS [qm 20 11, qf 21 1 6, ql 22 1 21, qn 23 22, qu 24 .lss [] 20 23, qm 25 24, qg 26 25 true (.mov (.t 11)), qg 27 25 true (.bin .lss false [] (.t 26) (.c (.int .i64 40))), qq 28 (.pick (.t 25) (.t 27) (.c (.bool false)))]
 (.cond (.t 28) .skip (.exit 0)))
 (qT (.block 1 (qS [qf 31 1 6, ql 32 1 31, qm 33 11, qi 34 7 32 33, qf 35 0 34, ql 36 1 35, qv 37 .eql [.i] 36 2, qm 38 37, qg 39 38 true (.faddr 1 (.t 6)), qg 40 38 true (.load false 1 (.t 39)), qg 41 38 true (.mov (.t 11)), qg 42 38 true (.iaddr 7 (.t 40) (.t 41)), qg 43 38 true (.faddr 2 (.t 42)), qg 44 38 true (.faddr 0 (.t 43)), qg 45 38 true (.load false 1 (.t 44)), qg 46 38 true (.mov (.t 4)), qg 47 38 true (.bin .eql false [.i] (.t 45) (.t 46)), qq 48 (.pick (.t 38) (.t 47) (.c (.bool false)))]
 (.cond (.t 48) (.seq (.ops [qb 10 true]) .ret) .skip)))
 (.ops [qm 29 11, qv 30 .add [] 29 1, qm 11 30]))))))
 (qS [qq 12 (.newVec 512770)]
 (qT (qS [qc 13 0]
 (.block 2 (.loop (qT (qS [qm 49 13, qm 50 2, qn 51 50, qu 52 .lss [] 49 51, qm 53 52, qg 54 53 true (.mov (.t 13)), qg 55 53 true (.bin .lss false [] (.t 54) (.c (.int .i64 401))), qq 56 (.pick (.t 53) (.t 55) (.c (.bool false)))]
 (.cond (.t 56) .skip (.exit 2)))
 (qT (.block 3 (qS [qm 59 2, qm 60 13, qi 61 2 59 60, qf 62 0 61, ql 63 1 62, qm 64 4, qu 65 .neq [.i] 63 64]
 (.cond (.t 65) (.ops [qm 66 12, qm 67 2, qm 68 13, qi 69 2 67 68, qL 70 2 69, qq 71 (.bsl 2 [.t 70]), qq 72 (.append 2 32 60 (.t 66) (.t 71)), qm 12 72]) .skip)))
 (.ops [qm 57 13, qv 58 .add [] 57 1, qm 13 58]))))))
 (qS [qL 74 6 5, qL 75 2 6, qm 76 2, qm 77 3, qk 78 14 [74, 75, 76, 77], qm 73 78, qq 79 (.extract (.t 73) 0), qq 80 (.extract (.t 73) 1), qq 15 (.alloc 512962 (.agg [.int .i64 0, .int .i64 0])), qm 14 79, qs 2 15 80]
 (qS [qL 82 6 5, qL 83 2 6, qm 84 12, qm 85 3, qk 86 14 [82, 83, 84, 85], qm 81 86, qq 87 (.extract (.t 81) 0), qq 88 (.extract (.t 81) 1), qq 17 (.alloc 513090 (.agg [.int .i64 0, .int .i64 0])), qm 16 87, qs 2 17 88]
 (qT (qS [qf 89 0 15, ql 90 1 89, qv 91 .neq [.i] 90 0]
 (.cond (.t 91) (.seq (.ops [qm 92 14, qq 93 (.not (.t 92)), qm 10 93]) .ret) .skip))
 (.seq (.ops [qf 94 0 17, ql 95 1 94, qv 96 .eql [.i] 95 0, qm 97 96, qg 98 97 true (.mov (.t 14)), qg 99 97 true (.mov (.t 16)), qg 100 97 true (.bin .eql false [.b] (.t 98) (.t 99)), qq 101 (.pick (.t 97) (.t 100) (.c (.bool false))), qm 10 101]) .ret)))))))))
def r_L1_ConditionAtomsThatDoNotOccur : List RVar := [.tmp 10]
def n_L1_ConditionAtomsThatDoNotOccur : Nat := 102
theorem k_L1_ConditionAtomsThatDoNotOccur : chkFn Go.Proofs.Tryz.prog 8 n_L1_ConditionAtomsThatDoNotOccur r_L1_ConditionAtomsThatDoNotOccur c_L1_ConditionAtomsThatDoNotOccur = true := by kernel_rfl
theorem f_L1_ConditionAtomsThatDoNotOccur (d : Dom) (hdo : DoOk d) (c : Cnd) (ho : CndOk c) (l : List At) (hl : l.length ≤ 4398046511104) (hlo : ∀ a ∈ l, AtOk a) (args : List Int) (hal : args.length ≤ 140737488355328) (p : Int) :
    Fc Go.Proofs.Tryz.prog 8 [domV d, cndV c, .sl .p (l.map atV), .sl .p (args.map i64V), .int .i64 p] (.bool true) := by
  have hLc := f_L1_conditions
  have hE := f_condition_Eval d hdo c ho l (by omega) hlo args hal
  have hcl := ho.len
  refine Fn.step mixed k_L1_ConditionAtomsThatDoNotOccur ?_
  repeat' (first | refine i_s rfl ?_ | refine sw ?_ | refine c_f rfl ?_ | refine i_box rfl rfl ?_ | refine sf rfl rfl hLc ?_ | fail)
  all_goals first
    | (exfalso; clear hLc hE; simp at *; done)
    | skip
  refine c_for c.nodes.length (fun i => [(2, .sl .p (l.map atV)), (3, .sl .p (args.map i64V)), (4, .int .i64 p), (5, .bptr 512326 0), (6, .bptr 512386 0), (11, .int .i64 i)])
    (fun _ => [(512326, .box (domV d)), (512386, .box (cndV c))]) (fun i => ∀ j, j < i → ∀ n, c.nodes[j]? = some n → ¬ (n.kind = 2 ∧ n.at_.pred = p)) (fun j hj => absurd hj (by omega)) ft fun i hi hall => ?_
  by_cases hlt : i < c.nodes.length ∧ i < 40
  · obtain ⟨n, hn⟩ := get_some hlt.1
    obtain ⟨hlt1, hlt2⟩ := hlt
    by_cases hk : n.kind = 2
    · by_cases hpp : n.at_.pred = p
      · clear hLc hE hall ho hlo
        repeat' (first | refine i_len rfl ?_ | refine i_s rfl ?_ | refine sw ?_ | refine i_gt rfl ?_ | refine i_gf rfl ?_ | refine c_f rfl ?_ | refine ja rfl rfl ?_ | refine jd rfl rfl ?_ | refine i_nv rfl ?_ | (refine sp ?_ ?_ <;> try intro h) | fail)
        all_goals first
          | exact e_ret ⟨rfl, _, rfl, rfl⟩
          | (exfalso; simp_all; done)
          | (exfalso; simp at *; omega)
      · have hstep : ∀ j, j < i + 1 → ∀ n, c.nodes[j]? = some n → ¬ (n.kind = 2 ∧ n.at_.pred = p) := fun j hj m hm => by
          by_cases e : j = i
          · subst e; rw [hn] at hm; cases hm; exact fun h => hpp h.2
          · exact hall j (by omega) m hm
        clear hLc hE hall ho hlo
        repeat' (first | refine i_len rfl ?_ | refine i_s rfl ?_ | refine sw ?_ | refine i_gt rfl ?_ | refine i_gf rfl ?_ | refine c_f rfl ?_ | refine ja rfl rfl ?_ | refine jd rfl rfl ?_ | refine i_nv rfl ?_ | (refine sp ?_ ?_ <;> try intro h) | fail)
        all_goals first
          | exact e_for hlt1 hstep ft
          | (exfalso; clear hstep; simp_all; done)
          | (exfalso; clear hstep; simp at *; omega)
    · have hstep : ∀ j, j < i + 1 → ∀ n, c.nodes[j]? = some n → ¬ (n.kind = 2 ∧ n.at_.pred = p) := fun j hj m hm => by
        by_cases e : j = i
        · subst e; rw [hn] at hm; cases hm; exact fun h => hk h.1
        · exact hall j (by omega) m hm
      clear hLc hE hall ho hlo
      repeat' (first | refine i_len rfl ?_ | refine i_s rfl ?_ | refine sw ?_ | refine i_gt rfl ?_ | refine i_gf rfl ?_ | refine c_f rfl ?_ | refine ja rfl rfl ?_ | refine jd rfl rfl ?_ | refine i_nv rfl ?_ | (refine sp ?_ ?_ <;> try intro h) | fail)
      all_goals first
        | exact e_for hlt1 hstep ft
        | (exfalso; clear hstep; simp_all; done)
        | (exfalso; clear hstep; simp at *; omega)
  · clear hLc
    have hgo : i = c.nodes.length ∨ 40 ≤ i := by omega
    have hfin : evalFault d c l args = okF → ∀ n ∈ c.nodes, ¬ (n.kind = 2 ∧ n.at_.pred = p) := fun t1 n hn => by
      have hcf : condFault d c = okF := by
        unfold evalFault at t1
        split at t1
        · rename_i h; exact absurd t1 h
        · rename_i h; simpa using h
      have h30 := (cndV_of hcf).len
      obtain ⟨j, hj⟩ := List.getElem?_of_mem hn
      have := get_lt hj
      exact hall j (by omega) n hj
    clear hall hE
    by_cases hle : i < c.nodes.length
    all_goals
      repeat' (first | refine i_len rfl ?_ | refine i_s rfl ?_ | refine sw ?_ | refine i_gt rfl ?_ | refine i_gf rfl ?_ | refine c_f rfl ?_ | refine i_nv rfl ?_ | (refine sp ?_ ?_ <;> try intro h) | fail)
    all_goals first
      | (exfalso; clear hfin ho hlo; simp at *; done)
      | (exfalso; clear hfin ho hlo; simp at *; omega)
      | skip
    all_goals
      refine c_for l.length (fun k => [(2, .sl .p (l.map atV)), (3, .sl .p (args.map i64V)), (4, .int .i64 p), (5, .bptr 512326 0), (6, .bptr 512386 0), (12, .sl (.own 512770) ((rstA p (l.take k)).map atV)), (13, .int .i64 k)])
        (fun k => [(512326, .box (domV d)), (512386, .box (cndV c)), (512770, .vec (rstA p (l.take k)).length)]) (fun _ => True) trivial ft fun k hk _ => ?_
      by_cases hlt2 : k < l.length ∧ k < 401
      · obtain ⟨h1, h2⟩ := hlt2
        obtain ⟨a, hx⟩ := get_some h1
        have hsn : rstA p (l.take (k + 1)) = rstA p (l.take k) ++ rstA p [a] := by rw [take_succ_get hx]; unfold rstA; rw [List.filter_append]
        have hln : (rstA p (l.take k)).length ≤ k := Nat.le_trans rstA_len (by simp; omega)
        by_cases hpa : a.pred = p
        · rw [show rstA p [a] = [] from by simp [rstA, hpa], List.append_nil] at hsn
          generalize rstA p (l.take k) = R at *
          clear hfin ho hlo
          repeat' (first | refine i_len rfl ?_ | refine i_s rfl ?_ | refine sw ?_ | refine i_gt rfl ?_ | refine i_gf rfl ?_ | refine c_f rfl ?_ | refine ja rfl rfl ?_ | refine jd rfl rfl ?_ | (refine sp ?_ ?_ <;> try intro h) | fail)
          all_goals first
            | (exact e_for h1 trivial ⟨⟨rfl, rfl, rfl, rfl, rfl, by rw [hsn]; rfl, rfl, trivial⟩, ⟨rfl, rfl, by rw [hsn]; rfl, trivial⟩, rfl⟩)
            | (exfalso; simp_all; done)
            | (exfalso; simp at *; omega)
        · rw [show rstA p [a] = [a] from by simp [rstA, hpa]] at hsn
          generalize rstA p (l.take k) = R at *
          clear hfin ho hlo
          repeat' (first | refine i_len rfl ?_ | refine i_s rfl ?_ | refine sw ?_ | refine i_gt rfl ?_ | refine i_gf rfl ?_ | refine c_f rfl ?_ | refine ja rfl rfl ?_ | refine jd rfl rfl ?_ | (refine sp ?_ ?_ <;> try intro h) | fail)
          all_goals first
            | (exfalso; simp_all; done)
            | (exfalso; simp at *; omega)
            | skip
          all_goals
            refine i_appM (c := a) rfl rfl rfl rfl rfl (by omega) (by omega) ?_
            repeat' (first | refine i_s rfl ?_ | refine sw ?_ | refine ja rfl rfl ?_ | fail)
          all_goals
            refine e_for h1 trivial ⟨⟨rfl, rfl, rfl, rfl, rfl, ?_, rfl, trivial⟩, ⟨rfl, rfl, ?_, trivial⟩, rfl⟩
          all_goals rw [hsn]
          all_goals first
            | rfl
            | (simp; rfl)
            | simp
      · have hE := f_condition_Eval d hdo c ho l (by omega) hlo args hal
        have hRl : (rstA p (l.take k)).length ≤ l.length := Nat.le_trans rstA_len (by simp; omega)
        have hE2 := f_condition_Eval d hdo c ho (rstA p (l.take k)) (by omega) (fun a h => hlo a (List.mem_of_mem_take (rstA_mem h))) args hal
        by_cases t1 : evalFault d c l args = okF
        · obtain ⟨t2, h400⟩ := rstA_fault (p := p) t1
          have hkl : k = l.length := by omega
          subst hkl
          rw [List.take_length] at hE2 ⊢
          have hb : evalB d c (rstA p l) args = evalB d c l args := by
            unfold evalB
            rw [t1, t2, rstA_tru (hfin t1)]
          rw [t2, hb] at hE2
          rw [t1] at hE
          generalize evalB d c l args = bb at *
          generalize rstA p l = R at *
          clear hfin ho hlo hdo hb t1 t2
          cases bb
          all_goals
            repeat' (first | refine i_len rfl ?_ | refine i_s rfl ?_ | refine sw ?_ | refine i_gt rfl ?_ | refine i_gf rfl ?_ | refine c_f rfl ?_ | refine i_stb rfl ?_ | refine i_alloc rfl ?_ | (refine sp ?_ ?_ <;> try intro h) | refine sf rfl rfl hE ?_ | refine sf rfl rfl hE2 ?_ | fail)
          all_goals first
            | exact e_ret ⟨rfl, _, rfl, rfl⟩
            | (exfalso; clear hE hE2; simp [okF] at *; done)
            | (exfalso; clear hE hE2; simp [okF] at *; omega)
        · have hb : evalB d c l args = false := by unfold evalB; rw [decide_eq_false t1]; rfl
          have hc3 : ¬ (evalFault d c l args).code = 0 := fun h => t1 ((evalFault_code _ _ _ _).1 h)
          rw [hb] at hE
          generalize evalFault d c l args = ff at *
          generalize rstA p (l.take k) = R at *
          generalize evalB d c R args = bb at *
          generalize evalFault d c R args = ff2 at *
          clear hfin ho hlo hdo hb t1
          repeat' (first | refine i_len rfl ?_ | refine i_s rfl ?_ | refine sw ?_ | refine i_gt rfl ?_ | refine i_gf rfl ?_ | refine c_f rfl ?_ | refine i_stb rfl ?_ | refine i_alloc rfl ?_ | (refine sp ?_ ?_ <;> try intro h) | refine sf rfl rfl hE ?_ | refine sf rfl rfl hE2 ?_ | fail)
          all_goals first
            | exact e_ret ⟨rfl, _, rfl, rfl⟩
            | (exfalso; clear hE hE2; simp [okF] at *; done)
            | (exfalso; clear hE hE2; simp_all [okF]; done)
            | (exfalso; clear hE hE2; simp [okF] at *; omega)
end Hm
end
