/- Part T4HA of the proof. -/
import Derived.Test.YtkbiopblaggdoaaGreatDoorTHB
import Derived.Test.YtkbiopblaggdoaaGreatDoorT4PA
set_option linter.unusedVariables false
set_option linter.unusedSimpArgs false
section
namespace Hm
open Go
set_option maxRecDepth 100000
set_option maxHeartbeats 4000000
theorem flat_map1 : ∀ s : List Int, flatC (s.map i64V) = s.map i64V
  | [] => rfl
  | a :: r => by
    simp only [List.map_cons, flatC, flat_map1 r]
    rfl
theorem flat_set {m : Nat} : ∀ {rows : List V} {i : Nat} {r : V}, (∀ row ∈ rows, row.cells.length = m) → i < rows.length → r.cells.length = m → flatC (rows.set i r) = (flatC rows).take (i * m) ++ r.cells ++ (flatC rows).drop (i * m + m)
  | [], i, r, _, h, _ => by simp at h
  | a :: rows, 0, r, hw, _, hr => by
    have ha := hw a (by simp)
    simp only [List.set_cons_zero, flatC, Nat.zero_mul, List.take_zero, List.nil_append, Nat.zero_add]
    rw [List.drop_append_of_le_length (by omega), List.drop_of_length_le (by omega), List.nil_append]
  | a :: rows, i + 1, r, hw, h, hr => by
    have ha := hw a (by simp)
    have ih := flat_set (rows := rows) (i := i) (r := r) (fun row hm => hw row (by simp [hm])) (by simpa using h) hr
    simp only [List.set_cons_succ, flatC, ih]
    rw [show (i + 1) * m = a.cells.length + i * m from by rw [Nat.succ_mul]; omega, List.take_append, List.take_of_length_le (l := a.cells) (by omega), show a.cells.length + i * m + m = a.cells.length + (i * m + m) from by omega, List.drop_append, List.drop_of_length_le (l := a.cells) (by omega)]
    simp
theorem flat_at2 (l : List At) : ∀ row ∈ l.map atV, row.cells.length = 2 := fun row hr => by
  obtain ⟨a, _, rfl⟩ := List.mem_map.1 hr
  rfl
theorem flat_pure2 (l : List At) : (flatC (l.map atV)).all pureB = true := by
  induction l with
  | nil => rfl
  | cons a r ih =>
    simp only [List.map_cons, flatC, List.all_append, ih, Bool.and_true]
    rfl
theorem ints_leaf : ∀ s : List Int, (s.map i64V).all (fun v => leafB v && pureB v) = true
  | [] => rfl
  | a :: r => by
    simp only [List.map_cons, List.all_cons, ints_leaf r]
    rfl
theorem closed_any (pn : List Nat) : ∀ n : Nat, closedL pn (List.replicate n V.any) = true
  | 0 => rfl
  | n + 1 => by
    rw [List.replicate_succ]
    simp only [closedL, closed_any pn n]
    rfl
theorem closed_ints (pn : List Nat) (n : Nat) : ∀ s : List Int, closedL pn (s.map i64V ++ List.replicate n V.any) = true
  | [] => closed_any pn n
  | a :: r => by
    simp only [List.map_cons, List.cons_append, closedL, closed_ints pn n r]
    rfl
def c_R1_CopyR : Cmd :=
 (qS [qq 2 (.mov (.c (.sl .nil [])))]
 (qS [qq 3 (.mov (.c (.sl .nil [])))]
 (.seq (.ops [qm 4 3, qm 5 0, qq 6 (.appR 1 8 3 (.t 4) (.t 5)), qm 2 6]) .ret)))
def r_R1_CopyR : List RVar := [.tmp 2]
def n_R1_CopyR : Nat := 7
theorem k_R1_CopyR : chkFn Go.Proofs.Tryz.prog 19 n_R1_CopyR r_R1_CopyR c_R1_CopyR = true := by kernel_rfl
theorem ct_CopyR (G : Type) (H : HT G) (g : G) (s : List Int) (hne : s ≠ []) (hl : s.length ≤ 17592186044416) : Cc Go.Proofs.Tryz.prog H 19 [.sl .p (s.map i64V)] [1216385] (stOf [(1216385, .unused)]) g fun v σ' g' => (∃ b c, v = .rsl b s.length c ∧ s.length ≤ c ∧ σ' = stOf [(1216385, .box (.tag b (s.map i64V ++ List.replicate (c - s.length) .any)))]) ∧ g' = g := by
  refine CT.step _ mixed k_R1_CopyR (fun nm hnm => stOf_mem _ nm hnm) fun hM => ?_
  repeat (first | refine i_s rfl ?_ | refine sw ?_)
  refine i_apn 1216385 rfl rfl (by simpa using hne) (fun row hr => by obtain ⟨c, _, rfl⟩ := List.mem_map.1 hr; exact ⟨rfl, rfl⟩) (by simp; omega) (by simp; omega) rfl rfl fun b c hc => ?_
  simp only [List.length_map] at hc
  repeat (first | refine i_s rfl ?_ | refine sw ?_)
  refine e_ret ⟨rfl, _, rfl, rfl, ?_, ⟨b, c, ?_, hc, ?_⟩, rfl⟩
  · show (closedL [1216385] (flatC (s.map i64V) ++ List.replicate ((c - (s.map i64V).length) * 1) V.any) && true) = true
    rw [flat_map1, closed_ints]
    rfl
  · show V.rsl _ _ _ = V.rsl _ _ _
    rw [List.length_map]
  · rw [restr_stOf]
    show stOf [(1216385, .box (.tag b (flatC (s.map i64V) ++ List.replicate ((c - (s.map i64V).length) * 1) .any)))] = _
    rw [flat_map1, List.length_map, Nat.mul_one]
def c_L1_DomainSubtypesMayStand : Cmd :=
 (qS [qx 4 384262 6 0, qb 8 false]
 (qT (qS [qk 11 7 [], qq 12 (.not (.t 11))]
 (.cond (.t 12) (.seq (.ops [qb 8 false]) .ret) .skip))
 (qT (qS [qL 13 6 4, qk 14 8 [13], qq 15 (.build [.int .i64 0, .int .i64 0] []), qq 16 (.bin .neq true [.i, .i] (.t 14) (.t 15)), qm 17 16, qg 18 17 false (.mov (.t 1)), qg 19 17 false (.faddr 4 (.t 4)), qg 20 17 false (.load false 1 (.t 19)), qg 21 17 false (.len false (.t 20)), qg 22 17 false (.bin .sub false [] (.t 21) (.c (.int .i64 1))), qg 23 17 false (.call .f (.c (.fn 17 [])) [.t 18, .c (.int .i64 0), .t 22]), qg 24 17 false (.not (.t 23)), qq 25 (.pick (.t 17) (.c (.bool true)) (.t 24)), qm 26 25, qg 27 26 false (.mov (.t 2)), qg 28 26 false (.faddr 4 (.t 4)), qg 29 26 false (.load false 1 (.t 28)), qg 30 26 false (.mov (.t 1)), qg 31 26 false (.iaddr 2 (.t 29) (.t 30)), qg 32 26 false (.faddr 1 (.t 31)), qg 33 26 false (.load false 1 (.t 32)), qg 34 26 false (.len false (.t 33)), qg 35 26 false (.bin .sub false [] (.t 34) (.c (.int .i64 1))), qg 36 26 false (.call .f (.c (.fn 17 [])) [.t 27, .c (.int .i64 0), .t 35]), qg 37 26 false (.not (.t 36)), qq 38 (.pick (.t 26) (.c (.bool true)) (.t 37)), qm 39 38, qg 40 39 false (.mov (.t 3)), qg 41 39 false (.faddr 1 (.t 4)), qg 42 39 false (.load false 1 (.t 41)), qg 43 39 false (.len false (.t 42)), qg 44 39 false (.bin .sub false [] (.t 43) (.c (.int .i64 1))), qg 45 39 false (.call .f (.c (.fn 17 [])) [.t 40, .c (.int .i64 0), .t 44]), qg 46 39 false (.not (.t 45)), qq 47 (.pick (.t 39) (.c (.bool true)) (.t 46))]
 (.cond (.t 47) (.seq (.ops [qb 8 true]) .ret) .skip))
 (qT (qS [qf 48 0 4, ql 49 1 48, qf 50 1 4, ql 51 1 50, qm 52 3, qi 53 2 51 52, qf 54 1 53, ql 55 1 54, qf 56 1 4, ql 57 1 56, qf 58 4 4, ql 59 1 58, qm 60 1, qi 61 2 59 60, qf 62 1 61, ql 63 1 62, qm 64 2, qi 65 1 63 64, ql 66 1 65, qi 67 2 57 66, qf 68 1 67, ql 69 1 68, qk 70 18 [49, 55, 69], qq 71 (.not (.t 70))]
 (.cond (.t 71) (.seq (.ops [qb 8 true]) .ret) .skip))
 (qS [qq 9 (.mov (.c (.sl .nil [])))]
 (qS [qm 72 9, qf 73 4 4, ql 74 1 73, qq 75 (.appR 2 32 49 (.t 72) (.t 74)), qm 9 75]
 (qT (.opsT (.node 4 12 (.node 5 12 (.node 6 12 (.leaf [0, 1, 2, 3, 4, 5, 6, 7, 8, 9, 10, 11, 12, 13, 14, 15]) (.leaf [0, 1, 2, 3, 4, 5, 7, 8, 9, 10, 11, 12, 6, 13, 14, 15])) (.leaf [0, 1, 2, 3, 4, 7, 8, 9, 10, 11, 12, 5, 6, 13, 14, 15])) (.leaf [0, 1, 2, 3, 7, 8, 9, 10, 11, 12, 4, 5, 6, 13, 14, 15])) [qm 76 9, qm 77 1, qm 78 9, qm 79 1, qi 80 2 78 79, qf 81 0 80, ql 82 1 81, qm 83 9, qm 84 1, qi 85 2 83 84, qf 86 1 85, ql 87 1 86, qq 88 (.call (.s [1216385]) (.c (.fn 19 [])) [.t 87]), qq 89 (.build [.int .i64 0, .sl .nil []] [(0 , 1 , .t 82), (1 , 1 , .t 88)]), qi 90 2 76 77, qs 2 90 89])
 (.seq (.ops [qm 91 9, qm 92 1, qi 93 2 91 92, qf 94 1 93, ql 95 1 94, qm 96 2, qm 97 3, qi 98 1 95 96, qs 1 98 97]) (.frzr (qT (.frz 9)
 (qS [qm 99 9, qf 100 4 4, qs 1 100 99]
 (qS [qL 101 6 4, qk 102 8 [101], qq 10 (.alloc 384642 (.agg [.int .i64 0, .int .i64 0])), qs 2 10 102]
 (.seq (.ops [qL 103 2 10, qq 104 (.build [.int .i64 0, .int .i64 0] []), qq 105 (.bin .eql true [.i, .i] (.t 103) (.t 104)), qm 106 105, qg 107 106 false (.load true 2 (.t 10)), qg 108 106 false (.call .f (.c (.fn 20 [])) [.c (.int .i64 7), .c (.int .i64 (-5))]), qg 109 106 false (.bin .eql true [.i, .i] (.t 107) (.t 108)), qq 110 (.pick (.t 106) (.c (.bool true)) (.t 109)), qm 8 110]) .ret)))))))))))))
def r_L1_DomainSubtypesMayStand : List RVar := [.tmp 8]
def n_L1_DomainSubtypesMayStand : Nat := 111
theorem k_L1_DomainSubtypesMayStand : chkFn Go.Proofs.Tryz.prog 6 n_L1_DomainSubtypesMayStand r_L1_DomainSubtypesMayStand c_L1_DomainSubtypesMayStand = true := by kernel_rfl
theorem f_L1_DomainSubtypesMayStand (d : Dom) (ho : DoOk d) (i k o : Int) : Fc Go.Proofs.Tryz.prog 6 [domV d, .int .i64 i, .int .i64 k, .int .i64 o] (.bool true) := by
  have hD := f_L1_describes itoaOk
  have hV := f_domain_Validate d ho
  have hil := ho.init.1
  have hol := ho.objects.1
  by_cases hdf : domFault d = okF
  · rw [hdf] at hV
    have hd := domV_of hdf
    have h1 := f_R1_In i 0 ((d.init.length : Int) - 1)
    by_cases c1 : 0 ≤ i ∧ i ≤ (d.init.length : Int) - 1
    · rw [decide_eq_true c1.1, decide_eq_true c1.2] at h1
      obtain ⟨a, ha⟩ := get_some (l := d.init) (k := i.toNat) (by omega)
      have hao := ho.init.2 a (mem_get ha)
      have hal := hao.len
      have h2 := f_R1_In k 0 ((a.args.length : Int) - 1)
      by_cases c2 : 0 ≤ k ∧ k ≤ (a.args.length : Int) - 1
      · rw [decide_eq_true c2.1, decide_eq_true c2.2] at h2
        have h3 := f_R1_In o 0 ((d.objects.length : Int) - 1)
        by_cases c3 : 0 ≤ o ∧ o ≤ (d.objects.length : Int) - 1
        · rw [decide_eq_true c3.1, decide_eq_true c3.2] at h3
          obtain ⟨x, hx⟩ := get_some (l := a.args) (k := k.toNat) (by omega)
          have hac := (atomsCode_all hd.ini).2 a (mem_get ha)
          obtain ⟨xr0, xr1⟩ := atom_rng hac x (mem_get hx)
          simp only [List.length_nil] at xr0
          obtain ⟨ox, hox⟩ := get_some (l := d.objects) (k := x.toNat) (by omega)
          obtain ⟨oo, hoo⟩ := get_some (l := d.objects) (k := o.toNat) (by omega)
          have hS := f_L1_sub d.types ho.types oo.type ox.type
          by_cases hs : (decide (checkF d.types [oo.type, ox.type] = okF) && subB d.types oo.type ox.type) = true
          · rw [hs] at hS
            have hsub : subB d.types oo.type ox.type = true := by simp only [Bool.and_eq_true] at hs; exact hs.2
            have hput := put_fault hd ha hx c3.1 hox hoo hsub
            have ho2 : DoOk (setInit d (d.init.set i.toNat ⟨a.pred, a.args.set k.toNat o⟩)) := by
              refine ⟨ho.types, ho.objects, ho.preds, ho.schemas, ⟨by simp only [setInit, List.length_set]; exact hil, fun b hb => ?_⟩, ho.goal⟩
              rcases List.mem_or_eq_of_mem_set hb with hb | rfl
              · exact ho.init.2 b hb
              · refine ⟨by simp only [List.length_set]; exact hal, fun c hc => ?_, hao.p⟩
                rcases List.mem_or_eq_of_mem_set hc with hc | rfl
                · exact hao.r c hc
                · simp only [InR]; omega
            have hV2 := f_domain_Validate _ ho2
            have hA := f_R1_At 7 (-5)
            have hne : d.init.map atV ≠ [] := fun e => by
              have := get_lt ha
              have e2 := congrArg List.length e
              simp only [List.length_map, List.length_nil] at e2
              omega
            have hnea : a.args ≠ [] := fun e => by rw [e] at hx; simp at hx
            have hlt := get_lt ha
            have hltk := get_lt hx
            have hfl : (flatC (d.init.map atV)).length = d.init.length * 2 := by have := flat_len (flat_at2 d.init); simpa using this
            have hf0 := flat_at (flat_at2 d.init) (i := i.toNat) (j := 0) (row := atV a) (v := .int .i64 a.pred) (by rw [List.getElem?_map, ha]; rfl) rfl
            have hf1 := flat_at (flat_at2 d.init) (i := i.toNat) (j := 1) (row := atV a) (v := .sl .p (a.args.map i64V)) (by rw [List.getElem?_map, ha]; rfl) rfl
            have hfs := flat_set (flat_at2 d.init) (i := i.toNat) (r := atV ⟨a.pred, a.args.set k.toNat o⟩) (by simpa using hlt) rfl
            rw [show (d.init.map atV).set i.toNat (atV ⟨a.pred, a.args.set k.toNat o⟩) = (d.init.set i.toNat ⟨a.pred, a.args.set k.toNat o⟩).map atV from by rw [List.map_set]] at hfs
            clear hac hd hdf hs hsub
            refine Fn.step mixed k_L1_DomainSubtypesMayStand ?_
            repeat' (first | refine i_len rfl ?_ | refine i_s rfl ?_ | refine sw ?_ | refine i_gt rfl ?_ | refine c_f rfl ?_ | refine jb rfl rfl ?_ | refine jd rfl rfl ?_ | refine i_box rfl rfl ?_ | refine sf rfl rfl hD ?_ | refine sf rfl rfl hV ?_ | refine sf rfl rfl h1 ?_ | refine sf rfl rfl h2 ?_ | refine sf rfl rfl h3 ?_ | refine sf rfl rfl hS ?_ | fail)
            all_goals first
              | (exfalso; clear hD hV h1 h2 h3 hS hV2 hA hput hfs hf0 hf1 hfl; simp at *; done)
              | skip
            clear hD hV h1 h2 h3 hS
            refine i_apn 388802 rfl rfl hne (fun row hr => by obtain ⟨c, _, rfl⟩ := List.mem_map.1 hr; exact ⟨rfl, rfl⟩) (by simp; omega) (by simp; omega) rfl rfl fun B C hC => ?_
            have hcl : i.toNat * 2 + 2 ≤ (flatC (d.init.map atV) ++ List.replicate ((C - (d.init.map atV).length) * 2) V.any).length := by rw [List.length_append, hfl]; omega
            have hc0 : (flatC (d.init.map atV) ++ List.replicate ((C - (d.init.map atV).length) * 2) V.any)[i.toNat * 2 + 0]? = some (.int .i64 a.pred) := by rw [List.getElem?_append_left (by omega)]; exact hf0
            have hc1 : (flatC (d.init.map atV) ++ List.replicate ((C - (d.init.map atV).length) * 2) V.any)[i.toNat * 2 + 1]? = some (.sl .p (a.args.map i64V)) := by rw [List.getElem?_append_left (by omega)]; exact hf1
            have htk : ∀ n, n ≤ d.init.length * 2 → (flatC (d.init.map atV) ++ List.replicate ((C - (d.init.map atV).length) * 2) V.any).take n = (flatC (d.init.map atV)).take n := fun n hn => List.take_append_of_le_length (by omega)
            have hdr : ((flatC (d.init.map atV) ++ List.replicate ((C - (d.init.map atV).length) * 2) V.any).drop (i.toNat * 2 + 2)).take (d.init.length * 2 - (i.toNat * 2 + 2)) = (flatC (d.init.map atV)).drop (i.toNat * 2 + 2) := by
              rw [List.drop_append_of_le_length (by omega), List.take_append_of_le_length (by simp; omega), List.take_of_length_le (by simp; omega)]
            have hcc : ∀ pn, closedL pn (flatC (d.init.map atV) ++ List.replicate ((C - (d.init.map atV).length) * 2) V.any) = true := fun pn => by
              rw [closedL_iff]
              intro v hv
              rcases List.mem_append.1 hv with hv | hv
              · obtain ⟨q, hq⟩ := List.getElem?_of_mem hv
                obtain ⟨u, j, row, g1, g2, _⟩ := flat_get (flat_at2 d.init) hq
                rw [List.getElem?_map] at g1
                obtain ⟨y, _, rfl⟩ := Option.map_eq_some_iff.1 g1
                match j, g2 with
                | 0, g2 => cases g2; rfl
                | 1, g2 => cases g2; rfl
              · rw [List.eq_of_mem_replicate hv]; rfl
            generalize flatC (d.init.map atV) ++ List.replicate ((C - (d.init.map atV).length) * 2) V.any = CS at *
            have hCS1 : (CS.take (i.toNat * 2)).length = i.toNat * 2 := by simp; omega
            have hCSc : ∀ pn, closedL pn CS = true := hcc
            have hCA : ∀ (pn : List Nat) (A C2 : Nat), closedL pn (CS.take (i.toNat * 2) ++ [V.int .i64 a.pred, .rsl A a.args.length C2] ++ CS.drop (i.toNat * 2 + 2)) = true := fun pn A C2 => by
              have h0 := (closedL_iff pn CS).1 (hCSc pn)
              rw [closedL_iff]
              intro v hv
              rcases List.mem_append.1 hv with hv | hv
              · rcases List.mem_append.1 hv with hv | hv
                · exact h0 v (List.mem_of_mem_take hv)
                · simp only [List.mem_cons, List.not_mem_nil, or_false] at hv
                  rcases hv with rfl | rfl <;> rfl
              · exact h0 v (List.mem_of_mem_drop hv)
            repeat (first | refine i_s rfl ?_ | refine sw ?_)
            refine c_join noH_mono (fun e ρ' σ' g' => e = .normal ∧ ∃ A C2, a.args.length ≤ C2 ∧ Fits [] [(1, .int .i64 i), (2, .int .i64 k), (3, .int .i64 o), (4, .bptr 384262 0), (9, .rsl B (d.init.map atV).length C)]
              [(384262, .box (domV d)), (388802, .box (.tag B (CS.take (i.toNat * 2) ++ [V.int .i64 a.pred, .rsl A a.args.length C2] ++ CS.drop (i.toNat * 2 + 2)))), (1216385, .box (.tag A (a.args.map i64V ++ List.replicate (C2 - a.args.length) V.any)))] ρ' σ') ?_ ?_
            · repeat' (refine c_node ?_ ?_)
              all_goals
                repeat (first | refine i_s rfl ?_ | refine sw ?_ | refine i_irs rfl rfl c1.1 (by simp; omega) ?_ | refine i_ldr 388802 (l0 := CS) (v := .int .i64 a.pred) rfl rfl (by show fzA (CS[i.toNat * 2 + 0]?) = _; rw [hc0]; rfl) ?_ | refine i_ldr 388802 (l0 := CS) (v := .sl .p (a.args.map i64V)) rfl rfl (by show fzA (CS[i.toNat * 2 + 1]?) = _; rw [hc1]; rfl) ?_)
                refine i_cs rfl rfl rfl rfl (ct_CopyR Unit noH () a.args hnea hal) ?_
                rintro _ _ _ ⟨⟨A, C2, rfl, hC2, rfl⟩, rfl⟩
                repeat (first | refine i_s rfl ?_ | refine i_irs rfl rfl c1.1 (by simp; omega) ?_ | refine i_ldr 388802 (l0 := CS) (v := .int .i64 a.pred) rfl rfl (by show fzA (CS[i.toNat * 2 + 0]?) = _; rw [hc0]; rfl) ?_)
                refine i_str 388802 (l0 := CS) rfl rfl (by exact (congrArg fzA (strow_at (l' := [.int .i64 a.pred, .rsl A a.args.length C2]) rfl rfl hcl)).trans (fzA_agg _)) ?_
                repeat refine sw ?_
                refine e_end ⟨rfl, A, C2, hC2, ⟨rfl, rfl, rfl, rfl, rfl, trivial⟩, ⟨rfl, rfl, rfl, trivial⟩, ?_⟩
                have g1 := hCA [384262, 388802, 1216385] A C2
                have g2 := closed_ints [384262, 388802, 1216385] (C2 - a.args.length) a.args
                show (_ && (closedB _ (domV d) && (closedL [384262, 388802, 1216385] (CS.take (i.toNat * 2) ++ [V.int .i64 a.pred, .rsl A a.args.length C2] ++ CS.drop (i.toNat * 2 + 2)) && (closedL [384262, 388802, 1216385] (a.args.map i64V ++ List.replicate (C2 - a.args.length) V.any) && true))) && true) = true
                rw [g1, g2]
                rfl
            rintro e0 ρ' σ' g' ⟨rfl, A, C2, hC2, hf0⟩
            refine e_seq ?_
            refine c_cut _ _ hf0 ?_
            clear hf0 ρ' σ'
            have hll : (a.args.map i64V ++ List.replicate (C2 - a.args.length) V.any).length = C2 := by simp; omega
            have hlt2 : ((a.args.map i64V ++ List.replicate (C2 - a.args.length) V.any).set (k.toNat * 1) (.int .i64 o)).take a.args.length = (a.args.set k.toNat o).map i64V := by
              rw [Nat.mul_one, List.take_set, List.take_append_of_le_length (by simp), List.take_of_length_le (by simp), List.map_set]
              rfl
            repeat (first | refine i_s rfl ?_ | refine sw ?_)
            refine i_irs rfl rfl c1.1 (by simp; omega) ?_
            repeat refine i_s rfl ?_
            have hd1 : (CS.take (i.toNat * 2) ++ [V.int .i64 a.pred, .rsl A a.args.length C2] ++ CS.drop (i.toNat * 2 + 2))[i.toNat * 2 + 1]? = some (.rsl A a.args.length C2) := by
              rw [List.append_assoc, List.getElem?_append_right (by omega), hCS1, show i.toNat * 2 + 1 - i.toNat * 2 = 1 from by omega]
              rfl
            refine i_ldr 388802 (l0 := CS.take (i.toNat * 2) ++ [V.int .i64 a.pred, .rsl A a.args.length C2] ++ CS.drop (i.toNat * 2 + 2)) (v := .rsl A a.args.length C2) rfl rfl (by show fzA ((CS.take (i.toNat * 2) ++ [V.int .i64 a.pred, .rsl A a.args.length C2] ++ CS.drop (i.toNat * 2 + 2))[i.toNat * 2 + 1]?) = _; rw [hd1]; rfl) ?_
            repeat refine i_s rfl ?_
            refine i_irs rfl rfl c2.1 (by omega) ?_
            skip
            refine i_str 1216385 (l0 := a.args.map i64V ++ List.replicate (C2 - a.args.length) V.any) rfl rfl (by exact (congrArg fzA (strow_leaf (by rw [hll]; omega))).trans (fzA_agg _)) ?_
            repeat refine sw ?_
            refine c_frzr 388802 1216385 rfl hd1 rfl (by decide) (by rw [List.length_set, hll]; exact hC2) (by rw [hlt2]; exact ints_leaf _) ?_
            rw [hlt2]
            have hset : (CS.take (i.toNat * 2) ++ [V.int .i64 a.pred, .rsl A a.args.length C2] ++ CS.drop (i.toNat * 2 + 2)).set (i.toNat * 2 + 1) (.sl .p ((a.args.set k.toNat o).map i64V)) = CS.take (i.toNat * 2) ++ [V.int .i64 a.pred, .sl .p ((a.args.set k.toNat o).map i64V)] ++ CS.drop (i.toNat * 2 + 2) := by
              rw [List.append_assoc, List.set_append_right _ _ (by omega), hCS1, show i.toNat * 2 + 1 - i.toNat * 2 = 1 from by omega, List.append_assoc]
              rfl
            rw [hset]
            refine c_seq ?_
            refine c_frzs (nm := 388802) (m := 2) ((d.init.set i.toNat ⟨a.pred, a.args.set k.toNat o⟩).map atV) rfl rfl (by simp) (flat_at2 _) (flat_pure2 _) ?_ ?_
            · rw [hfs]
              have h2l : (CS.take (i.toNat * 2) ++ [V.int .i64 a.pred, .sl .p ((a.args.set k.toNat o).map i64V)]).length = i.toNat * 2 + 2 := by simp; omega
              rw [List.length_map, List.take_append, h2l, hdr, List.take_of_length_le (by omega), htk _ (by omega)]
              rfl
            have hVal : Fc Go.Proofs.Tryz.prog 8 [.agg [.sl .p (d.types.map tyV), .sl .p (d.objects.map obV), .sl .p (d.preds.map prdV), .sl .p (d.schemas.map schV), .sl .p ((d.init.set i.toNat ⟨a.pred, a.args.set k.toNat o⟩).map atV), .sl .p (d.goal.map litV)]] (ftV (domFault (setInit d (d.init.set i.toNat ⟨a.pred, a.args.set k.toNat o⟩)))) := hV2
            clear hV2 ho2 hfs hf0 hf1 hfl htk hdr hset hlt2 hd1
            generalize d.init.set i.toNat ⟨a.pred, a.args.set k.toNat o⟩ = I2 at *
            rcases hput with hp | hp
            · rw [hp] at hVal
              repeat' (first | refine i_s rfl ?_ | refine sw ?_ | refine i_gf rfl ?_ | refine i_stb rfl ?_ | refine i_alloc rfl ?_ | refine sf rfl rfl hVal ?_ | fail)
              all_goals first
                | exact e_ret ⟨rfl, _, rfl, rfl⟩
                | (exfalso; clear hVal hA; simp at *; done)
            · rw [hp] at hVal
              repeat' (first | refine i_s rfl ?_ | refine sw ?_ | refine i_gt rfl ?_ | refine i_stb rfl ?_ | refine i_alloc rfl ?_ | refine sf rfl rfl hVal ?_ | refine sf rfl rfl hA ?_ | fail)
              all_goals first
                | exact e_ret ⟨rfl, _, rfl, rfl⟩
                | (exfalso; clear hVal hA; simp at *; done)
          · rw [Bool.eq_false_iff.2 hs] at hS
            clear hac hd hdf hs
            refine Fn.step mixed k_L1_DomainSubtypesMayStand ?_
            repeat' (first | refine i_len rfl ?_ | refine i_s rfl ?_ | refine sw ?_ | refine i_gt rfl ?_ | refine c_t rfl ?_ | refine c_f rfl ?_ | refine jb rfl rfl ?_ | refine jd rfl rfl ?_ | refine i_box rfl rfl ?_ | refine sf rfl rfl hD ?_ | refine sf rfl rfl hV ?_ | refine sf rfl rfl h1 ?_ | refine sf rfl rfl h2 ?_ | refine sf rfl rfl h3 ?_ | refine sf rfl rfl hS ?_ | fail)
            all_goals first
              | exact e_ret ⟨rfl, _, rfl, rfl⟩
              | (exfalso; clear hD hV h1 h2 h3 hS; simp at *; done)
        · have e : (decide (0 ≤ o) && decide (o ≤ (d.objects.length : Int) - 1)) = false := by
            rw [Bool.and_eq_false_iff]
            by_cases h : 0 ≤ o
            · exact .inr (decide_eq_false fun h2 => c3 ⟨h, h2⟩)
            · exact .inl (decide_eq_false h)
          rw [e] at h3
          clear hd hdf
          refine Fn.step mixed k_L1_DomainSubtypesMayStand ?_
          repeat' (first | refine i_len rfl ?_ | refine i_s rfl ?_ | refine sw ?_ | refine i_gt rfl ?_ | refine c_t rfl ?_ | refine c_f rfl ?_ | refine jb rfl rfl ?_ | refine jd rfl rfl ?_ | refine i_box rfl rfl ?_ | refine sf rfl rfl hD ?_ | refine sf rfl rfl hV ?_ | refine sf rfl rfl h1 ?_ | refine sf rfl rfl h2 ?_ | refine sf rfl rfl h3 ?_ | fail)
          all_goals first
            | exact e_ret ⟨rfl, _, rfl, rfl⟩
            | (exfalso; clear hD hV h1 h2 h3; simp at *; done)
      · have e : (decide (0 ≤ k) && decide (k ≤ (a.args.length : Int) - 1)) = false := by
          rw [Bool.and_eq_false_iff]
          by_cases h : 0 ≤ k
          · exact .inr (decide_eq_false fun h2 => c2 ⟨h, h2⟩)
          · exact .inl (decide_eq_false h)
        rw [e] at h2
        clear hd hdf
        refine Fn.step mixed k_L1_DomainSubtypesMayStand ?_
        repeat' (first | refine i_len rfl ?_ | refine i_s rfl ?_ | refine sw ?_ | refine i_gt rfl ?_ | refine i_gf rfl ?_ | refine c_t rfl ?_ | refine c_f rfl ?_ | refine jb rfl rfl ?_ | refine jd rfl rfl ?_ | refine i_box rfl rfl ?_ | refine sf rfl rfl hD ?_ | refine sf rfl rfl hV ?_ | refine sf rfl rfl h1 ?_ | refine sf rfl rfl h2 ?_ | fail)
        all_goals first
          | exact e_ret ⟨rfl, _, rfl, rfl⟩
          | (exfalso; clear hD hV h1 h2; simp at *; done)
    · have e : (decide (0 ≤ i) && decide (i ≤ (d.init.length : Int) - 1)) = false := by
        rw [Bool.and_eq_false_iff]
        by_cases h : 0 ≤ i
        · exact .inr (decide_eq_false fun h2 => c1 ⟨h, h2⟩)
        · exact .inl (decide_eq_false h)
      rw [e] at h1
      clear hd hdf
      refine Fn.step mixed k_L1_DomainSubtypesMayStand ?_
      repeat' (first | refine i_len rfl ?_ | refine i_s rfl ?_ | refine sw ?_ | refine i_gt rfl ?_ | refine i_gf rfl ?_ | refine c_t rfl ?_ | refine c_f rfl ?_ | refine jb rfl rfl ?_ | refine i_box rfl rfl ?_ | refine sf rfl rfl hD ?_ | refine sf rfl rfl hV ?_ | refine sf rfl rfl h1 ?_ | fail)
      all_goals first
        | exact e_ret ⟨rfl, _, rfl, rfl⟩
        | (exfalso; clear hD hV h1; simp at *; done)
  · refine Fn.step mixed k_L1_DomainSubtypesMayStand ?_
    repeat' (first | refine i_len rfl ?_ | refine i_s rfl ?_ | refine sw ?_ | refine i_gt rfl ?_ | refine i_gf rfl ?_ | refine c_t rfl ?_ | refine c_f rfl ?_ | refine jb rfl rfl ?_ | refine i_box rfl rfl ?_ | refine i_g rfl (fun h => ?_) (fun h => ?_) | refine sf rfl rfl hD ?_ | refine sf rfl rfl hV ?_ | fail)
    all_goals first
      | exact e_ret ⟨rfl, _, rfl, rfl⟩
      | exact absurd (eq_ok h) hdf
      | (exfalso; clear hD hV; simp at *; done)
end Hm
end
