/- Part Y2HA of the proof. -/
import Derived.Test.YtcafpbooikaahaaGreatYHA
import Derived.Test.YtcafpbooikaahaaGreatY2PA
set_option linter.unusedVariables false
set_option linter.unusedSimpArgs false
section
namespace Hm
open Go
set_option maxRecDepth 100000
set_option maxHeartbeats 4000000
def c_R2_act : Cmd :=
 (qS [qx 3 5888198 6 0, qq 6 (.alloc 5888392 (.agg [.int .i64 0, .sl .nil [], .sl .nil [], .sl .nil [], .sl .nil [], .int .i64 0, .bool false, .bool false]))]
 (qS [qf 16 3 3, ql 17 1 16, qm 18 1, qi 19 7 17 18, qL 20 7 19, qq 7 (.alloc 5888455 (.agg [.str [], .sl .nil [], .sl .nil [], .sl .nil [], .sl .nil [], .sl .nil [], .int .i64 0])), qs 7 7 20]
 (.seq (.ops [qm 21 1, qm 22 2, qq 23 (.build [.int .i64 0, .sl .nil []] [(0 , 1 , .t 21), (1 , 1 , .t 22)]), qf 24 6 7, ql 25 1 24, qq 26 (.build [.int .i64 0, .sl .nil [], .sl .nil [], .sl .nil [], .sl .nil [], .int .i64 0, .bool false, .bool false] [(0 , 2 , .t 23), (5 , 1 , .t 25), (6 , 1 , .c (.bool true))]), qq 8 (.alloc 5888520 (.agg [.int .i64 0, .sl .nil [], .sl .nil [], .sl .nil [], .sl .nil [], .int .i64 0, .bool false, .bool false])), qs 8 8 26]) (.nvb 8 4 5893379 (.nvb 8 3 5893315 (.nvb 8 2 5893251 (.cut (qT (qS [qc 9 0]
 (.block 0 (.loop (qT (qS [qm 27 9, qf 28 2 7, ql 29 1 28, qn 30 29, qu 31 .lss [] 27 30]
 (.cond (.t 31) .skip (.exit 0)))
 (qT (.block 1 (qS [qm 34 2, qf 35 2 7, ql 36 1 35, qm 37 9, qi 38 2 36 37, qf 39 0 38, ql 40 1 39, qi 41 1 34 40, ql 42 1 41, qm 43 2, qf 44 2 7, ql 45 1 44, qm 46 9, qi 47 2 45 46, qf 48 1 47, ql 49 1 48, qi 50 1 43 49, ql 51 1 50, qu 52 .eql [.i] 42 51]
 (.cond (.t 52) (.ops [qf 53 6 8, .op none none (.store 1 (.t 53) (.c (.bool false)))]) .skip)))
 (.ops [qm 32 9, qv 33 .add [] 32 1, qm 9 33]))))))
 (qT (qS [qc 10 0]
 (.block 2 (.loop (qT (qS [qm 54 10, qf 55 3 7, ql 56 1 55, qn 57 56, qu 58 .lss [] 54 57]
 (.cond (.t 58) .skip (.exit 2)))
 (qT (.block 3 (qS [qf 61 3 7, ql 62 1 61, qm 63 10, qi 64 3 62 63, qf 65 0 64, ql 66 1 65, qf 67 3 7, ql 68 1 67, qm 69 10, qi 70 3 68 69, qf 71 1 70, qL 72 2 71, qm 73 2, qk 74 126 [72, 73], qq 75 (.build [.bool false, .int .i64 0, .sl .nil []] [(0 , 1 , .t 66), (1 , 2 , .t 74)]), qq 11 (.alloc 5888707 (.agg [.bool false, .int .i64 0, .sl .nil []])), qs 3 11 75]
 (qT (qS [qL 76 6 3, qf 77 1 11, qf 78 0 77, ql 79 1 78, qk 80 90 [76, 79], qq 81 (.not (.t 80))]
 (.cond (.t 81) (qS [qf 82 6 8, ql 83 1 82, qm 84 83, qg 85 84 true (.load true 6 (.t 3)), qg 86 84 true (.load true 3 (.t 11)), qg 87 84 true (.call .f (.c (.fn 47 [])) [.t 85, .t 86]), qq 88 (.pick (.t 84) (.t 87) (.c (.bool false))), qf 89 6 8, qs 1 89 88]
 (.exit 3)) .skip))
 (qT (qS [qf 90 2 8, ql 91 1 90, qL 92 3 11, qk 93 21 [92], qk 94 48 [91, 93]]
 (.cond (.t 94) (.ops [qf 95 6 8, .op none none (.store 1 (.t 95) (.c (.bool false)))]) .skip))
 (.ops [qf 96 2 8, ql 97 1 96, qL 98 3 11, qq 99 (.bsl 3 [.t 98]), qq 100 (.append 3 40 54 (.t 97) (.t 99)), qf 101 2 8, qs 1 101 100])))))
 (.ops [qm 59 10, qv 60 .add [] 59 1, qm 10 60]))))))
 (qT (qS [qc 12 0]
 (.block 4 (.loop (qT (qS [qm 102 12, qf 103 4 7, ql 104 1 103, qn 105 104, qu 106 .lss [] 102 105]
 (.cond (.t 106) .skip (.exit 4)))
 (qT (.block 5 (qS [qf 109 4 7, ql 110 1 109, qm 111 12, qi 112 2 110 111, qL 113 2 112, qm 114 2, qk 115 126 [113, 114], qq 116 (.build [.bool false, .int .i64 0, .sl .nil []] [(1 , 2 , .t 115)]), qq 13 (.alloc 5888835 (.agg [.bool false, .int .i64 0, .sl .nil []])), qs 3 13 116]
 (qS [qf 117 3 8, ql 118 1 117, qL 119 3 13, qq 120 (.bsl 3 [.t 119]), qq 121 (.append 3 40 54 (.t 118) (.t 120)), qf 122 3 8, qs 1 122 121]
 (.ops [qf 123 4 8, ql 124 1 123, qL 125 3 13, qk 126 21 [125], qq 127 (.bsl 3 [.t 126]), qq 128 (.append 3 40 54 (.t 124) (.t 127)), qf 129 4 8, qs 1 129 128]))))
 (.ops [qm 107 12, qv 108 .add [] 107 1, qm 12 108]))))))
 (.seq (qS [qc 14 0]
 (.block 6 (.loop (qT (qS [qm 130 14, qf 131 5 7, ql 132 1 131, qn 133 132, qu 134 .lss [] 130 133]
 (.cond (.t 134) .skip (.exit 6)))
 (qT (.block 7 (qS [qf 137 5 7, ql 138 1 137, qm 139 14, qi 140 2 138 139, qL 141 2 140, qm 142 2, qk 143 126 [141, 142], qq 144 (.build [.bool false, .int .i64 0, .sl .nil []] [(1 , 2 , .t 143)]), qq 15 (.alloc 5888963 (.agg [.bool false, .int .i64 0, .sl .nil []])), qs 3 15 144]
 (qS [qf 145 3 8, ql 146 1 145, qL 147 3 15, qk 148 48 [146, 147], qq 149 (.not (.t 148))]
 (.cond (.t 149) (qS [qf 150 4 8, ql 151 1 150, qL 152 3 15, qq 153 (.bsl 3 [.t 152]), qq 154 (.append 3 40 54 (.t 151) (.t 153)), qf 155 4 8, qs 1 155 154]
 (.ops [qf 156 3 8, ql 157 1 156, qL 158 3 15, qk 159 21 [158], qq 160 (.bsl 3 [.t 159]), qq 161 (.append 3 40 54 (.t 157) (.t 160)), qf 162 3 8, qs 1 162 161])) .skip))))
 (.ops [qm 135 14, qv 136 .add [] 135 1, qm 14 136])))))) (.fzb 8 4 (.fzb 8 3 (.fzb 8 2 (.cut (.seq (.ops [qL 163 8 8, qs 8 6 163]) .ret))))))))))))))))
def r_R2_act : List RVar := [.cell true 8 6]
def n_R2_act : Nat := 164
theorem k_R2_act : chkFn Go.Proofs.Tryz.prog 92 n_R2_act r_R2_act c_R2_act = true := by kernel_rfl
def raV (i : Nat) (args : List Int) (c : Int) (N A D : List Lit) (b u : Bool) : V := .agg [.int .i64 i, .sl .p (args.map i64V), .sl .p (N.map litV), .sl .p (A.map litV), .sl .p (D.map litV), .int .i64 c, .bool b, .bool u]
abbrev rwR (i : Nat) (args : List Int) (c : Int) (N A D : List Lit) (b : Bool) : V := .agg [.int .i64 i, .sl .p (args.map i64V), .sl (.own 5893251) (N.map litV), .sl (.own 5893315) (A.map litV), .sl (.own 5893379) (D.map litV), .int .i64 c, .bool b, .bool false]
abbrev rwS (d : Dom) (s : Sch) (i : Nat) (args : List Int) (N A D : List Lit) (b : Bool) : List (Nat × Blk) := [(5888198, .box (domV d)), (5888392, .box (.agg [.int .i64 0, .sl .nil [], .sl .nil [], .sl .nil [], .sl .nil [], .int .i64 0, .bool false, .bool false])), (5888455, .box (schV s)), (5888520, .box (rwR i args s.cost N A D b)), (5893251, .vec N.length), (5893315, .vec A.length), (5893379, .vec D.length)]
abbrev rwE (i : Nat) (args : List Int) (r : List (Nat × V)) : List (Nat × V) := (1, .int .i64 i) :: (2, .sl .p (args.map i64V)) :: (3, .bptr 5888198 0) :: (6, .bptr 5888392 0) :: (7, .bptr 5888455 0) :: (8, .bptr 5888520 0) :: r
def rdV (d : Dom) (i : Nat) (s : Sch) (args : List Int) (u : Bool) : V := raV i args s.cost (needR d args s.pre (!s.diff.any (sameArg args)) []).2 (addOf (s.add.map (bindA args)) (s.del.map (bindA args))) (delOf (s.add.map (bindA args)) (s.del.map (bindA args))) (needR d args s.pre (!s.diff.any (sameArg args)) []).1 u
theorem f_R2_act (d : Dom) (hd : DomV d) (ho : DoOk d) (i : Nat) (s : Sch) (hs : d.schemas[i]? = some s) (args : List Int) (ha : ArgsOk d s.types args) :
    Fc Go.Proofs.Tryz.prog 92 [domV d, .int .i64 i, .sl .p (args.map i64V)] (rdV d i s args false) := by
  have hv := (schV2_of hd hs).val
  have hso := ho.schemas.2 s (mem_get hs)
  have htl := hv.types.1
  have hdl := hv.dl
  have hpl := hv.prel
  have hal := hv.addl
  have hdel := hv.dell
  have har : args.length ≤ 3 := by have := ha.1; omega
  have hil := get_lt hs
  have hfP : ∀ x ∈ s.pre, FitA args x.at_ := fun x hx => fitA_of ha hd.ty (hso.preA x hx) (hv.pre x hx)
  have hfA : ∀ a ∈ s.add, FitA args a := fun x hx => fitA_of ha hd.ty (hso.addA x hx) (hv.add x hx)
  have hfD : ∀ a ∈ s.del, FitA args a := fun x hx => fitA_of ha hd.ty (hso.delA x hx) (hv.del x hx)
  have hdf : ∀ p ∈ s.diff, 0 ≤ p.1 ∧ p.1 < args.length ∧ 0 ≤ p.2 ∧ p.2 < args.length := fun p hp => by
    have := hv.diff p hp
    have := ha.1
    omega
  have hsl := hd.sl
  clear hv hso
  unfold rdV
  refine Fn.step mixed k_R2_act ?_
  repeat' (first | refine i_s rfl ?_ | refine sw ?_ | refine jd rfl rfl ?_ | refine i_stb rfl ?_ | refine i_alloc rfl ?_ | refine i_box rfl rfl ?_)
  all_goals first
    | (exfalso; simp at *; done)
    | (exfalso; simp at *; omega)
    | skip
  refine c_nvb rfl rfl rfl rfl ?_
  refine c_nvb rfl rfl rfl rfl ?_
  refine c_nvb rfl rfl rfl rfl ?_
  repeat' (first | refine i_s rfl ?_ | refine sw ?_ | fail)
  refine c_for s.diff.length (fun k => rwE i args [(9, .int .i64 k)]) (fun k => rwS d s i args [] [] [] (!(s.diff.take k).any (sameArg args))) (fun _ => True) trivial ft fun k hk _ => ?_
  by_cases hlt : k < s.diff.length
  · obtain ⟨p, hp⟩ := get_some hlt
    obtain ⟨q1, q2, q3, q4⟩ := hdf p (mem_get hp)
    obtain ⟨x, hx⟩ := get_some (l := args) (k := p.1.toNat) (by omega)
    obtain ⟨y, hy⟩ := get_some (l := args) (k := p.2.toNat) (by omega)
    have e1 := any_take_succ hp (sameArg args)
    have e2 : sameArg args p = decide (x = y) := by unfold sameArg; rw [hx, hy]; simp
    rw [e2] at e1
    by_cases he : x = y
    · rw [decide_eq_true he, Bool.or_true] at e1
      repeat' (first | refine i_len rfl ?_ | refine i_s rfl ?_ | refine sw ?_ | refine ja rfl rfl ?_ | refine jd rfl rfl ?_ | refine i_stb rfl ?_ | refine c_cond rfl (fun h => ?_) (fun h => ?_))
      all_goals first
        | (exfalso; simp at *; done)
        | (exfalso; simp at *; omega)
        | skip
      refine e_for hlt trivial ⟨⟨rfl, rfl, rfl, rfl, rfl, rfl, rfl, trivial⟩, ⟨rfl, rfl, rfl, ?_, rfl, rfl, rfl, trivial⟩, rfl⟩
      rw [e1]; rfl
    · rw [decide_eq_false he, Bool.or_false] at e1
      repeat' (first | refine i_len rfl ?_ | refine i_s rfl ?_ | refine sw ?_ | refine ja rfl rfl ?_ | refine jd rfl rfl ?_ | refine i_stb rfl ?_ | refine c_cond rfl (fun h => ?_) (fun h => ?_))
      all_goals first
        | (exfalso; simp at *; done)
        | (exfalso; simp at *; omega)
        | skip
      refine e_for hlt trivial ⟨⟨rfl, rfl, rfl, rfl, rfl, rfl, rfl, trivial⟩, ⟨rfl, rfl, rfl, ?_, rfl, rfl, rfl, trivial⟩, rfl⟩
      rw [e1]; rfl
  have hge : k = s.diff.length := by omega
  subst hge
  rw [List.take_length]
  clear hdf hk hlt
  generalize (!s.diff.any (sameArg args)) = b0 at *
  repeat' (first | refine i_len rfl ?_ | refine i_s rfl ?_ | refine sw ?_ | refine c_cond rfl (fun h => ?_) (fun h => ?_))
  all_goals first
    | (exfalso; simp at *; done)
    | (exfalso; simp at *; omega)
    | skip
  obtain ⟨r, hr⟩ : ∃ r, r = needR d args s.pre b0 [] := ⟨_, rfl⟩
  rw [← hr]
  refine c_lp (ι := Nat × Bool × List Lit) (fun t => rwE i args [(10, .int .i64 t.1)]) (fun t => rwS d s i args t.2.2 [] [] t.2.1) (fun t => t.1 ≤ s.pre.length ∧ t.2.2.length ≤ t.1 ∧ (∀ y ∈ t.2.2, AtOk y.at_) ∧ needR d args (s.pre.drop t.1) t.2.1 t.2.2 = r) (fun t => s.pre.length - t.1) (0, b0, []) ⟨Nat.zero_le _, Nat.le_refl _, fun x hx => (by cases hx), hr.symm⟩ ft fun t hi => ?_
  obtain ⟨k, b, out⟩ := t
  obtain ⟨k1, k2, k3, k4⟩ := hi
  simp only at k1 k2 k3 k4 ⊢
  clear hr
  by_cases hlt : k < s.pre.length
  · obtain ⟨x, hx⟩ := get_some hlt
    have hfx := hfP x (mem_get hx)
    have hB := f_R2_Bound args (by omega) x.at_ hfx.len hfx.lo
    have hF := f_R2_fluent d ho x.at_.pred
    have hT := f_R2_True d ho (bindL args x) hfx.ok
    have hO := f_R2_Opposite (bindL args x)
    have hH := f_R2_HasLiteral out (opp (bindL args x)) (by omega) k3 (show AtOk (bindA args x.at_) from hfx.ok)
    rw [drop_cons hx] at k4
    unfold needR at k4
    have hok2 : ∀ y ∈ out ++ [bindL args x], AtOk y.at_ := fun y hy => by
      rcases List.mem_append.1 hy with h | h
      · exact k3 y h
      · rw [List.mem_singleton] at h; subst h; exact hfx.ok
    cases hfb : fluB d x.at_.pred with
    | false =>
      rw [hfb] at hF k4
      rw [if_pos rfl] at k4
      generalize trueL d (bindL args x) = tl at *
      clear hfx hok2 hO hH hfP hfA hfD
      cases b <;> cases tl
      all_goals
        repeat' (first | refine i_len rfl ?_ | refine i_s rfl ?_ | refine sw ?_ | refine i_gt rfl ?_ | refine i_gf rfl ?_ | refine c_t rfl ?_ | refine ja rfl rfl ?_ | refine jd rfl rfl ?_ | refine i_stb rfl ?_ | refine i_alloc rfl ?_ | refine c_cond rfl (fun h => ?_) (fun h => ?_) | refine sf rfl rfl hB ?_ | refine sf rfl rfl hF ?_ | refine sf rfl rfl hT ?_ | fail)
        all_goals first
          | exact e_lp (k + 1, _, out) ⟨by omega, by simp only; omega, k3, k4⟩ (by simp only; omega) ⟨⟨rfl, rfl, rfl, rfl, rfl, rfl, rfl, trivial⟩, ⟨rfl, rfl, rfl, rfl, rfl, rfl, rfl, trivial⟩, rfl⟩
          | (exfalso; clear hB hF hT; simp at *; done)
          | (exfalso; clear hB hF hT; simp at *; omega)
    | true =>
      rw [hfb] at hF k4
      rw [if_neg (by simp)] at k4
      by_cases h1 : opp (bindL args x) ∈ out
      · rw [decide_eq_true h1] at hH k4
        rw [show (b && !true) = false by simp] at k4
        clear hfx hT hfP hfA hfD
        repeat' (first | refine i_len rfl ?_ | refine i_s rfl ?_ | refine sw ?_ | refine c_t rfl ?_ | refine c_f rfl ?_ | refine jd rfl rfl ?_ | refine i_stb rfl ?_ | refine i_alloc rfl ?_ | refine c_cond rfl (fun h => ?_) (fun h => ?_) | refine sf rfl rfl hB ?_ | refine sf rfl rfl hF ?_ | refine sf rfl rfl hO ?_ | refine sf rfl rfl hH ?_ | fail)
        all_goals first
          | (exfalso; clear hB hF hO hH; simp at *; done)
          | (exfalso; clear hB hF hO hH; simp at *; omega)
          | skip
        refine i_appM (c := bindL args x) rfl rfl rfl rfl rfl (by omega) (by omega) ?_
        repeat' (first | refine i_s rfl ?_ | refine sw ?_ | refine ja rfl rfl ?_ | refine i_stb rfl ?_)
        refine e_lp (k + 1, false, out ++ [bindL args x]) ⟨by omega, by simp; omega, hok2, k4⟩ (by simp only; omega) ⟨⟨rfl, rfl, rfl, rfl, rfl, rfl, rfl, trivial⟩, ⟨rfl, rfl, rfl, ?_, ?_, rfl, rfl, trivial⟩, rfl⟩
        · rfl
        · simp; rfl
      · rw [decide_eq_false h1] at hH k4
        rw [show (b && !false) = b by simp] at k4
        clear hfx hT hfP hfA hfD
        repeat' (first | refine i_len rfl ?_ | refine i_s rfl ?_ | refine sw ?_ | refine c_f rfl ?_ | refine jd rfl rfl ?_ | refine i_stb rfl ?_ | refine i_alloc rfl ?_ | refine c_cond rfl (fun h => ?_) (fun h => ?_) | refine sf rfl rfl hB ?_ | refine sf rfl rfl hF ?_ | refine sf rfl rfl hO ?_ | refine sf rfl rfl hH ?_ | fail)
        all_goals first
          | (exfalso; clear hB hF hO hH; simp at *; done)
          | (exfalso; clear hB hF hO hH; simp at *; omega)
          | skip
        refine i_appM (c := bindL args x) rfl rfl rfl rfl rfl (by omega) (by omega) ?_
        repeat' (first | refine i_s rfl ?_ | refine sw ?_ | refine ja rfl rfl ?_ | refine i_stb rfl ?_)
        refine e_lp (k + 1, b, out ++ [bindL args x]) ⟨by omega, by simp; omega, hok2, k4⟩ (by simp only; omega) ⟨⟨rfl, rfl, rfl, rfl, rfl, rfl, rfl, trivial⟩, ⟨rfl, rfl, rfl, ?_, ?_, rfl, rfl, trivial⟩, rfl⟩
        · rfl
        · simp; rfl
  have hge : k = s.pre.length := by omega
  subst hge
  rw [List.drop_length] at k4
  have k5 : (b, out) = r := k4
  subst k5
  clear k4 k1 k3 hfP hlt
  repeat' (first | refine i_len rfl ?_ | refine i_s rfl ?_ | refine sw ?_ | refine c_cond rfl (fun h => ?_) (fun h => ?_))
  all_goals first
    | (exfalso; simp at *; done)
    | (exfalso; simp at *; omega)
    | skip
  refine c_for s.add.length (fun k => rwE i args [(12, .int .i64 k)]) (fun k => rwS d s i args out (((s.add.take k).map (bindA args)).map posL) (((s.add.take k).map (bindA args)).map negL) b) (fun _ => True) trivial ft fun k hk _ => ?_
  by_cases hlt : k < s.add.length
  · obtain ⟨x, hx⟩ := get_some hlt
    have hfx := hfA x (mem_get hx)
    have hB := f_R2_Bound args (by omega) x hfx.len hfx.lo
    have hO := f_R2_Opposite (posL (bindA args x))
    have l1 : (((s.add.take k).map (bindA args)).map posL).length ≤ k := by simp; omega
    have l2 : (((s.add.take k).map (bindA args)).map negL).length ≤ k := by simp; omega
    have e1 : ((s.add.take (k + 1)).map (bindA args)).map posL = ((s.add.take k).map (bindA args)).map posL ++ [posL (bindA args x)] := by rw [take_succ_get hx, List.map_append, List.map_append]; rfl
    have e2 : ((s.add.take (k + 1)).map (bindA args)).map negL = ((s.add.take k).map (bindA args)).map negL ++ [negL (bindA args x)] := by rw [take_succ_get hx, List.map_append, List.map_append]; rfl
    clear hfx hfA hfD
    repeat' (first | refine i_len rfl ?_ | refine i_s rfl ?_ | refine sw ?_ | refine jd rfl rfl ?_ | refine i_stb rfl ?_ | refine i_alloc rfl ?_ | refine c_cond rfl (fun h => ?_) (fun h => ?_) | refine sf rfl rfl hB ?_ | fail)
    all_goals first
      | (exfalso; clear hB hO; simp at *; done)
      | (exfalso; clear hB hO; simp at *; omega)
      | skip
    refine i_appM (c := posL (bindA args x)) rfl rfl rfl rfl rfl (by omega) (by omega) ?_
    repeat' (first | refine i_s rfl ?_ | refine sw ?_ | refine i_stb rfl ?_ | refine sf rfl rfl hO ?_ | fail)
    refine i_appM (c := negL (bindA args x)) rfl rfl rfl rfl rfl (by omega) (by omega) ?_
    repeat' (first | refine i_s rfl ?_ | refine sw ?_ | refine ja rfl rfl ?_ | refine i_stb rfl ?_)
    refine e_for hlt trivial ⟨⟨rfl, rfl, rfl, rfl, rfl, rfl, rfl, trivial⟩, ⟨rfl, rfl, rfl, ?_, rfl, ?_, ?_, trivial⟩, rfl⟩
    · rw [e1, e2]; rfl
    · rw [e1]; simp; rfl
    · rw [e2]; simp; rfl
  have hge : k = s.add.length := by omega
  subst hge
  rw [List.take_length]
  have hPo : ∀ a ∈ s.add.map (bindA args), AtOk a := fun a ha => by
    obtain ⟨b, hb, rfl⟩ := List.mem_map.1 ha
    exact (hfA b hb).ok
  have hPl : (s.add.map (bindA args)).length ≤ 8 := by rw [List.length_map]; exact hal
  have hadl := hal
  clear hk hlt
  repeat' (first | refine i_len rfl ?_ | refine i_s rfl ?_ | refine sw ?_ | refine c_cond rfl (fun h => ?_) (fun h => ?_))
  all_goals first
    | (exfalso; simp at *; done)
    | (exfalso; simp at *; omega)
    | skip
  generalize s.add.map (bindA args) = P at *
  refine c_for s.del.length (fun k => rwE i args [(14, .int .i64 k)]) (fun k => rwS d s i args out (addOf P ((s.del.take k).map (bindA args))) (delOf P ((s.del.take k).map (bindA args))) b) (fun _ => True) trivial ⟨⟨rfl, rfl, rfl, rfl, rfl, rfl, rfl, trivial⟩, ⟨rfl, rfl, rfl, ?_, rfl, ?_, ?_, trivial⟩, rfl⟩ fun k hk _ => ?_
  · show Blk.box _ = Blk.box _; rw [show addOf P ((s.del.take 0).map (bindA args)) = P.map posL from by simp [addOf], show delOf P ((s.del.take 0).map (bindA args)) = P.map negL from by simp [delOf]]
  · show Blk.vec _ = Blk.vec _; simp [addOf]
  · show Blk.vec _ = Blk.vec _; simp [delOf]
  by_cases hlt : k < s.del.length
  · obtain ⟨x, hx⟩ := get_some hlt
    have hfx := hfD x (mem_get hx)
    have hB := f_R2_Bound args (by omega) x hfx.len hfx.lo
    have hO := f_R2_Opposite (posL (bindA args x))
    have hfl : (((s.del.take k).map (bindA args)).filter fun a => !decide (a ∈ P)).length ≤ k := Nat.le_trans (List.length_filter_le _ _) (by simp; omega)
    have l1 : (addOf P ((s.del.take k).map (bindA args))).length ≤ P.length + k := by simp only [addOf, List.length_append, List.length_map]; omega
    have l2 : (delOf P ((s.del.take k).map (bindA args))).length ≤ P.length + k := by simp only [delOf, List.length_append, List.length_map]; omega
    have hMo : ∀ y ∈ addOf P ((s.del.take k).map (bindA args)), AtOk y.at_ := fun y hy => by
      rcases addOf_mem.1 hy with ⟨_, h⟩ | ⟨_, h, _⟩
      · exact hPo _ h
      · obtain ⟨z, hz, hz2⟩ := List.mem_map.1 h
        rw [← hz2]
        exact (hfD z (List.mem_of_mem_take hz)).ok
    have hH := f_R2_HasLiteral (addOf P ((s.del.take k).map (bindA args))) (posL (bindA args x)) (by omega) hMo (show AtOk (bindA args x) from hfx.ok)
    have hm : posL (bindA args x) ∈ addOf P ((s.del.take k).map (bindA args)) ↔ bindA args x ∈ P := by
      rw [addOf_mem]
      exact ⟨fun h => h.elim (fun h => h.2) (fun h => by cases h.1), fun h => .inl ⟨rfl, h⟩⟩
    have hm' : decide (posL (bindA args x) ∈ addOf P ((s.del.take k).map (bindA args))) = decide (bindA args x ∈ P) := decide_eq_decide.2 hm
    rw [hm'] at hH
    have ht : (s.del.take (k + 1)).map (bindA args) = (s.del.take k).map (bindA args) ++ [bindA args x] := by rw [take_succ_get hx, List.map_append]; rfl
    clear hfx hfA
    by_cases hm2 : bindA args x ∈ P
    · rw [decide_eq_true hm2] at hH
      have e1 : addOf P ((s.del.take (k + 1)).map (bindA args)) = addOf P ((s.del.take k).map (bindA args)) := by unfold addOf; rw [ht, List.filter_append, List.filter_cons, if_neg (by simp [hm2])]; simp
      have e2 : delOf P ((s.del.take (k + 1)).map (bindA args)) = delOf P ((s.del.take k).map (bindA args)) := by unfold delOf; rw [ht, List.filter_append, List.filter_cons, if_neg (by simp [hm2])]; simp
      clear hO
      repeat' (first | refine i_len rfl ?_ | refine i_s rfl ?_ | refine sw ?_ | refine c_f rfl ?_ | refine ja rfl rfl ?_ | refine jd rfl rfl ?_ | refine i_stb rfl ?_ | refine i_alloc rfl ?_ | refine c_cond rfl (fun h => ?_) (fun h => ?_) | refine sf rfl rfl hB ?_ | refine sf rfl rfl hH ?_ | fail)
      all_goals first
        | (exfalso; clear hB hH; simp at *; done)
        | (exfalso; clear hB hH; simp at *; omega)
        | skip
      refine e_for hlt trivial ⟨⟨rfl, rfl, rfl, rfl, rfl, rfl, rfl, trivial⟩, ⟨rfl, rfl, rfl, ?_, rfl, ?_, ?_, trivial⟩, rfl⟩
      · rw [e1, e2]; rfl
      · rw [e1]; rfl
      · rw [e2]; rfl
    · rw [decide_eq_false hm2] at hH
      have e1 : addOf P ((s.del.take (k + 1)).map (bindA args)) = addOf P ((s.del.take k).map (bindA args)) ++ [negL (bindA args x)] := by unfold addOf; rw [ht, List.filter_append, List.filter_cons, if_pos (by simp [hm2])]; simp
      have e2 : delOf P ((s.del.take (k + 1)).map (bindA args)) = delOf P ((s.del.take k).map (bindA args)) ++ [posL (bindA args x)] := by unfold delOf; rw [ht, List.filter_append, List.filter_cons, if_pos (by simp [hm2])]; simp
      repeat' (first | refine i_len rfl ?_ | refine i_s rfl ?_ | refine sw ?_ | refine c_t rfl ?_ | refine jd rfl rfl ?_ | refine i_stb rfl ?_ | refine i_alloc rfl ?_ | refine c_cond rfl (fun h => ?_) (fun h => ?_) | refine sf rfl rfl hB ?_ | refine sf rfl rfl hH ?_ | fail)
      all_goals first
        | (exfalso; clear hB hH hO; simp at *; done)
        | (exfalso; clear hB hH hO; simp at *; omega)
        | skip
      refine i_appM (c := posL (bindA args x)) rfl rfl rfl rfl rfl (by omega) (by omega) ?_
      repeat' (first | refine i_s rfl ?_ | refine sw ?_ | refine i_stb rfl ?_ | refine sf rfl rfl hO ?_ | fail)
      refine i_appM (c := negL (bindA args x)) rfl rfl rfl rfl rfl (by omega) (by omega) ?_
      repeat' (first | refine i_s rfl ?_ | refine sw ?_ | refine ja rfl rfl ?_ | refine i_stb rfl ?_)
      refine e_for hlt trivial ⟨⟨rfl, rfl, rfl, rfl, rfl, rfl, rfl, trivial⟩, ⟨rfl, rfl, rfl, ?_, rfl, ?_, ?_, trivial⟩, rfl⟩
      · rw [e1, e2]; rfl
      · rw [e1]; simp; rfl
      · rw [e2]; simp; rfl
  have hge : k = s.del.length := by omega
  subst hge
  rw [List.take_length]
  generalize addOf P (s.del.map (bindA args)) = A at *
  generalize delOf P (s.del.map (bindA args)) = D at *
  repeat' (first | refine i_len rfl ?_ | refine i_s rfl ?_ | refine sw ?_ | refine c_cond rfl (fun h => ?_) (fun h => ?_))
  all_goals first
    | (exfalso; simp at *; done)
    | (exfalso; simp at *; omega)
    | skip
  refine c_fzb rfl rfl rfl rfl ?_
  refine c_fzb rfl rfl rfl rfl ?_
  refine c_fzb rfl rfl rfl rfl ?_
  repeat' (first | refine i_s rfl ?_ | refine sw ?_ | refine i_stb rfl ?_)
  exact e_ret ⟨rfl, _, rfl, rfl⟩
def acsK (d : Dom) (k : Nat) : List Ac := (List.range k).flatMap fun i => match d.schemas[i]? with
  | none => []
  | some s => (argL d s.types).filterMap (acR d i s)
theorem acsK_succ {d : Dom} {k : Nat} {s : Sch} (h : d.schemas[k]? = some s) : acsK d (k + 1) = acsK d k ++ (argL d s.types).filterMap (acR d k s) := by
  unfold acsK
  rw [range_flat_succ, h]
theorem acsK_len {d : Dom} (h : DomV d) {k : Nat} (hk : k ≤ d.schemas.length) : (acsK d k).length ≤ 4096 := by
  have hv := doVal_of h
  unfold acsK
  refine Nat.le_trans (flatMap_len_le (n := 512) fun i hi => ?_) ?_
  · obtain ⟨s, hs⟩ := get_some (l := d.schemas) (k := i) (by have := List.mem_range.1 hi; omega)
    simp only [hs]
    refine Nat.le_trans (List.length_filterMap_le _ _) (argL_512 hv.ty.ol ?_)
    exact (schV2_of h hs).val.types.1
  · have := h.sl; simp only [List.length_range]; omega
theorem actsR_len {d : Dom} (h : DomV d) : (actsR d).length ≤ 4096 := acsK_len h (Nat.le_refl _)
def raU (u : Bool) (a : Ac) : V := raV a.sch a.args a.cost a.pre a.add a.del true u
abbrev raW (a : Ac) : V := raU false a
theorem acR_some {d : Dom} {i : Nat} {s : Sch} {a : List Int} (h : (needR d a s.pre (!s.diff.any (sameArg a)) []).1 = true) : ∃ c, acR d i s a = some c ∧ rdV d i s a false = raW c := by
  unfold acR
  rw [if_pos h]
  refine ⟨_, rfl, ?_⟩
  unfold rdV raW raU
  rw [h]
theorem acR_none {d : Dom} {i : Nat} {s : Sch} {a : List Int} (h : (needR d a s.pre (!s.diff.any (sameArg a)) []).1 = false) : acR d i s a = none := by
  unfold acR
  rw [if_neg (by rw [h]; simp)]
def c_R2_Acts : Cmd :=
 (qS [qx 1 2624070 6 0, qq 2 (.mov (.c (.sl .nil [])))]
 (qS [qq 3 (.newArr 2624200)]
 (qT (qS [qc 4 0]
 (.block 0 (.loop (qT (qS [qm 8 4, qf 9 3 1, ql 10 1 9, qn 11 10, qu 12 .lss [] 8 11]
 (.cond (.t 12) .skip (.exit 0)))
 (qT (.block 1 (qS [qL 15 6 1, qf 16 3 1, ql 17 1 16, qm 18 4, qi 19 7 17 18, qf 20 1 19, ql 21 1 20, qk 22 33 [15, 21], qm 5 22]
 (qS [qc 6 0]
 (.block 2 (.loop (qT (qS [qm 23 6, qm 24 5, qn 25 24, qu 26 .lss [] 23 25]
 (.cond (.t 26) .skip (.exit 2)))
 (qT (.block 3 (qS [qL 29 6 1, qm 30 4, qm 31 5, qm 32 6, qi 33 1 31 32, ql 34 1 33, qk 35 92 [29, 30, 34], qq 7 (.alloc 2624456 (.agg [.int .i64 0, .sl .nil [], .sl .nil [], .sl .nil [], .sl .nil [], .int .i64 0, .bool false, .bool false])), qs 8 7 35]
 (qS [qf 36 6 7, ql 37 1 36]
 (.cond (.t 37) (.ops [qm 38 3, qL 39 8 7, qq 40 (.bsl 8 [.t 39]), qq 41 (.append 8 120 103 (.t 38) (.t 40)), qm 3 41]) .skip))))
 (.ops [qm 27 6, qv 28 .add [] 27 1, qm 6 28]))))))))
 (.ops [qm 13 4, qv 14 .add [] 13 1, qm 4 14]))))))
 (.seq (.ops [qm 42 3, qm 2 42]) .ret))))
def r_R2_Acts : List RVar := [.tmp 2]
def n_R2_Acts : Nat := 43
theorem k_R2_Acts : chkFn Go.Proofs.Tryz.prog 41 n_R2_Acts r_R2_Acts c_R2_Acts = true := by kernel_rfl
theorem f_R2_Acts (d : Dom) (hd : DomV d) (ho : DoOk d) : Fc Go.Proofs.Tryz.prog 41 [domV d] (.sl .p ((actsR d).map raW)) := by
  refine Fn.step mixed k_R2_Acts ?_
  have hsl := hd.sl
  have hAl := actsR_len hd
  repeat (first | refine i_s rfl ?_ | refine sw ?_ | refine i_box rfl rfl ?_)
  refine i_na rfl ?_
  repeat (first | refine i_s rfl ?_ | refine sw ?_)
  refine c_for d.schemas.length (fun k => [(1, .bptr 2624070 0), (3, .msl 2624200 (acsK d k).length 0 (acsK d k).length), (4, .int .i64 k)]) (fun k => [(2624070, .box (domV d)), (2624200, .arr (acsK d k).length ((acsK d k).map raW))]) (fun _ => True) trivial ft fun k hk _ => ?_
  by_cases hlt : k < d.schemas.length
  · obtain ⟨s, hs⟩ := get_some hlt
    have hst := (schV2_of hd hs).val.types.1
    have hA := f_R2_ArgLists d hd.ty s.types hst
    have hal := argL_512 hd.ty.ol hst
    have hR := fun a ha => f_R2_act d hd ho k s hs a (argL_argsOk (ts := s.types) ha)
    have e1 : acsK d (k + 1) = acsK d k ++ (argL d s.types).filterMap (acR d k s) := acsK_succ hs
    have hkl := acsK_len hd hk
    generalize hB : acsK d (k + 1) = B at *
    generalize acsK d k = A at *
    generalize argL d s.types = L at *
    repeat' (first | refine i_len rfl ?_ | refine i_s rfl ?_ | refine sw ?_ | refine jd rfl rfl ?_ | refine c_cond rfl (fun h => ?_) (fun h => ?_) | refine sf rfl rfl hA ?_ | fail)
    all_goals first
      | (exfalso; clear hA hR; simp at *; done)
      | (exfalso; clear hA hR; simp at *; omega)
      | skip
    clear hA
    refine c_for L.length (fun j => [(1, .bptr 2624070 0), (3, .msl 2624200 (A ++ (L.take j).filterMap (acR d k s)).length 0 (A ++ (L.take j).filterMap (acR d k s)).length), (4, .int .i64 k), (5, .sl .p (L.map ilV)), (6, .int .i64 j)])
      (fun j => [(2624070, .box (domV d)), (2624200, .arr (A ++ (L.take j).filterMap (acR d k s)).length ((A ++ (L.take j).filterMap (acR d k s)).map raW))]) (fun _ => True) trivial ⟨⟨rfl, ?_, rfl, rfl, rfl, trivial⟩, ⟨rfl, ?_, trivial⟩, rfl⟩ fun j hj _ => ?_
    · show V.msl _ _ _ _ = V.msl _ _ _ _; simp
    · show Blk.arr _ _ = Blk.arr _ _; simp
    have hjl : (A ++ (L.take j).filterMap (acR d k s)).length ≤ 4096 + 512 := by
      rw [List.length_append]
      have := List.length_filterMap_le (acR d k s) (L.take j)
      have : (L.take j).length ≤ L.length := by simp; omega
      omega
    by_cases hlj : j < L.length
    · obtain ⟨a, ha⟩ := get_some hlj
      have hR := hR a (mem_get ha)
      have e3 : A ++ (L.take (j + 1)).filterMap (acR d k s) = (A ++ (L.take j).filterMap (acR d k s)) ++ (acR d k s a).toList := by
        rw [take_succ_get ha, List.filterMap_append, List.append_assoc]
        congr 2
      generalize hU : A ++ (L.take (j + 1)).filterMap (acR d k s) = U at *
      generalize A ++ (L.take j).filterMap (acR d k s) = W at *
      cases hb : (needR d a s.pre (!s.diff.any (sameArg a)) []).1 with
      | true =>
        obtain ⟨c, hc, hc2⟩ := acR_some (i := k) hb
        rw [hc2] at hR
        rw [hc] at e3
        have e3 : U = W ++ [c] := e3
        clear hb hc hc2
        repeat' (first | refine i_len rfl ?_ | refine i_s rfl ?_ | refine sw ?_ | refine c_t rfl ?_ | refine ja rfl rfl ?_ | refine jd rfl rfl ?_ | refine i_stb rfl ?_ | refine i_alloc rfl ?_ | refine c_cond rfl (fun h => ?_) (fun h => ?_) | refine sf rfl rfl hR ?_ | fail)
        all_goals first
          | (exfalso; clear hR; simp at *; done)
          | (exfalso; clear hR; simp at *; omega)
          | skip
        refine i_appmM [c] rfl rfl rfl rfl rfl (fun c hc => ⟨rfl, rfl⟩) (by simp only [List.length_singleton]; omega) (by simp only [List.length_singleton]; omega) ?_
        repeat' (first | refine i_s rfl ?_ | refine sw ?_ | refine ja rfl rfl ?_ | fail)
        refine e_for hlj trivial ⟨⟨rfl, ?_, rfl, rfl, rfl, trivial⟩, ⟨rfl, ?_, trivial⟩, rfl⟩
        · rw [hU, e3, List.length_append]; rfl
        · rw [hU, e3, List.length_append]; rfl
      | false =>
        rw [acR_none (i := k) hb] at e3
        have e3 : U = W := by rw [e3]; simp
        unfold rdV at hR
        rw [hb] at hR
        repeat' (first | refine i_len rfl ?_ | refine i_s rfl ?_ | refine sw ?_ | refine c_f rfl ?_ | refine ja rfl rfl ?_ | refine jd rfl rfl ?_ | refine i_stb rfl ?_ | refine i_alloc rfl ?_ | refine c_cond rfl (fun h => ?_) (fun h => ?_) | refine sf rfl rfl hR ?_ | fail)
        all_goals first
          | (exfalso; clear hR; simp at *; done)
          | (exfalso; clear hR; simp at *; omega)
          | skip
        refine e_for hlj trivial ⟨⟨rfl, ?_, rfl, rfl, rfl, trivial⟩, ⟨rfl, ?_, trivial⟩, rfl⟩
        · rw [hU, e3]; rfl
        · rw [hU, e3]; rfl
    have hge : j = L.length := by omega
    subst hge
    rw [List.take_length, ← e1]
    rw [List.take_length, ← e1] at hjl
    repeat' (first | refine i_len rfl ?_ | refine i_s rfl ?_ | refine sw ?_ | refine ja rfl rfl ?_ | refine c_cond rfl (fun h => ?_) (fun h => ?_))
    all_goals first
      | (exfalso; clear hR; simp at *; done)
      | (exfalso; clear hR; simp at *; omega)
      | skip
    refine e_for hlt trivial ⟨⟨rfl, ?_, rfl, trivial⟩, ⟨rfl, ?_, trivial⟩, rfl⟩
    · rw [hB]; rfl
    · rw [hB]; rfl
  have hge : k = d.schemas.length := by omega
  subst hge
  rw [show acsK d d.schemas.length = actsR d from rfl]
  repeat' (first | refine i_len rfl ?_ | refine i_s rfl ?_ | refine sw ?_ | refine c_cond rfl (fun h => ?_) (fun h => ?_))
  all_goals first
    | (exfalso; simp at *; done)
    | (exfalso; simp at *; omega)
    | skip
  exact e_ret ⟨rfl, _, rfl, ((er_msl (i := 0) (len := (actsR d).length) (n := 5) rfl).trans (by rw [List.drop_zero, List.take_of_length_le (by simp)])).symm⟩
theorem ct_R2_Acts {G : Type} {H : HT G} (d : Dom) (hd : DomV d) (ho : DoOk d) (g : G) : Cc Go.Proofs.Tryz.prog H 41 [domV d] [2624200] (stOf [(2624200, .unused)]) g fun r σ' g' => (∃ gen, r = .msl 2624200 gen 0 (actsR d).length ∧ σ' = stOf [(2624200, .arr gen ((actsR d).map raW))]) ∧ g' = g := by
  refine CT.step _ mixed k_R2_Acts (fun nm hnm => stOf_mem _ nm hnm) fun hM => ?_
  have hsl := hd.sl
  have hAl := actsR_len hd
  repeat (first | refine i_s rfl ?_ | refine sw ?_ | refine i_box rfl rfl ?_)
  refine i_na rfl ?_
  repeat (first | refine i_s rfl ?_ | refine sw ?_)
  refine c_for d.schemas.length (fun k => [(1, .bptr 2624070 0), (3, .msl 2624200 (acsK d k).length 0 (acsK d k).length), (4, .int .i64 k)]) (fun k => [(2624070, .box (domV d)), (2624200, .arr (acsK d k).length ((acsK d k).map raW))]) (fun _ => True) trivial ft fun k hk _ => ?_
  by_cases hlt : k < d.schemas.length
  · obtain ⟨s, hs⟩ := get_some hlt
    have hst := (schV2_of hd hs).val.types.1
    have hA := f_R2_ArgLists d hd.ty s.types hst
    have hal := argL_512 hd.ty.ol hst
    have hR := fun a ha => f_R2_act d hd ho k s hs a (argL_argsOk (ts := s.types) ha)
    have e1 : acsK d (k + 1) = acsK d k ++ (argL d s.types).filterMap (acR d k s) := acsK_succ hs
    have hkl := acsK_len hd hk
    generalize hB : acsK d (k + 1) = B at *
    generalize acsK d k = A at *
    generalize argL d s.types = L at *
    repeat' (first | refine i_len rfl ?_ | refine i_s rfl ?_ | refine sw ?_ | refine jd rfl rfl ?_ | refine c_cond rfl (fun h => ?_) (fun h => ?_) | refine sf rfl rfl hA ?_ | fail)
    all_goals first
      | (exfalso; clear hA hR; simp at *; done)
      | (exfalso; clear hA hR; simp at *; omega)
      | skip
    clear hA
    refine c_for L.length (fun j => [(1, .bptr 2624070 0), (3, .msl 2624200 (A ++ (L.take j).filterMap (acR d k s)).length 0 (A ++ (L.take j).filterMap (acR d k s)).length), (4, .int .i64 k), (5, .sl .p (L.map ilV)), (6, .int .i64 j)])
      (fun j => [(2624070, .box (domV d)), (2624200, .arr (A ++ (L.take j).filterMap (acR d k s)).length ((A ++ (L.take j).filterMap (acR d k s)).map raW))]) (fun _ => True) trivial ⟨⟨rfl, ?_, rfl, rfl, rfl, trivial⟩, ⟨rfl, ?_, trivial⟩, rfl⟩ fun j hj _ => ?_
    · show V.msl _ _ _ _ = V.msl _ _ _ _; simp
    · show Blk.arr _ _ = Blk.arr _ _; simp
    have hjl : (A ++ (L.take j).filterMap (acR d k s)).length ≤ 4096 + 512 := by
      rw [List.length_append]
      have := List.length_filterMap_le (acR d k s) (L.take j)
      have : (L.take j).length ≤ L.length := by simp; omega
      omega
    by_cases hlj : j < L.length
    · obtain ⟨a, ha⟩ := get_some hlj
      have hR := hR a (mem_get ha)
      have e3 : A ++ (L.take (j + 1)).filterMap (acR d k s) = (A ++ (L.take j).filterMap (acR d k s)) ++ (acR d k s a).toList := by
        rw [take_succ_get ha, List.filterMap_append, List.append_assoc]
        congr 2
      generalize hU : A ++ (L.take (j + 1)).filterMap (acR d k s) = U at *
      generalize A ++ (L.take j).filterMap (acR d k s) = W at *
      cases hb : (needR d a s.pre (!s.diff.any (sameArg a)) []).1 with
      | true =>
        obtain ⟨c, hc, hc2⟩ := acR_some (i := k) hb
        rw [hc2] at hR
        rw [hc] at e3
        have e3 : U = W ++ [c] := e3
        clear hb hc hc2
        repeat' (first | refine i_len rfl ?_ | refine i_s rfl ?_ | refine sw ?_ | refine c_t rfl ?_ | refine ja rfl rfl ?_ | refine jd rfl rfl ?_ | refine i_stb rfl ?_ | refine i_alloc rfl ?_ | refine c_cond rfl (fun h => ?_) (fun h => ?_) | refine sf rfl rfl hR ?_ | fail)
        all_goals first
          | (exfalso; clear hR; simp at *; done)
          | (exfalso; clear hR; simp at *; omega)
          | skip
        refine i_appmM [c] rfl rfl rfl rfl rfl (fun c hc => ⟨rfl, rfl⟩) (by simp only [List.length_singleton]; omega) (by simp only [List.length_singleton]; omega) ?_
        repeat' (first | refine i_s rfl ?_ | refine sw ?_ | refine ja rfl rfl ?_ | fail)
        refine e_for hlj trivial ⟨⟨rfl, ?_, rfl, rfl, rfl, trivial⟩, ⟨rfl, ?_, trivial⟩, rfl⟩
        · rw [hU, e3, List.length_append]; rfl
        · rw [hU, e3, List.length_append]; rfl
      | false =>
        rw [acR_none (i := k) hb] at e3
        have e3 : U = W := by rw [e3]; simp
        unfold rdV at hR
        rw [hb] at hR
        repeat' (first | refine i_len rfl ?_ | refine i_s rfl ?_ | refine sw ?_ | refine c_f rfl ?_ | refine ja rfl rfl ?_ | refine jd rfl rfl ?_ | refine i_stb rfl ?_ | refine i_alloc rfl ?_ | refine c_cond rfl (fun h => ?_) (fun h => ?_) | refine sf rfl rfl hR ?_ | fail)
        all_goals first
          | (exfalso; clear hR; simp at *; done)
          | (exfalso; clear hR; simp at *; omega)
          | skip
        refine e_for hlj trivial ⟨⟨rfl, ?_, rfl, rfl, rfl, trivial⟩, ⟨rfl, ?_, trivial⟩, rfl⟩
        · rw [hU, e3]; rfl
        · rw [hU, e3]; rfl
    have hge : j = L.length := by omega
    subst hge
    rw [List.take_length, ← e1]
    rw [List.take_length, ← e1] at hjl
    repeat' (first | refine i_len rfl ?_ | refine i_s rfl ?_ | refine sw ?_ | refine ja rfl rfl ?_ | refine c_cond rfl (fun h => ?_) (fun h => ?_))
    all_goals first
      | (exfalso; clear hR; simp at *; done)
      | (exfalso; clear hR; simp at *; omega)
      | skip
    refine e_for hlt trivial ⟨⟨rfl, ?_, rfl, trivial⟩, ⟨rfl, ?_, trivial⟩, rfl⟩
    · rw [hB]; rfl
    · rw [hB]; rfl
  have hge : k = d.schemas.length := by omega
  subst hge
  rw [show acsK d d.schemas.length = actsR d from rfl]
  repeat' (first | refine i_len rfl ?_ | refine i_s rfl ?_ | refine sw ?_ | refine c_cond rfl (fun h => ?_) (fun h => ?_))
  all_goals first
    | (exfalso; simp at *; done)
    | (exfalso; simp at *; omega)
    | skip
  exact e_ret ⟨rfl, _, rfl, rfl, rfl, ⟨_, rfl, restr_stOf _ _⟩, rfl⟩
theorem needR_out {d : Dom} {args : List Int} : ∀ {l : List Lit} {b : Bool} {out : List Lit}, (needR d args l b out).2.length ≤ out.length + l.length ∧ ∀ y ∈ (needR d args l b out).2, y ∈ out ∨ ∃ x ∈ l, y = bindL args x
  | [], b, out => ⟨by simp [needR], fun y hy => .inl hy⟩
  | x :: r, b, out => by
    unfold needR
    split
    · obtain ⟨h1, h2⟩ := needR_out (d := d) (args := args) (l := r) (b := b && trueL d (bindL args x)) (out := out)
      refine ⟨by simp only [List.length_cons]; omega, fun y hy => ?_⟩
      rcases h2 y hy with h | ⟨z, hz, e⟩
      · exact .inl h
      · exact .inr ⟨z, List.mem_cons_of_mem _ hz, e⟩
    · obtain ⟨h1, h2⟩ := needR_out (d := d) (args := args) (l := r) (b := b && !decide (opp (bindL args x) ∈ out)) (out := out ++ [bindL args x])
      refine ⟨by simp only [List.length_cons, List.length_append, List.length_nil] at h1 ⊢; omega, fun y hy => ?_⟩
      rcases h2 y hy with h | ⟨z, hz, e⟩
      · rcases List.mem_append.1 h with h | h
        · exact .inl h
        · exact .inr ⟨x, by simp, by simpa using h⟩
      · exact .inr ⟨z, List.mem_cons_of_mem _ hz, e⟩
theorem actsR_mem {d : Dom} {a : Ac} (h : a ∈ actsR d) : ∃ (i : Nat) (s : Sch) (args : List Int), d.schemas[i]? = some s ∧ args ∈ argL d s.types ∧
    a = ⟨i, args, (needR d args s.pre (!s.diff.any (sameArg args)) []).2, addOf (s.add.map (bindA args)) (s.del.map (bindA args)), delOf (s.add.map (bindA args)) (s.del.map (bindA args)), s.cost⟩ := by
  unfold actsR at h
  obtain ⟨i, _, h⟩ := List.mem_flatMap.1 h
  cases hs : d.schemas[i]? with
  | none => rw [hs] at h; cases h
  | some s =>
    rw [hs] at h
    obtain ⟨args, h1, h2⟩ := List.mem_filterMap.1 h
    unfold acR at h2
    split at h2
    · cases h2
      exact ⟨i, s, args, hs, h1, rfl⟩
    · cases h2
theorem actsR_ok {d : Dom} (hd : DomV d) (ho : DoOk d) {a : Ac} (h : a ∈ actsR d) : ActOk a ∧ a.add.length ≤ 16 := by
  obtain ⟨i, s, args, hs, hl, rfl⟩ := actsR_mem h
  have hv := (schV2_of hd hs).val
  have hso := ho.schemas.2 s (mem_get hs)
  have hargs := argL_argsOk hl
  have hpl := hv.prel
  have hal := hv.addl
  have hdl := hv.dell
  have hA : ∀ a ∈ s.add.map (bindA args), AtOk a := fun a ha => by
    obtain ⟨b, hb, rfl⟩ := List.mem_map.1 ha
    exact bindA_ok hargs hd.ty (hso.addA b hb) (hv.add b hb)
  have hD : ∀ a ∈ s.del.map (bindA args), AtOk a := fun a ha => by
    obtain ⟨b, hb, rfl⟩ := List.mem_map.1 ha
    exact bindA_ok hargs hd.ty (hso.delA b hb) (hv.del b hb)
  have lA : (s.add.map (bindA args)).length ≤ 8 := by rw [List.length_map]; exact hal
  have lD : (s.del.map (bindA args)).length ≤ 8 := by rw [List.length_map]; exact hdl
  have lf := List.length_filter_le (fun a => !decide (a ∈ s.add.map (bindA args))) (s.del.map (bindA args))
  obtain ⟨n1, n2⟩ := needR_out (d := d) (args := args) (l := s.pre) (b := !s.diff.any (sameArg args)) (out := [])
  simp only [List.length_nil] at n1
  have ladd : (addOf (s.add.map (bindA args)) (s.del.map (bindA args))).length ≤ 16 := by
    simp only [addOf, List.length_append, List.length_map]
    omega
  have ldel : (delOf (s.add.map (bindA args)) (s.del.map (bindA args))).length ≤ 16 := by
    simp only [delOf, List.length_append, List.length_map]
    omega
  refine ⟨⟨⟨by simp only; omega, fun y hy => ?_⟩, ⟨by simp only; omega, fun y hy => ?_⟩, ⟨by simp only; omega, fun y hy => ?_⟩⟩, ladd⟩
  · rcases n2 y hy with h | ⟨x, hx, rfl⟩
    · cases h
    · exact bindA_ok hargs hd.ty (hso.preA x hx) (hv.pre x hx)
  · rcases addOf_mem.1 hy with ⟨_, h⟩ | ⟨_, h, _⟩
    · exact hA _ h
    · exact hD _ h
  · rcases delOf_mem.1 hy with ⟨_, h⟩ | ⟨_, h, _⟩
    · exact hA _ h
    · exact hD _ h
def c_R2_grounded : Cmd :=
 (qS [qx 3 2496198 6 0, qq 6 (.alloc 2496390 (.agg [.int .i64 0, .sl .nil [], .sl .nil [], .sl .nil [], .sl .nil [], .sl .nil []])), qq 7 (.alloc 2496450 (.agg [.int .i64 0, .int .i64 0]))]
 (qT (qS [qm 11 1, qn 12 11, qv 13 .gtr [] 12 24, qm 14 13, qg 15 14 false (.mov (.t 2)), qg 16 14 false (.len false (.t 15)), qg 17 14 false (.bin .gtr false [] (.t 16) (.c (.int .i64 40))), qq 18 (.pick (.t 14) (.c (.bool true)) (.t 17))]
 (.cond (.t 18) (.seq (.ops [qq 19 (.build [.int .i64 0, .sl .nil [], .sl .nil [], .sl .nil [], .sl .nil [], .sl .nil []] []), qq 20 (.call .f (.c (.fn 27 [])) [.c (.int .i64 10), .c (.int .i64 (-8))]), qs 6 6 19, qs 2 7 20]) .ret) .skip))
 (.seq (.ops [qm 21 1, qq 22 (.build [.int .i64 0, .sl .nil [], .sl .nil [], .sl .nil [], .sl .nil [], .sl .nil []] [(4 , 1 , .t 21)]), qq 8 (.alloc 2496518 (.agg [.int .i64 0, .sl .nil [], .sl .nil [], .sl .nil [], .sl .nil [], .sl .nil []])), qs 6 8 22]) (.nvb 8 5 2501442 (.nvb 8 3 2501316 (.nvb 8 1 2501185 (.cut (qS [qm 23 1, qn 24 23, qf 25 0 8, qf 26 0 25, qs 1 26 24]
 (qS [qm 27 1, qf 28 5 3, ql 29 1 28, qk 30 89 [27, 29], qf 31 0 8, qf 32 2 31, qs 1 32 30]
 (qT (qS [qc 9 0]
 (.block 0 (.loop (qT (qS [qm 33 9, qm 34 1, qn 35 34, qu 36 .lss [] 33 35]
 (.cond (.t 36) .skip (.exit 0)))
 (qT (.block 1 (qS [qL 39 6 3, qm 40 1, qm 41 9, qi 42 3 40 41, qL 43 3 42, qk 44 47 [39, 43]]
 (.cond (.t 44) (.ops [qf 45 0 8, qf 46 1 45, ql 47 1 46, qm 48 9, qq 49 (.bsl 1 [.t 48]), qq 50 (.append 1 8 3 (.t 47) (.t 49)), qf 51 0 8, qf 52 1 51, qs 1 52 50]) .skip)))
 (.ops [qm 37 9, qv 38 .add [] 37 1, qm 9 38]))))))
 (.seq (qS [qc 10 0]
 (.block 2 (.loop (qT (qS [qm 53 10, qm 54 2, qn 55 54, qu 56 .lss [] 53 55]
 (.cond (.t 56) .skip (.exit 2)))
 (qT (.block 3 (qS [qf 59 0 8, qf 60 3 59, ql 61 1 60, qm 62 1, qm 63 2, qm 64 10, qi 65 8 63 64, qf 66 2 65, ql 67 1 66, qk 68 89 [62, 67], qm 69 1, qm 70 2, qm 71 10, qi 72 8 70 71, qf 73 3 72, ql 74 1 73, qk 75 89 [69, 74], qm 76 1, qm 77 2, qm 78 10, qi 79 8 77 78, qf 80 4 79, ql 81 1 80, qk 82 89 [76, 81], qm 83 2, qm 84 10, qi 85 8 83 84, qf 86 5 85, ql 87 1 86, qq 88 (.build [.sl .nil [], .sl .nil [], .sl .nil [], .int .i64 0] [(0 , 1 , .t 68), (1 , 1 , .t 75), (2 , 1 , .t 82), (3 , 1 , .t 87)]), qq 89 (.bsl 4 [.t 88]), qq 90 (.append 4 80 75 (.t 61) (.t 89)), qf 91 0 8, qf 92 3 91, qs 1 92 90]
 (.ops [qf 93 5 8, ql 94 1 93, qm 95 2, qm 96 10, qi 97 8 95 96, qf 98 0 97, qL 99 2 98, qq 100 (.bsl 2 [.t 99]), qq 101 (.append 2 32 86 (.t 94) (.t 100)), qf 102 5 8, qs 1 102 101])))
 (.ops [qm 57 10, qv 58 .add [] 57 1, qm 10 58])))))) (.fzb 8 5 (.fzb 8 3 (.fzb 8 1 (.cut (.seq (.ops [qL 103 6 8, qq 104 (.build [.int .i64 0, .int .i64 0] []), qs 6 6 103, qs 2 7 104]) .ret))))))))))))))))
def r_R2_grounded : List RVar := [.cell true 6 6, .cell true 2 7]
def n_R2_grounded : Nat := 105
theorem k_R2_grounded : chkFn Go.Proofs.Tryz.prog 39 n_R2_grounded r_R2_grounded c_R2_grounded = true := by kernel_rfl
abbrev guR (F : List Lit) (G I : List Int) (n : Int) (O : List SOp) (N : List (Nat × List Int)) : V := .agg [.int .i64 n, .sl (.own 2501185) (I.map i64V), .sl .p (G.map i64V), .sl (.own 2501316) (O.map soV), .sl .p (F.map litV), .sl (.own 2501442) (N.map insV)]
abbrev guS (d : Dom) (F : List Lit) (I : List Int) (O : List SOp) (N : List (Nat × List Int)) : List (Nat × Blk) := [(2496198, .box (domV d)), (2496390, .box gZn), (2496450, .box (ftV okF)), (2496518, .box (guR F (nums F d.goal) I F.length O N)), (2501185, .vec I.length), (2501316, .vec O.length), (2501442, .vec N.length)]
theorem f_R2_grounded (d : Dom) (ho : DoOk d) (F : List Lit) (L : List Ac) (u : Bool) (hF : GFOk F) (hLl : L.length ≤ 1000000) (hL : ∀ a ∈ L, ActOk a) :
    Fc Go.Proofs.Tryz.prog 39 [domV d, .sl .p (F.map litV), .sl .p (L.map (raU u))] (.tup [grdV (buildG d F L), ftV (buildF F L)]) := by
  have hFl := hF.len
  have hAt := f_R1_At 10 (-8)
  cases hb : bigG F L with
  | true =>
    have e1 : buildG d F L = grZ := by unfold buildG; rw [if_pos hb]
    have e2 : buildF F L = ⟨10, -8⟩ := by unfold buildF; rw [if_pos hb]
    rw [e1, e2]
    have hbig := bigG_yes hb
    clear e1 e2 hb
    refine Fn.step mixed k_R2_grounded ?_
    repeat' (first | refine i_len rfl ?_ | refine i_s rfl ?_ | refine sw ?_ | refine i_gt rfl ?_ | refine i_gf rfl ?_ | refine c_t rfl ?_ | refine i_stb rfl ?_ | refine i_alloc rfl ?_ | refine i_box rfl rfl ?_ | (refine sp ?_ ?_ <;> try intro h) | refine sf rfl rfl hAt ?_ | fail)
    all_goals first
      | exact e_ret ⟨rfl, _, rfl, rfl⟩
      | (exfalso; clear hAt; simp at *; done)
      | (exfalso; clear hAt; simp at *; omega)
  | false =>
    have e1 : buildG d F L = grdOf d F L := by unfold buildG; rw [if_neg (by rw [hb]; simp)]
    have e2 : buildF F L = okF := by unfold buildF; rw [if_neg (by rw [hb]; simp)]
    rw [e1, e2]
    obtain ⟨n24, n40⟩ := bigG_no hb
    clear e1 e2 hb hAt
    have hG := f_R2_numbers F d.goal hFl (by have := ho.goal.1; omega) hF.ok ho.goal.2
    refine Fn.step mixed k_R2_grounded ?_
    repeat' (first | refine i_len rfl ?_ | refine i_s rfl ?_ | refine sw ?_ | refine i_gt rfl ?_ | refine i_gf rfl ?_ | refine c_t rfl ?_ | refine i_stb rfl ?_ | refine i_alloc rfl ?_ | refine i_box rfl rfl ?_ | (refine sp ?_ ?_ <;> try intro h) | fail)
    all_goals first
      | (exfalso; clear hG; simp at *; done)
      | (exfalso; clear hG; simp at *; omega)
      | skip
    refine c_nvb rfl rfl rfl rfl ?_
    refine c_nvb rfl rfl rfl rfl ?_
    refine c_nvb rfl rfl rfl rfl ?_
    repeat' (first | refine i_len rfl ?_ | refine i_s rfl ?_ | refine sw ?_ | refine i_stb rfl ?_ | refine sf rfl rfl hG ?_ | fail)
    clear hG
    refine c_for F.length (fun k => [(1, .sl .p (F.map litV)), (2, .sl .p (L.map (raU u))), (3, .bptr 2496198 0), (6, .bptr 2496390 0), (7, .bptr 2496450 0), (8, .bptr 2496518 0), (9, .int .i64 k)])
      (fun k => guS d F (selK (trueAt d F) k) [] []) (fun _ => True) trivial ft fun k hk _ => ?_
    have hkl := selK_len (trueAt d F) k
    by_cases hlt : k < F.length
    · obtain ⟨x, hx⟩ := get_some hlt
      have hI := f_R2_True d ho x (hF.ok x (mem_get hx))
      have hin : trueAt d F k = trueL d x := by unfold trueAt; rw [hx]
      have hs := selK_succ (trueAt d F) k
      rw [hin] at hs
      cases ht : trueL d x with
      | true =>
        rw [ht] at hI hs
        rw [if_pos rfl] at hs
        repeat' (first | refine i_len rfl ?_ | refine i_s rfl ?_ | refine sw ?_ | refine c_t rfl ?_ | refine jd rfl rfl ?_ | refine c_cond rfl (fun h => ?_) (fun h => ?_) | refine sf rfl rfl hI ?_ | fail)
        all_goals first
          | (exfalso; clear hI; simp at *; done)
          | (exfalso; clear hI; simp at *; omega)
          | skip
        refine i_appM (c := (k : Int)) rfl rfl rfl rfl rfl (by omega) (by omega) ?_
        repeat' (first | refine i_s rfl ?_ | refine sw ?_ | refine ja rfl rfl ?_ | refine i_stb rfl ?_)
        refine e_for hlt trivial ⟨⟨rfl, rfl, rfl, rfl, rfl, rfl, rfl, trivial⟩, ⟨rfl, rfl, rfl, ?_, ?_, rfl, rfl, trivial⟩, rfl⟩
        · rw [hs]; rfl
        · rw [hs]; simp; rfl
      | false =>
        rw [ht] at hI hs
        rw [if_neg (by simp), List.append_nil] at hs
        repeat' (first | refine i_len rfl ?_ | refine i_s rfl ?_ | refine sw ?_ | refine c_f rfl ?_ | refine ja rfl rfl ?_ | refine jd rfl rfl ?_ | refine c_cond rfl (fun h => ?_) (fun h => ?_) | refine sf rfl rfl hI ?_ | fail)
        all_goals first
          | (exfalso; clear hI; simp at *; done)
          | (exfalso; clear hI; simp at *; omega)
          | skip
        refine e_for hlt trivial ⟨⟨rfl, rfl, rfl, rfl, rfl, rfl, rfl, trivial⟩, ⟨rfl, rfl, rfl, ?_, ?_, rfl, rfl, trivial⟩, rfl⟩
        · rw [hs]; rfl
        · rw [hs]; rfl
    have hge : k = F.length := by omega
    subst hge
    clear hkl
    repeat' (first | refine i_len rfl ?_ | refine i_s rfl ?_ | refine sw ?_ | refine c_cond rfl (fun h => ?_) (fun h => ?_))
    all_goals first
      | (exfalso; simp at *; done)
      | (exfalso; simp at *; omega)
      | skip
    refine c_for L.length (fun k => [(1, .sl .p (F.map litV)), (2, .sl .p (L.map (raU u))), (6, .bptr 2496390 0), (7, .bptr 2496450 0), (8, .bptr 2496518 0), (10, .int .i64 k)])
      (fun k => guS d F (initOf d F) ((L.take k).map (opOf F)) ((L.take k).map fun a => (a.sch, a.args))) (fun _ => True) trivial ft fun k hk _ => ?_
    by_cases hlt : k < L.length
    · obtain ⟨a, hx⟩ := get_some hlt
      have hao := hL a (mem_get hx)
      have hP := f_R2_numbers F a.pre hFl (by have := hao.pre.len; omega) hF.ok hao.pre.ok
      have hA := f_R2_numbers F a.add hFl (by have := hao.add.len; omega) hF.ok hao.add.ok
      have hD := f_R2_numbers F a.del hFl (by have := hao.del.len; omega) hF.ok hao.del.ok
      have l1 : ((L.take k).map (opOf F)).length ≤ k := by simp; omega
      have l2 : ((L.take k).map fun a => (a.sch, a.args)).length ≤ k := by simp; omega
      have e1 : (L.take (k + 1)).map (opOf F) = (L.take k).map (opOf F) ++ [opOf F a] := by rw [take_succ_get hx, List.map_append]; rfl
      have e2 : (L.take (k + 1)).map (fun a => (a.sch, a.args)) = (L.take k).map (fun a => (a.sch, a.args)) ++ [(a.sch, a.args)] := by rw [take_succ_get hx, List.map_append]; rfl
      clear hao
      repeat' (first | refine i_len rfl ?_ | refine i_s rfl ?_ | refine sw ?_ | refine jd rfl rfl ?_ | refine c_cond rfl (fun h => ?_) (fun h => ?_) | refine sf rfl rfl hP ?_ | refine sf rfl rfl hA ?_ | refine sf rfl rfl hD ?_ | fail)
      all_goals first
        | (exfalso; clear hP hA hD; simp at *; done)
        | (exfalso; clear hP hA hD; simp at *; omega)
        | skip
      refine i_appM (c := opOf F a) rfl rfl rfl rfl rfl (by omega) (by omega) ?_
      repeat' (first | refine i_s rfl ?_ | refine sw ?_ | refine jd rfl rfl ?_ | refine i_stb rfl ?_)
      refine i_appM (c := (a.sch, a.args)) rfl rfl rfl rfl rfl (by omega) (by omega) ?_
      repeat' (first | refine i_s rfl ?_ | refine sw ?_ | refine ja rfl rfl ?_ | refine i_stb rfl ?_)
      refine e_for hlt trivial ⟨⟨rfl, rfl, rfl, rfl, rfl, rfl, trivial⟩, ⟨rfl, rfl, rfl, ?_, rfl, ?_, ?_, trivial⟩, rfl⟩
      · rw [e1, e2]; rfl
      · rw [e1]; simp; rfl
      · rw [e2]; simp; rfl
    have hge : k = L.length := by omega
    subst hge
    rw [List.take_length]
    repeat' (first | refine i_len rfl ?_ | refine i_s rfl ?_ | refine sw ?_ | refine c_cond rfl (fun h => ?_) (fun h => ?_))
    all_goals first
      | (exfalso; simp at *; done)
      | (exfalso; simp at *; omega)
      | skip
    refine c_fzb rfl rfl rfl rfl ?_
    refine c_fzb rfl rfl rfl rfl ?_
    refine c_fzb rfl rfl rfl rfl ?_
    repeat' (first | refine i_s rfl ?_ | refine sw ?_ | refine i_stb rfl ?_)
    all_goals exact e_ret ⟨rfl, _, rfl, rfl⟩
def c_R2_FullOf : Cmd :=
 (qS [qx 1 896070 6 0, qq 2 (.alloc 896134 (.agg [.int .i64 0, .sl .nil [], .sl .nil [], .sl .nil [], .sl .nil [], .sl .nil []])), qq 3 (.alloc 896194 (.agg [.int .i64 0, .int .i64 0]))]
 (qS [qL 5 6 1, qk 6 8 [5], qq 4 (.alloc 896258 (.agg [.int .i64 0, .int .i64 0])), qs 2 4 6]
 (qT (qS [qf 7 0 4, ql 8 1 7, qv 9 .neq [.i] 8 0]
 (.cond (.t 9) (.seq (.opsT (.node 1 2 (.leaf [0, 1, 2, 3]) (.leaf [0, 2, 1, 3])) [qq 10 (.build [.int .i64 0, .sl .nil [], .sl .nil [], .sl .nil [], .sl .nil [], .sl .nil []] []), qL 11 2 4, qs 6 2 10, qs 2 3 11]) .ret) .skip))
 (.seq (.ops [qL 12 6 1, qL 13 6 1, qk 14 40 [13], qL 15 6 1, qk 16 41 [15], qk 17 39 [12, 14, 16], qq 18 (.extract (.t 17) 0), qq 19 (.extract (.t 17) 1), qs 6 2 18, qs 2 3 19]) .ret))))
def r_R2_FullOf : List RVar := [.cell true 6 2, .cell true 2 3]
def n_R2_FullOf : Nat := 20
theorem k_R2_FullOf : chkFn Go.Proofs.Tryz.prog 14 n_R2_FullOf r_R2_FullOf c_R2_FullOf = true := by kernel_rfl
theorem f_R2_FullOf (d : Dom) (ho : DoOk d) : Fc Go.Proofs.Tryz.prog 14 [domV d] (.tup [grdV (fuG d), ftV (fuF d)]) := by
  have hA := f_R2_AtomsFault d ho
  by_cases h : atF d = okF
  · rw [h] at hA
    have hd := domV_of (atF_dom h).1
    have hL := f_R2_FactList d hd ho
    have hC := f_R2_Acts d hd ho
    have hB := f_R2_grounded d ho (factL d) (actsR d) false (factL_ok hd) (by have := actsR_len hd; omega) (fun a ha => (actsR_ok hd ho ha).1)
    have e1 : fuG d = buildG d (factL d) (actsR d) := by unfold fuG; rw [if_pos h]; exact buildG_same (acts_same d)
    have e2 : fuF d = buildF (factL d) (actsR d) := by unfold fuF; rw [if_pos h]; exact buildF_same (acts_same d)
    rw [e1, e2]
    clear e1 e2
    refine Fn.step mixed k_R2_FullOf ?_
    repeat' (first | refine i_s rfl ?_ | refine sw ?_ | refine c_f rfl ?_ | refine i_stb rfl ?_ | refine i_alloc rfl ?_ | refine i_box rfl rfl ?_ | refine sf rfl rfl hA ?_ | refine sf rfl rfl hL ?_ | refine sf rfl rfl hC ?_ | refine sf rfl rfl hB ?_ | fail)
    all_goals first
      | exact e_ret ⟨rfl, _, rfl, rfl⟩
      | (exfalso; clear hA hL hC hB; simp at *; done)
  · have hc := atF_code h
    have e1 : fuG d = grZ := by unfold fuG; rw [if_neg h]
    have e2 : fuF d = atF d := by unfold fuF; rw [if_neg h]
    rw [e1, e2]
    refine Fn.step mixed k_R2_FullOf ?_
    repeat' (first | refine i_s rfl ?_ | refine sw ?_ | refine i_stb rfl ?_ | refine i_alloc rfl ?_ | refine i_box rfl rfl ?_ | (refine sp ?_ ?_ <;> try intro h) | refine sf rfl rfl hA ?_ | fail)
    all_goals first
      | exact e_ret ⟨rfl, _, rfl, rfl⟩
      | (exfalso; clear hA; simp at *; done)
      | (exfalso; clear hA; simp at *; omega)
theorem i_fap {G : Type} {P : Program} {H : HT G} {pn : List Nat} {Q : Exit → Env → Store → G → Prop} {fs : List (Frm G)} {r : List GItem} {ρ : Env} {σ : Store} {g : G} {d off nm gen i j gen' : Nat} {rows : List V} {x : Opd} (hx : ev ρ x = .ptr nm gen i j) (hs : σ nm = .arr gen' rows) (hg : gen = gen')
    (h : WI P H pn Q fs r (upd ρ d (.ptr nm gen i (j + off))) σ g) : WI P H pn Q fs (.op (some d) none (.faddr off x) :: r) ρ σ g := i_out (by
  simp only [AWop, hx, hs]
  exact ⟨hg, h.out⟩)
def rwK (L : List Ac) (u : List Bool) : List V := List.zipWith (fun a b => raU b a) L u
theorem rwK_get {L : List Ac} {u : List Bool} {k : Nat} {a : Ac} {b : Bool} (h1 : L[k]? = some a) (h2 : u[k]? = some b) : (rwK L u)[k]? = some (raU b a) := by
  unfold rwK
  rw [List.getElem?_zipWith, h1, h2]
theorem rwK_len {L : List Ac} {u : List Bool} (h : u.length = L.length) : (rwK L u).length = L.length := by
  unfold rwK
  rw [List.length_zipWith, h, Nat.min_self]
theorem rwK_set {L : List Ac} {u : List Bool} {k : Nat} {a : Ac} (h1 : L[k]? = some a) (h : u.length = L.length) : (rwK L u).set k (raU true a) = rwK L (u.set k true) := by
  apply List.ext_getElem?
  intro j
  have hk := get_lt h1
  by_cases e : k = j
  · subst e
    rw [List.getElem?_set_self (by rw [rwK_len h]; exact hk), rwK_get h1 (List.getElem?_set_self (by omega))]
  · rw [List.getElem?_set_ne e]
    unfold rwK
    rw [List.getElem?_zipWith, List.getElem?_zipWith, List.getElem?_set_ne e]
theorem rwK_rep (L : List Ac) : rwK L (List.replicate L.length false) = L.map raW := by
  apply List.ext_getElem?
  intro j
  unfold rwK
  rw [List.getElem?_zipWith, List.getElem?_map, List.getElem?_replicate]
  by_cases hj : j < L.length
  · rw [if_pos hj]
    cases L[j]? <;> rfl
  · rw [if_neg hj, List.getElem?_eq_none_iff.2 (by omega)]
    rfl
def RB (F : List Lit) (L : List Ac) (s : RS) : Prop := s.used.length = L.length ∧ s.hv.length + 16 * unused s ≤ F.length + 16 * L.length ∧ ∀ x ∈ s.hv, AtOk x.at_
theorem RB_step {F : List Lit} {L : List Ac} {s : RS} (h : RB F L s) (hL : ∀ a ∈ L, ActOk a ∧ a.add.length ≤ 16) (k : Nat) : RB F L (stepR L s k) := by
  obtain ⟨h1, h2, h3⟩ := h
  refine ⟨by rw [stepR_len]; exact h1, ?_, ?_⟩
  · unfold stepR
    split
    · exact h2
    · rename_i a ha
      split
      · rename_i hc
        have hcnt := count_set hc.1
        have := (hL a (mem_get ha)).2
        simp only [unused, List.length_append] at h2 ⊢
        omega
      · exact h2
  · unfold stepR
    split
    · exact h3
    · rename_i a ha
      split
      · intro x hx
        rcases List.mem_append.1 hx with h | h
        · exact h3 x h
        · exact (hL a (mem_get ha)).1.add.ok x h
      · exact h3
theorem RB_pass {F : List Lit} {L : List Ac} {s : RS} (h : RB F L s) (hL : ∀ a ∈ L, ActOk a ∧ a.add.length ≤ 16) : ∀ k, RB F L (passK L s k)
  | 0 => h
  | k + 1 => by rw [passK_succ]; exact RB_step (RB_pass h hL k) hL k
def c_R2_ReachOf : Cmd :=
 (qS [qx 1 1024070 6 0, qq 2 (.alloc 1024134 (.agg [.int .i64 0, .sl .nil [], .sl .nil [], .sl .nil [], .sl .nil [], .sl .nil []])), qq 3 (.alloc 1024194 (.agg [.int .i64 0, .int .i64 0]))]
 (qS [qL 17 6 1, qk 18 8 [17], qq 4 (.alloc 1024258 (.agg [.int .i64 0, .int .i64 0])), qs 2 4 18]
 (qT (qS [qf 19 0 4, ql 20 1 19, qv 21 .neq [.i] 20 0]
 (.cond (.t 21) (.seq (.opsT (.node 1 2 (.leaf [0, 1, 2, 3]) (.leaf [0, 2, 1, 3])) [qq 22 (.build [.int .i64 0, .sl .nil [], .sl .nil [], .sl .nil [], .sl .nil [], .sl .nil []] []), qL 23 2 4, qs 6 2 22, qs 2 3 23]) .ret) .skip))
 (qS [qL 24 6 1, qk 25 40 [24], qm 5 25]
 (qS [qL 26 6 1, qq 27 (.call (.s [2624200]) (.c (.fn 41 [])) [.t 26]), qm 6 27]
 (qS [qq 7 (.newVec 1024451)]
 (qT (qS [qc 8 0]
 (.block 0 (.loop (qT (qS [qm 28 8, qm 29 5, qn 30 29, qu 31 .lss [] 28 30]
 (.cond (.t 31) .skip (.exit 0)))
 (qT (.block 1 (qS [qL 34 6 1, qm 35 5, qm 36 8, qi 37 3 35 36, qL 38 3 37, qk 39 47 [34, 38]]
 (.cond (.t 39) (.ops [qm 40 7, qm 41 5, qm 42 8, qi 43 3 41 42, qL 44 3 43, qq 45 (.bsl 3 [.t 44]), qq 46 (.append 3 40 54 (.t 40) (.t 45)), qm 7 46]) .skip)))
 (.ops [qm 32 8, qv 33 .add [] 32 1, qm 8 33]))))))
 (qT (qS [qb 9 true]
 (.block 2 (.loop (qT (qS [qm 47 9]
 (.cond (.t 47) .skip (.exit 2)))
 (.block 3 (qS [qb 9 false]
 (qS [qc 10 0]
 (.block 4 (.loop (qT (qS [qm 48 10, qm 49 6, qn 50 49, qu 51 .lss [] 48 50]
 (.cond (.t 51) .skip (.exit 4)))
 (qT (.block 5 (qS [qm 54 6, qm 55 10, qi 56 8 54 55, qf 57 7 56, ql 58 1 57, qq 59 (.not (.t 58)), qm 11 59]
 (qT (qS [qc 12 0]
 (.block 6 (.loop (qT (qS [qm 60 12, qm 61 6, qm 62 10, qi 63 8 61 62, qf 64 2 63, ql 65 1 64, qn 66 65, qu 67 .lss [] 60 66, qm 68 67, qg 69 68 true (.mov (.t 11)), qq 70 (.pick (.t 68) (.t 69) (.c (.bool false)))]
 (.cond (.t 70) .skip (.exit 6)))
 (qT (.block 7 (.ops [qm 73 7, qm 74 6, qm 75 10, qi 76 8 74 75, qf 77 2 76, ql 78 1 77, qm 79 12, qi 80 3 78 79, qL 81 3 80, qk 82 48 [73, 81], qm 11 82]))
 (.ops [qm 71 12, qv 72 .add [] 71 1, qm 12 72]))))))
 (qT (qS [qm 83 11, qq 84 (.not (.t 83))]
 (.cond (.t 84) (.exit 5) .skip))
 (qS [qm 85 6, qm 86 10, qi 87 8 85 86, qf 88 7 87, .op none none (.store 1 (.t 88) (.c (.bool true)))]
 (qS [qb 9 true]
 (.ops [qm 89 7, qm 90 6, qm 91 10, qi 92 8 90 91, qf 93 3 92, ql 94 1 93, qq 95 (.append 3 40 54 (.t 89) (.t 94)), qm 7 95])))))))
 (.ops [qm 52 10, qv 53 .add [] 52 1, qm 10 53]))))))))))))
 (qS [qq 13 (.newVec 1024835)]
 (qT (qS [qc 14 0]
 (.block 8 (.loop (qT (qS [qm 96 14, qm 97 5, qn 98 97, qu 99 .lss [] 96 98]
 (.cond (.t 99) .skip (.exit 8)))
 (qT (.block 9 (qS [qm 102 7, qm 103 5, qm 104 14, qi 105 3 103 104, qL 106 3 105, qk 107 48 [102, 106], qm 108 107, qg 109 108 false (.faddr 5 (.t 1)), qg 110 108 false (.load false 1 (.t 109)), qg 111 108 false (.mov (.t 5)), qg 112 108 false (.mov (.t 14)), qg 113 108 false (.iaddr 3 (.t 111) (.t 112)), qg 114 108 false (.load true 3 (.t 113)), qg 115 108 false (.call .f (.c (.fn 48 [])) [.t 110, .t 114]), qq 116 (.pick (.t 108) (.c (.bool true)) (.t 115))]
 (.cond (.t 116) (.ops [qm 117 13, qm 118 5, qm 119 14, qi 120 3 118 119, qL 121 3 120, qq 122 (.bsl 3 [.t 121]), qq 123 (.append 3 40 54 (.t 117) (.t 122)), qm 13 123]) .skip)))
 (.ops [qm 100 14, qv 101 .add [] 100 1, qm 14 101]))))))
 (qS [qq 15 (.newVec 1024968)]
 (.seq (qS [qc 16 0]
 (.block 10 (.loop (qT (qS [qm 124 16, qm 125 6, qn 126 125, qu 127 .lss [] 124 126]
 (.cond (.t 127) .skip (.exit 10)))
 (qT (.block 11 (qS [qm 130 6, qm 131 16, qi 132 8 130 131, qf 133 7 132, ql 134 1 133]
 (.cond (.t 134) (.ops [qm 135 15, qm 136 6, qm 137 16, qi 138 8 136 137, qL 139 8 138, qq 140 (.bsl 8 [.t 139]), qq 141 (.append 8 120 103 (.t 135) (.t 140)), qm 15 141]) .skip)))
 (.ops [qm 128 16, qv 129 .add [] 128 1, qm 16 129])))))) (.seq (.frz 15) (qT (.frz 13)
 (.seq (.ops [qL 142 6 1, qm 143 13, qm 144 15, qk 145 39 [142, 143, 144], qq 146 (.extract (.t 145) 0), qq 147 (.extract (.t 145) 1), qs 6 2 146, qs 2 3 147]) .ret)))))))))))))))
def r_R2_ReachOf : List RVar := [.cell true 6 2, .cell true 2 3]
def n_R2_ReachOf : Nat := 148
theorem k_R2_ReachOf : chkFn Go.Proofs.Tryz.prog 16 n_R2_ReachOf r_R2_ReachOf c_R2_ReachOf = true := by kernel_rfl
abbrev roE (F : List Lit) (gen n : Nat) (r : List (Nat × V)) : List (Nat × V) := (1, .bptr 1024070 0) :: (2, .bptr 1024134 0) :: (3, .bptr 1024194 0) :: (5, .sl .p (F.map litV)) :: (6, .msl 2624200 gen 0 n) :: r
abbrev roS (d : Dom) (gen : Nat) (rows : List V) (r : List (Nat × Blk)) : List (Nat × Blk) := (1024070, .box (domV d)) :: (1024134, .box gZn) :: (1024194, .box (ftV okF)) :: (2624200, .arr gen rows) :: r
theorem f_R2_ReachOf_ok (d : Dom) (ho : DoOk d) (h : atF d = okF) : Fc Go.Proofs.Tryz.prog 16 [domV d] (.tup [grdV (reG d), ftV (reF d)]) := by
  have hA := f_R2_AtomsFault d ho
  rw [h] at hA
  have hd := domV_of (atF_dom h).1
  have hdg := ho.goal
  have hLi := f_R2_FactList d hd ho
  have hFo := factL_ok hd
  have hLo : ∀ a ∈ actsR d, ActOk a ∧ a.add.length ≤ 16 := fun a ha => actsR_ok hd ho ha
  have hLl := actsR_len hd
  have hAc := ct_R2_Acts (G := Unit) (H := noH) d hd ho ()
  have hB := fun s => f_R2_grounded d ho ((factL d).filter fun x => decide (x ∈ RS.hv s) || decide (x ∈ d.goal)) (rActs (actsR d) s) true ⟨Nat.le_trans (List.length_filter_le _ _) hFo.len, fun x hx => hFo.ok x (List.mem_filter.1 hx).1⟩ (by have := rActs_len (actsR d) s; omega) (fun a ha => (hLo a (rActs_sub ha)).1)
  have e1 : reG d = buildG d ((factL d).filter fun x => decide (x ∈ (rsOf d (actsR d)).hv) || decide (x ∈ d.goal)) (rActs (actsR d) (rsOf d (actsR d))) := by
    unfold reG
    rw [if_pos h, rFacts_same, buildG_same (rActs_same d)]
    rfl
  have e2 : reF d = buildF ((factL d).filter fun x => decide (x ∈ (rsOf d (actsR d)).hv) || decide (x ∈ d.goal)) (rActs (actsR d) (rsOf d (actsR d))) := by
    unfold reF
    rw [if_pos h, rFacts_same, buildF_same (rActs_same d)]
    rfl
  rw [e1, e2]
  have eR : rsOf d (actsR d) = reachF (actsR d) ⟨List.replicate (actsR d).length false, (factL d).filter (trueL d), true⟩ := rfl
  obtain ⟨R, hR⟩ : ∃ R, R = rsOf d (actsR d) := ⟨_, rfl⟩
  rw [← hR]
  rw [← hR] at eR
  clear e1 e2 hR
  obtain ⟨F, hF⟩ : ∃ F, F = factL d := ⟨_, rfl⟩
  obtain ⟨L, hL⟩ : ∃ L, L = actsR d := ⟨_, rfl⟩
  rw [← hF] at hLi hFo eR ⊢
  simp only [← hF, ← hL] at hB
  rw [← hL] at hLo hLl eR ⊢
  rw [← hL] at hAc
  clear hF hL
  have hFl := hFo.len
  replace hB := hB R
  refine Fn.step mixed k_R2_ReachOf ?_
  repeat' (first | refine i_s rfl ?_ | refine sw ?_ | refine c_f rfl ?_ | refine i_stb rfl ?_ | refine i_alloc rfl ?_ | refine i_box rfl rfl ?_ | refine sf rfl rfl hA ?_ | refine sf rfl rfl hLi ?_ | fail)
  all_goals first
    | (exfalso; clear hA hLi hAc hB; simp at *; done)
    | skip
  clear hA hLi
  refine i_cs rfl rfl rfl rfl hAc ?_
  rintro _ _ _ ⟨⟨gen, rfl, rfl⟩, rfl⟩
  clear hAc
  repeat (first | refine i_s rfl ?_ | refine sw ?_ | refine i_nv rfl ?_)
  refine c_for F.length (fun k => roE F gen L.length [(7, .sl (.own 1024451) (((F.take k).filter (trueL d)).map litV)), (8, .int .i64 k)]) (fun k => roS d gen (L.map raW) [(1024451, .vec ((F.take k).filter (trueL d)).length)]) (fun _ => True) trivial ft fun k hk _ => ?_
  by_cases hlt : k < F.length
  · obtain ⟨x, hx⟩ := get_some hlt
    have hT := f_R2_True d ho x (hFo.ok x (mem_get hx))
    have e1 := filter_take_s hx (trueL d)
    have l1 := List.length_filter_le (trueL d) (F.take k)
    have l2 : (F.take k).length ≤ k := by simp; omega
    cases ht : trueL d x with
    | true =>
      rw [ht] at hT
      rw [ht, if_pos rfl] at e1
      repeat' (first | refine i_len rfl ?_ | refine i_s rfl ?_ | refine sw ?_ | refine c_t rfl ?_ | refine jd rfl rfl ?_ | refine c_cond rfl (fun h => ?_) (fun h => ?_) | refine sf rfl rfl hT ?_ | fail)
      all_goals first
        | (exfalso; clear hT; simp at *; done)
        | (exfalso; clear hT; simp at *; omega)
        | skip
      refine i_appM (c := x) rfl rfl rfl rfl rfl (by omega) (by omega) ?_
      repeat' (first | refine i_s rfl ?_ | refine sw ?_ | refine ja rfl rfl ?_ | fail)
      refine e_for hlt trivial ⟨⟨rfl, rfl, rfl, rfl, rfl, ?_, rfl, trivial⟩, ⟨rfl, rfl, rfl, rfl, ?_, trivial⟩, rfl⟩
      · rw [e1]; rfl
      · rw [e1]; simp; rfl
    | false =>
      rw [ht] at hT
      rw [ht, if_neg (by simp), List.append_nil] at e1
      repeat' (first | refine i_len rfl ?_ | refine i_s rfl ?_ | refine sw ?_ | refine c_f rfl ?_ | refine ja rfl rfl ?_ | refine jd rfl rfl ?_ | refine c_cond rfl (fun h => ?_) (fun h => ?_) | refine sf rfl rfl hT ?_ | fail)
      all_goals first
        | (exfalso; clear hT; simp at *; done)
        | (exfalso; clear hT; simp at *; omega)
        | skip
      refine e_for hlt trivial ⟨⟨rfl, rfl, rfl, rfl, rfl, ?_, rfl, trivial⟩, ⟨rfl, rfl, rfl, rfl, ?_, trivial⟩, rfl⟩
      · rw [e1]; rfl
      · rw [e1]; rfl
  have hge : k = F.length := by omega
  subst hge
  rw [List.take_length]
  clear hk hlt
  have hb0 : RB F L ⟨List.replicate L.length false, F.filter (trueL d), true⟩ := by
    refine ⟨by simp, ?_, fun x hx => hFo.ok x (List.mem_filter.1 hx).1⟩
    have := List.length_filter_le (trueL d) F
    simp only [unused, List.count_replicate_self]
    omega
  have hhl : ∀ s, RB F L s → s.hv.length ≤ 1100000 := fun s hs => by have := hs.2.1; omega
  repeat (first | refine i_len rfl ?_ | refine i_s rfl ?_ | refine sw ?_)
  refine c_f (by exact congrArg V.bool (by simp)) ?_
  repeat (first | refine i_s rfl ?_ | refine sw ?_)
  refine c_lp (ι := RS) (fun s => roE F gen L.length [(7, .sl (.own 1024451) (s.hv.map litV)), (9, .bool s.again)]) (fun s => roS d gen (rwK L s.used) [(1024451, .vec s.hv.length)])
    (fun s => RB F L s ∧ reachF L s = R) (fun s => unused s + if s.again = true then 1 else 0) ⟨List.replicate L.length false, F.filter (trueL d), true⟩ ⟨hb0, eR.symm⟩ ⟨⟨rfl, rfl, rfl, rfl, rfl, rfl, rfl, trivial⟩, ⟨rfl, rfl, rfl, ?_, rfl, trivial⟩, rfl⟩ fun s hi => ?_
  · exact congrArg (Blk.arr gen) (rwK_rep L).symm
  clear eR hb0
  obtain ⟨h1, h2⟩ := hi
  repeat (first | refine i_s rfl ?_ | refine sw ?_)
  refine c_cond rfl (fun ha => ?_) (fun ha => ?_)
  · have h3 := reachF_step (acts := L) ha
    rw [h2] at h3
    obtain ⟨p1, p2⟩ := pass_unused L s
    have hrb : ∀ k, RB F L (passK L ⟨s.used, s.hv, false⟩ k) := fun k => RB_pass (s := ⟨s.used, s.hv, false⟩) h1 hLo k
    repeat (first | refine i_s rfl ?_ | refine sw ?_)
    refine c_for L.length (fun k => roE F gen L.length [(7, .sl (.own 1024451) ((passK L ⟨s.used, s.hv, false⟩ k).hv.map litV)), (9, .bool (passK L ⟨s.used, s.hv, false⟩ k).again), (10, .int .i64 k)])
      (fun k => roS d gen (rwK L (passK L ⟨s.used, s.hv, false⟩ k).used) [(1024451, .vec (passK L ⟨s.used, s.hv, false⟩ k).hv.length)]) (fun _ => True) trivial ft fun k hk _ => ?_
    by_cases hlt : k < L.length
    · obtain ⟨a, hx⟩ := get_some hlt
      have hpk := passK_succ L ⟨s.used, s.hv, false⟩ k
      have hrk := hrb k
      generalize hu : passK L ⟨s.used, s.hv, false⟩ (k + 1) = u at *
      generalize passK L ⟨s.used, s.hv, false⟩ k = t at *
      have htl := hhl t hrk
      obtain ⟨r1, r2, r3⟩ := hrk
      obtain ⟨b, hb⟩ := get_some (l := t.used) (k := k) (by omega)
      have hst : stepR L t k = if t.used[k]? = some false ∧ readyB a t.hv = true then ⟨t.used.set k true, t.hv ++ a.add, true⟩ else t := by unfold stepR; rw [hx]
      rw [hst] at hpk
      obtain ⟨hao, ha16⟩ := hLo a (mem_get hx)
      have hpl := hao.pre.len
      have hpo := hao.pre.ok
      have hgk := rwK_get hx hb
      clear hst p1 p2 h3 ha h2 h1 hrb hhl hao
      repeat (first | refine i_s rfl ?_ | refine i_lenm rfl rfl rfl ?_ | refine sw ?_)
      refine c_t (by exact congrArg V.bool (by simp [hlt])) ?_
      repeat (first | refine i_s rfl ?_ | refine sw ?_)
      refine i_ima rfl rfl rfl rfl (by omega) (by omega) rfl ?_
      refine i_fap rfl rfl rfl ?_
      skip
      refine i_ldp (row := raU b a) rfl rfl rfl (by rw [Nat.zero_add, Int.toNat_natCast]; exact hgk) rfl ?_
      repeat (first | refine i_s rfl ?_ | refine sw ?_)
      refine c_lp (ι := Nat × Bool) (fun i => roE F gen L.length [(7, .sl (.own 1024451) (t.hv.map litV)), (9, .bool t.again), (10, .int .i64 k), (11, .bool i.2), (12, .int .i64 i.1)]) (fun i => roS d gen (rwK L t.used) [(1024451, .vec t.hv.length)])
        (fun i => i.1 ≤ a.pre.length ∧ (i.2 && (a.pre.drop i.1).all fun x => decide (x ∈ t.hv)) = (!b && readyB a t.hv)) (fun i => a.pre.length - i.1) (0, !b) ⟨Nat.zero_le _, by rw [List.drop_zero]; rfl⟩ ft fun i hi => ?_
      obtain ⟨j, rd⟩ := i
      obtain ⟨hj, hrd⟩ := hi
      simp only at hj hrd ⊢
      repeat (first | refine i_s rfl ?_ | refine sw ?_)
      refine i_ima rfl rfl rfl rfl (by omega) (by omega) rfl ?_
      refine i_fap rfl rfl rfl ?_
      skip
      refine i_ldp (row := raU b a) rfl rfl rfl (by rw [Nat.zero_add, Int.toNat_natCast]; exact hgk) rfl ?_
      by_cases hgo : j < a.pre.length ∧ rd = true
      · obtain ⟨hjl, hrt⟩ := hgo
        subst hrt
        obtain ⟨x, hxj⟩ := get_some hjl
        have hH := f_R2_HasLiteral t.hv x (by omega) r3 (hpo x (mem_get hxj))
        rw [drop_cons hxj, List.all_cons, Bool.true_and] at hrd
        repeat' (first | refine i_len rfl ?_ | refine i_s rfl ?_ | refine sw ?_ | refine c_t rfl ?_ | refine c_f rfl ?_ | refine i_g rfl (fun h => ?_) (fun h => ?_))
        all_goals first
          | (exfalso; clear hH; simp at *; done)
          | (exfalso; clear hH; simp at *; omega)
          | skip
        refine i_ima rfl rfl rfl rfl (by omega) (by omega) rfl ?_
        refine i_fap rfl rfl rfl ?_
        skip
        refine i_ldp (row := raU b a) rfl rfl rfl (by rw [Nat.zero_add, Int.toNat_natCast]; exact hgk) rfl ?_
        repeat' (first | refine i_s rfl ?_ | refine sw ?_ | refine ja rfl rfl ?_ | refine jd rfl rfl ?_ | refine sf rfl rfl hH ?_ | fail)
        exact e_lp (j + 1, decide (x ∈ t.hv)) ⟨by omega, hrd⟩ (by simp only; omega) ft
      · have hrd2 : rd = (!b && readyB a t.hv) := by
          cases rd with
          | false => simpa using hrd
          | true =>
            have : j = a.pre.length := by
              have : ¬ j < a.pre.length := fun h => hgo ⟨h, rfl⟩
              omega
            rw [this, List.drop_length] at hrd
            simpa using hrd
        clear hrd
        cases hq : (!b && readyB a t.hv) with
        | true =>
          rw [hq] at hrd2
          subst hrd2
          rw [Bool.and_eq_true, Bool.not_eq_true'] at hq
          obtain ⟨hq1, hq2⟩ := hq
          subst hq1
          rw [if_pos ⟨hb, hq2⟩] at hpk
          have hjn : ¬ j < a.pre.length := fun h => hgo ⟨h, rfl⟩
          repeat' (first | refine i_len rfl ?_ | refine i_s rfl ?_ | refine sw ?_ | refine c_t rfl ?_ | refine c_f rfl ?_ | refine i_g rfl (fun h => ?_) (fun h => ?_))
          all_goals first
            | (exfalso; simp at *; done)
            | (exfalso; simp at *; omega)
            | skip
          refine i_ima rfl rfl rfl rfl (by omega) (by omega) rfl ?_
          refine i_fap rfl rfl rfl ?_
          skip
          refine i_stp (row := raU false a) rfl rfl rfl (by rw [Nat.zero_add, Int.toNat_natCast]; exact hgk) rfl rfl ?_
          repeat (first | refine i_s rfl ?_ | refine sw ?_)
          refine i_ima rfl rfl rfl rfl (by omega) (by omega) rfl ?_
          refine i_fap rfl rfl rfl ?_
          skip
          refine i_ldp (row := raU true a) rfl rfl rfl (by rw [Nat.zero_add, Int.toNat_natCast]; exact List.getElem?_set_self (by rw [rwK_len r1]; exact hlt)) rfl ?_
          skip
          refine i_app rfl rfl rfl (by simp) rfl (fun row hrow => ?_) (by simp; omega) (by simp; omega) ?_
          · obtain ⟨y, _, rfl⟩ := List.mem_map.1 hrow
            exact ⟨rfl, rfl⟩
          repeat' (first | refine i_s rfl ?_ | refine sw ?_ | refine ja rfl rfl ?_ | fail)
          refine e_for hlt trivial ⟨⟨rfl, rfl, rfl, rfl, rfl, ?_, ?_, rfl, trivial⟩, ⟨rfl, rfl, rfl, ?_, ?_, trivial⟩, rfl⟩
          · rw [hu, hpk]
            show V.sl _ (_ ++ _) = _
            rw [← List.map_append]
          · rw [hu, hpk]; rfl
          · rw [hu, hpk]
            show Blk.arr gen _ = Blk.arr gen _
            rw [Nat.zero_add, Int.toNat_natCast]
            exact congrArg (Blk.arr gen) (rwK_set hx r1)
          · rw [hu, hpk]
            show Blk.vec _ = Blk.vec _
            simp
        | false =>
          rw [hq] at hrd2
          subst hrd2
          have hcn : ¬ (t.used[k]? = some false ∧ readyB a t.hv = true) := by
            rintro ⟨q1, q2⟩
            rw [hb] at q1
            cases q1
            rw [q2] at hq
            cases hq
          rw [if_neg hcn] at hpk
          subst hpk
          repeat' (first | refine i_len rfl ?_ | refine i_s rfl ?_ | refine sw ?_ | refine c_t rfl ?_ | refine c_f rfl ?_ | refine ja rfl rfl ?_ | refine i_g rfl (fun h => ?_) (fun h => ?_))
          all_goals first
            | (exfalso; simp at *; done)
            | (exfalso; simp at *; omega)
            | (refine e_for hlt trivial ⟨⟨rfl, rfl, rfl, rfl, rfl, ?_, ?_, rfl, trivial⟩, ⟨rfl, rfl, rfl, ?_, ?_, trivial⟩, rfl⟩ <;> (rw [hu]; first | done | rfl))
    have hge : k = L.length := by omega
    subst hge
    repeat' (first | refine i_s rfl ?_ | refine i_lenm rfl rfl rfl ?_ | refine sw ?_ | refine c_cond rfl (fun h => ?_) (fun h => ?_))
    all_goals first
      | (exfalso; simp at *; done)
      | (exfalso; simp at *; omega)
      | skip
    refine e_lp (pass L s) ⟨hrb _, h3.symm⟩ ?_ ft
    rw [ha]
    cases hpa : (pass L s).again with
    | true => have := p2 hpa; simp; omega
    | false => simp; omega
  have h3 := reachF_end (acts := L) ha
  rw [h2] at h3
  subst h3
  clear h2
  have htl := hhl _ h1
  obtain ⟨r1, r2, r3⟩ := h1
  have hpr : ∃ pr : Lit → Bool, pr = fun x => decide (x ∈ R.hv) || decide (x ∈ d.goal) := ⟨_, rfl⟩
  obtain ⟨pr, hpr⟩ := hpr
  rw [← hpr] at hB ⊢
  clear hhl
  repeat (first | refine i_s rfl ?_ | refine sw ?_ | refine i_nv rfl ?_)
  refine c_for F.length (fun k => roE F gen L.length [(7, .sl (.own 1024451) (R.hv.map litV)), (13, .sl (.own 1024835) (((F.take k).filter pr).map litV)), (14, .int .i64 k)])
    (fun k => roS d gen (rwK L R.used) [(1024451, .vec R.hv.length), (1024835, .vec ((F.take k).filter pr).length)]) (fun _ => True) trivial ft fun k hk _ => ?_
  by_cases hlt : k < F.length
  · obtain ⟨x, hx⟩ := get_some hlt
    have hH := f_R2_HasLiteral R.hv x (by omega) r3 (hFo.ok x (mem_get hx))
    have hG := f_R2_HasLiteral d.goal x (by omega) hdg.2 (hFo.ok x (mem_get hx))
    have hpx : pr x = (decide (x ∈ R.hv) || decide (x ∈ d.goal)) := by rw [hpr]
    clear hpr
    have e1 := filter_take_s hx pr
    have l1 := List.length_filter_le pr (F.take k)
    have l2 : (F.take k).length ≤ k := by simp; omega
    generalize decide (x ∈ R.hv) = b1 at *
    generalize decide (x ∈ d.goal) = b2 at *
    cases hpb : pr x with
    | true =>
      rw [hpb, if_pos rfl] at e1
      rw [hpb] at hpx
      repeat' (first | refine i_len rfl ?_ | refine i_s rfl ?_ | refine sw ?_ | refine i_gt rfl ?_ | refine i_gf rfl ?_ | refine c_t rfl ?_ | refine ja rfl rfl ?_ | refine jd rfl rfl ?_ | refine i_nv rfl ?_ | (refine sp ?_ ?_ <;> try intro h) | refine sf rfl rfl hH ?_ | refine sf rfl rfl hG ?_ | fail)
      all_goals first
        | (exfalso; clear hH hG hB e1 r2 r3 hFo hLo hdg; simp at *; done)
        | (exfalso; clear hH hG hB e1 r2 r3 hFo hLo hdg; simp at *; omega)
        | (exfalso; clear hH hG hB e1 r2 r3 hFo hLo hdg; simp_all; done)
        | skip
      all_goals
        refine i_appM (c := x) rfl rfl rfl rfl rfl (by omega) (by omega) ?_
        repeat' (first | refine i_s rfl ?_ | refine sw ?_ | refine ja rfl rfl ?_ | fail)
        refine e_for hlt trivial ⟨⟨rfl, rfl, rfl, rfl, rfl, rfl, ?_, rfl, trivial⟩, ⟨rfl, rfl, rfl, rfl, rfl, ?_, trivial⟩, rfl⟩
        · rw [e1]; rfl
        · rw [e1]; simp; rfl
    | false =>
      rw [hpb, if_neg (by simp), List.append_nil] at e1
      rw [hpb] at hpx
      have hpx := hpx.symm
      rw [Bool.or_eq_false_iff] at hpx
      obtain ⟨hq1, hq2⟩ := hpx
      subst hq1 hq2
      repeat' (first | refine i_len rfl ?_ | refine i_s rfl ?_ | refine sw ?_ | refine i_gt rfl ?_ | refine c_f rfl ?_ | refine ja rfl rfl ?_ | refine jd rfl rfl ?_ | refine i_nv rfl ?_ | refine c_cond rfl (fun h => ?_) (fun h => ?_) | refine sf rfl rfl hH ?_ | refine sf rfl rfl hG ?_ | fail)
      all_goals first
        | (refine e_for hlt trivial ⟨⟨rfl, rfl, rfl, rfl, rfl, rfl, ?_, rfl, trivial⟩, ⟨rfl, rfl, rfl, rfl, rfl, ?_, trivial⟩, rfl⟩ <;> (rw [e1]; rfl))
        | (exfalso; clear hH hG hB e1 r2 r3 hFo hLo hdg hpb; simp at *; done)
        | (exfalso; clear hH hG hB e1 r2 r3 hFo hLo hdg hpb; simp at *; omega)
  have hge : k = F.length := by omega
  subst hge
  rw [List.take_length]
  clear hk hlt
  generalize F.filter pr = A at *
  repeat (first | refine i_len rfl ?_ | refine i_s rfl ?_ | refine sw ?_)
  refine c_f (by exact congrArg V.bool (by simp)) ?_
  repeat (first | refine i_s rfl ?_ | refine sw ?_ | refine i_nv rfl ?_)
  refine c_for L.length (fun k => roE F gen L.length [(13, .sl (.own 1024835) (A.map litV)), (15, .sl (.own 1024968) ((pickU L R.used k).map (raU true))), (16, .int .i64 k)])
    (fun k => roS d gen (rwK L R.used) [(1024835, .vec A.length), (1024968, .vec (pickU L R.used k).length)]) (fun _ => True) trivial ft fun k hk _ => ?_
  by_cases hlt : k < L.length
  · obtain ⟨a, hx⟩ := get_some hlt
    obtain ⟨b, hb⟩ := get_some (l := R.used) (k := k) (by omega)
    have e1 := pickU_succ L R.used k
    rw [hb, hx] at e1
    have hgk := rwK_get hx hb
    have l1 : (pickU L R.used k).length ≤ k := by
      unfold pickU
      exact Nat.le_trans (List.length_filterMap_le _ _) (by simp)
    cases b with
    | true =>
      rw [if_pos rfl] at e1
      have e1 : pickU L R.used (k + 1) = pickU L R.used k ++ [a] := e1
      repeat (first | refine i_s rfl ?_ | refine i_lenm rfl rfl rfl ?_ | refine sw ?_)
      refine c_t (by exact congrArg V.bool (by simp [hlt])) ?_
      repeat (first | refine i_s rfl ?_ | refine sw ?_)
      refine i_ima rfl rfl rfl rfl (by omega) (by omega) rfl ?_
      refine i_fap rfl rfl rfl ?_
      skip
      refine i_ldp (row := raU true a) rfl rfl rfl (by rw [Nat.zero_add, Int.toNat_natCast]; exact hgk) rfl ?_
      repeat' (first | refine i_s rfl ?_ | refine sw ?_ | refine c_t rfl ?_)
      all_goals first
        | (exfalso; simp at *; done)
        | (exfalso; simp at *; omega)
        | skip
      refine i_ima rfl rfl rfl rfl (by omega) (by omega) rfl ?_
      skip
      refine i_ldp (row := raU true a) rfl rfl rfl (by rw [Nat.zero_add, Int.toNat_natCast]; exact hgk) rfl ?_
      repeat refine i_s rfl ?_
      refine i_appM (c := a) rfl rfl rfl rfl rfl (by omega) (by omega) ?_
      repeat' (first | refine i_s rfl ?_ | refine sw ?_ | refine ja rfl rfl ?_ | fail)
      refine e_for hlt trivial ⟨⟨rfl, rfl, rfl, rfl, rfl, rfl, ?_, rfl, trivial⟩, ⟨rfl, rfl, rfl, rfl, rfl, ?_, trivial⟩, rfl⟩
      · rw [e1]; rfl
      · rw [e1]; simp; rfl
    | false =>
      rw [if_neg (by simp)] at e1
      have e1 : pickU L R.used (k + 1) = pickU L R.used k := by rw [e1]; simp
      repeat (first | refine i_s rfl ?_ | refine i_lenm rfl rfl rfl ?_ | refine sw ?_)
      refine c_t (by exact congrArg V.bool (by simp [hlt])) ?_
      repeat (first | refine i_s rfl ?_ | refine sw ?_)
      refine i_ima rfl rfl rfl rfl (by omega) (by omega) rfl ?_
      refine i_fap rfl rfl rfl ?_
      skip
      refine i_ldp (row := raU false a) rfl rfl rfl (by rw [Nat.zero_add, Int.toNat_natCast]; exact hgk) rfl ?_
      repeat' (first | refine i_s rfl ?_ | refine sw ?_ | refine c_f rfl ?_ | refine ja rfl rfl ?_ | fail)
      all_goals first
        | (exfalso; simp at *; done)
        | (exfalso; simp at *; omega)
        | skip
      refine e_for hlt trivial ⟨⟨rfl, rfl, rfl, rfl, rfl, rfl, ?_, rfl, trivial⟩, ⟨rfl, rfl, rfl, rfl, rfl, ?_, trivial⟩, rfl⟩
      · rw [e1]; rfl
      · rw [e1]; rfl
  have hge : k = L.length := by omega
  subst hge
  repeat (first | refine i_s rfl ?_ | refine i_lenm rfl rfl rfl ?_ | refine sw ?_)
  refine c_f (by exact congrArg V.bool (by simp)) ?_
  repeat refine sw ?_
  refine c_frzv rfl rfl ?_
  repeat refine sw ?_
  refine c_frzv rfl rfl ?_
  repeat' (first | refine i_s rfl ?_ | refine sw ?_ | refine i_stb rfl ?_ | refine sf rfl rfl hB ?_ | fail)
  all_goals exact e_ret ⟨rfl, _, rfl, rfl⟩
theorem f_R2_ReachOf (d : Dom) (ho : DoOk d) : Fc Go.Proofs.Tryz.prog 16 [domV d] (.tup [grdV (reG d), ftV (reF d)]) := by
  by_cases h : atF d = okF
  · exact f_R2_ReachOf_ok d ho h
  · have hA := f_R2_AtomsFault d ho
    have hc := atF_code h
    have e1 : reG d = grZ := by unfold reG; rw [if_neg h]
    have e2 : reF d = atF d := by unfold reF; rw [if_neg h]
    rw [e1, e2]
    refine Fn.step mixed k_R2_ReachOf ?_
    repeat' (first | refine i_s rfl ?_ | refine sw ?_ | refine i_stb rfl ?_ | refine i_alloc rfl ?_ | refine i_box rfl rfl ?_ | (refine sp ?_ ?_ <;> try intro h) | refine sf rfl rfl hA ?_ | fail)
    all_goals first
      | exact e_ret ⟨rfl, _, rfl, rfl⟩
      | (exfalso; clear hA; simp at *; done)
      | (exfalso; clear hA; simp at *; omega)
structure GrOk (g : Grd) : Prop where
  sk : SkOk g.task
  f : GFOk g.facts
  n : g.insts.length ≤ 1000000
  a : ∀ i ∈ g.insts, i.2.length ≤ 1000
theorem grZ_ok : GrOk grZ := by
  refine ⟨⟨by simp [grZ, skZ], by simp [grZ, skZ], by simp [grZ, skZ], fun o ho => by simp [grZ, skZ] at ho⟩, ⟨by simp [grZ], fun x hx => by simp [grZ] at hx⟩, by simp [grZ], fun i hi => by simp [grZ] at hi⟩
theorem nums_len (F l : List Lit) : (nums F l).length ≤ F.length := selK_len _ _
theorem buildG_ok {d : Dom} {F : List Lit} {L : List Ac} (hF : GFOk F) (hL : L.length ≤ 1000000) (ha : ∀ a ∈ L, a.args.length ≤ 1000) : GrOk (buildG d F L) := by
  unfold buildG
  split
  · exact grZ_ok
  · have := hF.len
    refine ⟨⟨?_, ?_, ?_, fun o ho => ?_⟩, hF, by simpa [grdOf] using hL, fun i hi => ?_⟩
    · have h := selK_len (trueAt d F) F.length
      show (initOf d F).length ≤ _
      unfold initOf
      omega
    · have h := nums_len F d.goal
      show (nums F d.goal).length ≤ _
      omega
    · simp only [grdOf, List.length_map]; omega
    · simp only [grdOf, List.mem_map] at ho
      obtain ⟨a, h1, rfl⟩ := ho
      have q1 := nums_len F a.pre
      have q2 := nums_len F a.add
      have q3 := nums_len F a.del
      simp only [opOf]
      exact ⟨by omega, by omega, by omega⟩
    · simp only [grdOf, List.mem_map] at hi
      obtain ⟨a, h1, rfl⟩ := hi
      exact ha a h1
theorem actsP_args {d : Dom} (hd : DomV d) {a : Ac} (h : a ∈ actsP d) : a.args.length ≤ 1000 := by
  obtain ⟨i, s, args, n, hs, hl, _, _, rfl⟩ := actsP_mem h
  have := (argL_rng hl).1
  have := (schV2_of hd hs).val.types.1
  simp only
  omega
theorem rF_ok {d : Dom} (hd : DomV d) (s : RS) : GFOk (rFacts d s) := ⟨Nat.le_trans (List.length_filter_le _ _) (factL_ok hd).len, fun x hx => (factL_ok hd).ok x (List.mem_filter.1 hx).1⟩
theorem fuG_ok (d : Dom) : GrOk (fuG d) := by
  unfold fuG
  split
  · rename_i h
    have hd := domV_of (atF_dom h).1
    exact buildG_ok (factL_ok hd) (by have := actsP_len hd; omega) (fun a ha => actsP_args hd ha)
  · exact grZ_ok
theorem reG_ok (d : Dom) : GrOk (reG d) := by
  unfold reG
  split
  · rename_i h
    have hd := domV_of (atF_dom h).1
    exact buildG_ok (rF_ok hd _) (by have := actsP_len hd; have := rActs_len (actsP d) (rsOf d (actsP d)); omega) (fun a ha => actsP_args hd (rActs_sub ha))
  · exact grZ_ok
def c_R2_SameGrounding : Cmd :=
 (qS [qx 2 1088134 6 0, qx 3 1088198 6 1, qb 4 false]
 (qT (qS [qf 6 0 2, qL 7 4 6, qf 8 0 3, qL 9 4 8, qk 10 31 [7, 9], qq 11 (.not (.t 10)), qm 12 11, qg 13 12 false (.faddr 4 (.t 2)), qg 14 12 false (.load false 1 (.t 13)), qg 15 12 false (.faddr 4 (.t 3)), qg 16 12 false (.load false 1 (.t 15)), qg 17 12 false (.call .f (.c (.fn 49 [])) [.t 14, .t 16]), qg 18 12 false (.not (.t 17)), qq 19 (.pick (.t 12) (.c (.bool true)) (.t 18)), qm 20 19, qg 21 20 false (.faddr 5 (.t 2)), qg 22 20 false (.load false 1 (.t 21)), qg 23 20 false (.len false (.t 22)), qg 24 20 false (.faddr 5 (.t 3)), qg 25 20 false (.load false 1 (.t 24)), qg 26 20 false (.len false (.t 25)), qg 27 20 false (.bin .neq false [.i] (.t 23) (.t 26)), qq 28 (.pick (.t 20) (.c (.bool true)) (.t 27))]
 (.cond (.t 28) (.seq (.ops [qb 4 false]) .ret) .skip))
 (qT (qS [qc 5 0]
 (.block 0 (.loop (qT (qS [qm 29 5, qf 30 5 2, ql 31 1 30, qn 32 31, qu 33 .lss [] 29 32]
 (.cond (.t 33) .skip (.exit 0)))
 (qT (.block 1 (qS [qf 36 5 2, ql 37 1 36, qm 38 5, qi 39 2 37 38, qf 40 0 39, ql 41 1 40, qf 42 5 3, ql 43 1 42, qm 44 5, qi 45 2 43 44, qf 46 0 45, ql 47 1 46, qu 48 .neq [.i] 41 47, qm 49 48, qg 50 49 false (.faddr 5 (.t 2)), qg 51 49 false (.load false 1 (.t 50)), qg 52 49 false (.mov (.t 5)), qg 53 49 false (.iaddr 2 (.t 51) (.t 52)), qg 54 49 false (.faddr 1 (.t 53)), qg 55 49 false (.load false 1 (.t 54)), qg 56 49 false (.faddr 5 (.t 3)), qg 57 49 false (.load false 1 (.t 56)), qg 58 49 false (.mov (.t 5)), qg 59 49 false (.iaddr 2 (.t 57) (.t 58)), qg 60 49 false (.faddr 1 (.t 59)), qg 61 49 false (.load false 1 (.t 60)), qg 62 49 false (.call .f (.c (.fn 50 [])) [.t 55, .t 61]), qg 63 49 false (.not (.t 62)), qq 64 (.pick (.t 49) (.c (.bool true)) (.t 63))]
 (.cond (.t 64) (.seq (.ops [qb 4 false]) .ret) .skip)))
 (.ops [qm 34 5, qv 35 .add [] 34 1, qm 5 35]))))))
 (.seq (.ops [qb 4 true]) .ret))))
def r_R2_SameGrounding : List RVar := [.tmp 4]
def n_R2_SameGrounding : Nat := 65
theorem k_R2_SameGrounding : chkFn Go.Proofs.Tryz.prog 17 n_R2_SameGrounding r_R2_SameGrounding c_R2_SameGrounding = true := by kernel_rfl
theorem f_R2_SameGrounding (g : Grd) (ho : GrOk g) : Fc Go.Proofs.Tryz.prog 17 [grdV g, grdV g] (.bool true) := by
  have hT := f_R1_SameTask g.task ho.sk
  have hfl := ho.f.len
  have hL := f_R1_SameLiterals g.facts g.facts (by omega) (by omega) ho.f.ok ho.f.ok
  rw [decide_eq_true rfl] at hL
  have hn := ho.n
  have ha := ho.a
  clear ho
  refine Fn.step mixed k_R2_SameGrounding ?_
  repeat' (first | refine i_len rfl ?_ | refine i_s rfl ?_ | refine sw ?_ | refine i_gt rfl ?_ | refine i_box rfl rfl ?_ | refine c_cond rfl (fun h => ?_) (fun h => ?_) | refine sf rfl rfl hT ?_ | refine sf rfl rfl hL ?_ | fail)
  all_goals first
    | (exfalso; clear hT hL; simp at *; done)
    | skip
  refine c_for g.insts.length (fun k => [(2, .bptr 1088134 0), (3, .bptr 1088198 0), (5, .int .i64 k)]) (fun _ => [(1088134, .box (grdV g)), (1088198, .box (grdV g))]) (fun _ => True) trivial ft fun k hk _ => ?_
  by_cases hlt : k < g.insts.length
  · obtain ⟨i, hx⟩ := get_some hlt
    have hI := f_Ints_eq i.2 (by have := ha i (mem_get hx); omega)
    clear hT hL
    repeat' (first | refine i_len rfl ?_ | refine i_s rfl ?_ | refine sw ?_ | refine i_gt rfl ?_ | refine i_gf rfl ?_ | refine c_t rfl ?_ | refine c_f rfl ?_ | refine ja rfl rfl ?_ | refine jd rfl rfl ?_ | (refine sp ?_ ?_ <;> try intro h) | refine sf rfl rfl hI ?_ | fail)
    all_goals first
      | exact e_for hlt trivial ft
      | (exfalso; clear hI; simp at *; done)
      | (exfalso; clear hI; simp at *; omega)
  have hge : k = g.insts.length := by omega
  subst hge
  clear hT hL
  repeat' (first | refine i_len rfl ?_ | refine i_s rfl ?_ | refine sw ?_ | refine c_cond rfl (fun h => ?_) (fun h => ?_))
  all_goals first
    | exact e_ret ⟨rfl, _, rfl, rfl⟩
    | (exfalso; simp at *; done)
    | (exfalso; simp at *; omega)
def c_L1_GroundMatchesSpec : Cmd :=
 (qS [qx 1 256070 6 0, qb 2 false]
 (qT (qS [qk 11 10 [], qq 12 (.not (.t 11))]
 (.cond (.t 12) (.seq (.ops [qb 2 false]) .ret) .skip))
 (qS [qL 14 6 1, qk 15 13 [14], qm 13 15, qq 16 (.extract (.t 13) 0), qq 17 (.extract (.t 13) 1), qq 3 (.alloc 256198 (.agg [.int .i64 0, .sl .nil [], .sl .nil [], .sl .nil [], .sl .nil [], .sl .nil []])), qq 4 (.alloc 256258 (.agg [.int .i64 0, .int .i64 0])), qs 6 3 16, qs 2 4 17]
 (qS [qL 19 6 1, qk 20 14 [19], qm 18 20, qq 21 (.extract (.t 18) 0), qq 22 (.extract (.t 18) 1), qq 5 (.alloc 256326 (.agg [.int .i64 0, .sl .nil [], .sl .nil [], .sl .nil [], .sl .nil [], .sl .nil []])), qq 6 (.alloc 256386 (.agg [.int .i64 0, .int .i64 0])), qs 6 5 21, qs 2 6 22]
 (qS [qL 24 6 1, qk 25 15 [24], qm 23 25, qq 26 (.extract (.t 23) 0), qq 27 (.extract (.t 23) 1), qq 7 (.alloc 256454 (.agg [.int .i64 0, .sl .nil [], .sl .nil [], .sl .nil [], .sl .nil [], .sl .nil []])), qq 8 (.alloc 256514 (.agg [.int .i64 0, .int .i64 0])), qs 6 7 26, qs 2 8 27]
 (qS [qL 29 6 1, qk 30 16 [29], qm 28 30, qq 31 (.extract (.t 28) 0), qq 32 (.extract (.t 28) 1), qq 9 (.alloc 256582 (.agg [.int .i64 0, .sl .nil [], .sl .nil [], .sl .nil [], .sl .nil [], .sl .nil []])), qq 10 (.alloc 256642 (.agg [.int .i64 0, .int .i64 0])), qs 6 9 31, qs 2 10 32]
 (.seq (.ops [qL 33 2 4, qL 34 2 6, qq 35 (.bin .eql true [.i, .i] (.t 33) (.t 34)), qm 36 35, qg 37 36 true (.load true 6 (.t 3)), qg 38 36 true (.load true 6 (.t 5)), qg 39 36 true (.call .f (.c (.fn 17 [])) [.t 37, .t 38]), qq 40 (.pick (.t 36) (.t 39) (.c (.bool false))), qm 41 40, qg 42 41 true (.load true 2 (.t 8)), qg 43 41 true (.load true 2 (.t 10)), qg 44 41 true (.bin .eql true [.i, .i] (.t 42) (.t 43)), qq 45 (.pick (.t 41) (.t 44) (.c (.bool false))), qm 46 45, qg 47 46 true (.load true 6 (.t 7)), qg 48 46 true (.load true 6 (.t 9)), qg 49 46 true (.call .f (.c (.fn 17 [])) [.t 47, .t 48]), qq 50 (.pick (.t 46) (.t 49) (.c (.bool false))), qm 2 50]) .ret)))))))
def r_L1_GroundMatchesSpec : List RVar := [.tmp 2]
def n_L1_GroundMatchesSpec : Nat := 51
theorem k_L1_GroundMatchesSpec : chkFn Go.Proofs.Tryz.prog 4 n_L1_GroundMatchesSpec r_L1_GroundMatchesSpec c_L1_GroundMatchesSpec = true := by kernel_rfl
theorem f_L1_GroundMatchesSpec (d : Dom) (ho : DoOk d) : Fc Go.Proofs.Tryz.prog 4 [domV d] (.bool true) := by
  have hG := f_L1_grounds
  have h1 := f_Full d ho
  have h2 := f_R2_FullOf d ho
  have h3 := f_Reach d ho
  have h4 := f_R2_ReachOf d ho
  have s1 := f_R2_SameGrounding (fuG d) (fuG_ok d)
  have s2 := f_R2_SameGrounding (reG d) (reG_ok d)
  generalize fuG d = a at *
  generalize reG d = b at *
  generalize fuF d = f at *
  generalize reF d = g at *
  refine Fn.step mixed k_L1_GroundMatchesSpec ?_
  repeat' (first | refine i_s rfl ?_ | refine sw ?_ | refine i_gt rfl ?_ | refine i_gf rfl ?_ | refine c_f rfl ?_ | refine i_stb rfl ?_ | refine i_alloc rfl ?_ | refine i_box rfl rfl ?_ | refine i_g rfl (fun h => ?_) (fun h => ?_) | refine sf rfl rfl hG ?_ | refine sf rfl rfl h1 ?_ | refine sf rfl rfl h2 ?_ | refine sf rfl rfl h3 ?_ | refine sf rfl rfl h4 ?_ | refine sf rfl rfl s1 ?_ | refine sf rfl rfl s2 ?_ | fail)
  all_goals first
    | exact e_ret ⟨rfl, _, rfl, rfl⟩
    | (exfalso; clear hG h1 h2 h3 h4 s1 s2; simp at *; done)
    | skip
end Hm
end
