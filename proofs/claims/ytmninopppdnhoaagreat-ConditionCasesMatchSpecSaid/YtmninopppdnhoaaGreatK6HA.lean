/- Part K6HA of the proof. -/
import Derived.Test.YtmninopppdnhoaaGreatKHA
import Derived.Test.YtmninopppdnhoaaGreatK6PA
set_option linter.unusedVariables false
set_option linter.unusedSimpArgs false
section
namespace Hm
open Go
set_option maxRecDepth 100000
set_option maxHeartbeats 4000000
def c_R2_LiteralOrder : Cmd :=
 (qS [qx 2 8384131 3 0, qx 3 8384195 3 1, qc 4 0]
 (qS [qf 6 1 2, qL 7 2 6, qf 8 1 3, qL 9 2 8, qk 10 96 [7, 9], qm 5 10]
 (qT (qS [qm 11 5, qv 12 .eql [.i] 11 0, qm 13 12, qg 14 13 true (.faddr 0 (.t 2)), qg 15 13 true (.load false 1 (.t 14)), qg 16 13 true (.faddr 0 (.t 3)), qg 17 13 true (.load false 1 (.t 16)), qg 18 13 true (.bin .neq false [.b] (.t 15) (.t 17)), qq 19 (.pick (.t 13) (.t 18) (.c (.bool false)))]
 (.cond (.t 19) (qS [qc 5 (-1)]
 (qS [qf 20 0 2, ql 21 1 20]
 (.cond (.t 21) (.ops [qc 5 1]) .skip))) .skip))
 (.seq (.ops [qm 22 5, qm 4 22]) .ret))))
def r_R2_LiteralOrder : List RVar := [.tmp 4]
def n_R2_LiteralOrder : Nat := 23
theorem k_R2_LiteralOrder : chkFn Go.Proofs.Tryz.prog 131 n_R2_LiteralOrder r_R2_LiteralOrder c_R2_LiteralOrder = true := by kernel_rfl
theorem f_R2_LiteralOrder (x y : Lit) (hx : AtOk x.at_) (hy : AtOk y.at_) : Fc Go.Proofs.Tryz.prog 131 [litV x, litV y] (.int .i64 (litOrd x y)) := by
  have hO := f_R1_AtomOrder x.at_ y.at_ hx hy
  unfold litOrd
  obtain ⟨xn, xa⟩ := x
  obtain ⟨yn, ya⟩ := y
  simp only at hO ⊢
  generalize atomOrd xa ya = o at *
  clear hx hy
  refine Fn.step mixed k_R2_LiteralOrder ?_
  by_cases h0 : o = 0
  all_goals cases xn <;> cases yn
  all_goals
    repeat' (first | refine i_s rfl ?_ | refine sw ?_ | refine i_gt rfl ?_ | refine i_gf rfl ?_ | refine c_t rfl ?_ | refine c_f rfl ?_ | refine i_box rfl rfl ?_ | refine i_g rfl (fun h => ?_) (fun h => ?_) | refine sf rfl rfl hO ?_ | fail)
  all_goals first
    | (refine e_ret ⟨rfl, _, rfl, congrArg (V.int .i64) ?_⟩; clear hO; simp_all; done)
    | (exfalso; clear hO; simp_all; done)
def c_R2_HasLiteral : Cmd :=
 (qS [qx 3 7680195 3 1, qb 4 false]
 (qT (qS [qc 5 0]
 (.block 0 (.loop (qT (qS [qm 6 5, qm 7 0, qn 8 7, qu 9 .lss [] 6 8]
 (.cond (.t 9) .skip (.exit 0)))
 (qT (.block 1 (qS [qm 12 0, qm 13 5, qi 14 3 12 13, qL 15 3 14, qL 16 3 3, qk 17 131 [15, 16], qv 18 .eql [.i] 17 0]
 (.cond (.t 18) (.seq (.ops [qb 4 true]) .ret) .skip)))
 (.ops [qm 10 5, qv 11 .add [] 10 1, qm 5 11]))))))
 (.seq (.ops [qb 4 false]) .ret)))
def r_R2_HasLiteral : List RVar := [.tmp 4]
def n_R2_HasLiteral : Nat := 19
theorem k_R2_HasLiteral : chkFn Go.Proofs.Tryz.prog 120 n_R2_HasLiteral r_R2_HasLiteral c_R2_HasLiteral = true := by kernel_rfl
theorem f_R2_HasLiteral (l : List Lit) (x : Lit) (hl : l.length ≤ 140737488355328) (ho : ∀ y ∈ l, AtOk y.at_) (hx : AtOk x.at_) : Fc Go.Proofs.Tryz.prog 120 [caV l, litV x] (.bool (decide (x ∈ l))) := by
  unfold caV
  refine Fn.step mixed k_R2_HasLiteral ?_
  repeat' (first | refine i_s rfl ?_ | refine sw ?_ | refine i_box rfl rfl ?_)
  refine c_for l.length (fun k => [(0, .sl .p (l.map litV)), (3, .bptr 7680195 0), (5, .int .i64 k)]) (fun _ => [(7680195, .box (litV x))]) (fun k => x ∉ l.take k) (by simp) ft fun k hk hi => ?_
  by_cases hlt : k < l.length
  · obtain ⟨y, hy⟩ := get_some hlt
    have hS := f_R2_LiteralOrder y x (ho y (mem_get hy)) hx
    by_cases e : y = x
    · rw [decide_eq_true (e ▸ mem_get hy : x ∈ l)]
      rw [litOrd_zero.2 e] at hS
      clear hi ho
      repeat' (first | refine i_len rfl ?_ | refine i_s rfl ?_ | refine sw ?_ | refine c_t rfl ?_ | refine jd rfl rfl ?_ | refine c_cond rfl (fun h => ?_) (fun h => ?_) | refine sf rfl rfl hS ?_ | fail)
      all_goals first
        | exact e_ret ⟨rfl, _, rfl, rfl⟩
        | (exfalso; clear hS; simp at *; done)
        | (exfalso; clear hS; simp at *; omega)
    · have hne : litOrd y x ≠ 0 := fun h => e (litOrd_zero.1 h)
      have hstep : x ∉ l.take (k + 1) := by rw [take_succ_get hy]; simp only [List.mem_append, List.mem_singleton, not_or]; exact ⟨hi, fun h => e h.symm⟩
      generalize litOrd y x = o at *
      clear hi ho
      repeat' (first | refine i_len rfl ?_ | refine i_s rfl ?_ | refine sw ?_ | refine ja rfl rfl ?_ | refine jd rfl rfl ?_ | refine c_cond rfl (fun h => ?_) (fun h => ?_) | refine sf rfl rfl hS ?_ | fail)
      all_goals first
        | (exact e_for hlt hstep ft)
        | (exfalso; clear hS; simp_all; done)
        | (exfalso; clear hS hstep; simp at *; omega)
  · rw [List.take_of_length_le (by omega)] at hi
    rw [decide_eq_false hi]
    clear hi ho
    repeat' (first | refine i_len rfl ?_ | refine i_s rfl ?_ | refine sw ?_ | refine c_cond rfl (fun h => ?_) (fun h => ?_))
    all_goals first
      | exact e_ret ⟨rfl, _, rfl, rfl⟩
      | (exfalso; simp at *; done)
      | (exfalso; simp at *; omega)
def c_R2_Opposite : Cmd :=
 (qS [qx 1 7744067 3 0, qq 2 (.alloc 7744131 (.agg [.bool false, .int .i64 0, .sl .nil []]))]
 (.seq (.ops [qf 3 0 1, ql 4 1 3, qq 5 (.not (.t 4)), qf 6 1 1, qL 7 2 6, qq 8 (.build [.bool false, .int .i64 0, .sl .nil []] [(0 , 1 , .t 5), (1 , 2 , .t 7)]), qs 3 2 8]) .ret))
def r_R2_Opposite : List RVar := [.cell true 3 2]
def n_R2_Opposite : Nat := 9
theorem k_R2_Opposite : chkFn Go.Proofs.Tryz.prog 121 n_R2_Opposite r_R2_Opposite c_R2_Opposite = true := by kernel_rfl
theorem f_R2_Opposite (x : Lit) : Fc Go.Proofs.Tryz.prog 121 [litV x] (litV (opp x)) := by
  refine Fn.step mixed k_R2_Opposite ?_
  repeat' (first | refine i_s rfl ?_ | refine sw ?_ | refine i_stb rfl ?_ | refine i_alloc rfl ?_ | refine i_box rfl rfl ?_)
  exact e_ret ⟨rfl, _, rfl, rfl⟩
theorem twl_all {α : Type} {p : α → Bool} : ∀ {a : List α} {b : List α}, (∀ y ∈ a, p y = true) → (∀ y r, b = y :: r → p y = false) → (a ++ b).takeWhile p = a ∧ (a ++ b).dropWhile p = b
  | [], b, _, h2 => by
    cases b with
    | nil => exact ⟨rfl, rfl⟩
    | cons y r => have := h2 y r rfl; simp [List.takeWhile, List.dropWhile, this]
  | x :: a, b, h1, h2 => by
    obtain ⟨e1, e2⟩ := twl_all (a := a) (b := b) (fun y hy => h1 y (by simp [hy])) h2
    have hx := h1 x (by simp)
    simp [List.takeWhile, List.dropWhile, hx, e1, e2]
theorem withL_at {l : List Lit} {x : Lit} {k : Nat} (hx : x ∉ l) (h1 : ∀ y ∈ l.take k, litOrd y x < 0) (h2 : ∀ y, l[k]? = some y → ¬ litOrd y x < 0) : withL l x = l.take k ++ x :: l.drop k := by
  unfold withL
  rw [if_neg hx]
  have key := twl_all (p := fun y => decide (litOrd y x < 0)) (a := l.take k) (b := l.drop k) (fun y hy => decide_eq_true (h1 y hy)) (fun y r e => by
    have : l[k]? = some y := by
      have := congrArg List.head? e
      simpa [List.head?_drop] using this
    exact decide_eq_false (h2 y this))
  rw [List.take_append_drop] at key
  rw [key.1, key.2]
def c_R2_WithLiteral : Cmd :=
 (qS [qx 3 7808195 3 1, qq 4 (.mov (.c (.sl .nil [])))]
 (qT (qS [qm 8 0, qL 9 3 3, qk 10 120 [8, 9]]
 (.cond (.t 10) (.seq (.ops [qm 11 0, qm 4 11]) .ret) .skip))
 (qS [qq 5 (.newVec 7808323)]
 (qT (qS [qc 6 0]
 (.block 0 (.loop (qT (qS [qm 12 6, qm 13 0, qn 14 13, qu 15 .lss [] 12 14, qm 16 15, qg 17 16 true (.mov (.t 0)), qg 18 16 true (.mov (.t 6)), qg 19 16 true (.iaddr 3 (.t 17) (.t 18)), qg 20 16 true (.load true 3 (.t 19)), qg 21 16 true (.load true 3 (.t 3)), qg 22 16 true (.call .f (.c (.fn 131 [])) [.t 20, .t 21]), qg 23 16 true (.bin .lss false [] (.t 22) (.c (.int .i64 0))), qq 24 (.pick (.t 16) (.t 23) (.c (.bool false)))]
 (.cond (.t 24) .skip (.exit 0)))
 (qT (.block 1 (.ops [qm 27 5, qm 28 0, qm 29 6, qi 30 3 28 29, qL 31 3 30, qq 32 (.bsl 3 [.t 31]), qq 33 (.append 3 40 62 (.t 27) (.t 32)), qm 5 33]))
 (.ops [qm 25 6, qv 26 .add [] 25 1, qm 6 26]))))))
 (qS [qm 34 5, qn 35 34, qm 7 35]
 (qS [qm 36 5, qL 37 3 3, qq 38 (.bsl 3 [.t 37]), qq 39 (.append 3 40 62 (.t 36) (.t 38)), qm 5 39]
 (.seq (.ops [qm 40 5, qm 41 0, qm 42 7, qq 43 (.slice false 3 (.t 41) (some (.t 42)) none), qq 44 (.append 3 40 62 (.t 40) (.t 43)), qm 4 44]) .ret)))))))
def r_R2_WithLiteral : List RVar := [.tmp 4]
def n_R2_WithLiteral : Nat := 45
theorem k_R2_WithLiteral : chkFn Go.Proofs.Tryz.prog 122 n_R2_WithLiteral r_R2_WithLiteral c_R2_WithLiteral = true := by kernel_rfl
theorem f_R2_WithLiteral (l : List Lit) (x : Lit) (hl : l.length ≤ 1000000000) (ho : ∀ y ∈ l, AtOk y.at_) (hx : AtOk x.at_) : Fc Go.Proofs.Tryz.prog 122 [caV l, litV x] (caV (withL l x)) := by
  have hH := f_R2_HasLiteral l x (by omega) ho hx
  unfold caV at hH ⊢
  refine Fn.step mixed k_R2_WithLiteral ?_
  by_cases hm : x ∈ l
  · rw [decide_eq_true hm] at hH
    have e : withL l x = l := by unfold withL; rw [if_pos hm]
    rw [e]
    repeat' (first | refine i_s rfl ?_ | refine sw ?_ | refine c_t rfl ?_ | refine i_box rfl rfl ?_ | refine sf rfl rfl hH ?_ | fail)
    all_goals first
      | exact e_ret ⟨rfl, _, rfl, rfl⟩
      | (exfalso; clear hH; simp at *; done)
  · rw [decide_eq_false hm] at hH
    repeat (first | refine i_s rfl ?_ | refine sw ?_ | refine c_f rfl ?_ | refine i_box rfl rfl ?_ | refine i_nv rfl ?_ | refine sf rfl rfl hH ?_)
    refine c_for l.length (fun k => [(0, .sl .p (l.map litV)), (3, .bptr 7808195 0), (5, .sl (.own 7808323) ((l.take k).map litV)), (6, .int .i64 k)]) (fun k => [(7808195, .box (litV x)), (7808323, .vec (l.take k).length)])
      (fun k => ∀ y ∈ l.take k, litOrd y x < 0) (by simp) ft fun k hk hi => ?_
    by_cases hlt : k < l.length
    · obtain ⟨y, hy⟩ := get_some hlt
      have hS := f_R2_LiteralOrder y x (ho y (mem_get hy)) hx
      by_cases hb : litOrd y x < 0
      · have hstep : ∀ z ∈ l.take (k + 1), litOrd z x < 0 := by
          rw [take_succ_get hy]
          intro z hz
          rcases List.mem_append.1 hz with hz | hz
          · exact hi z hz
          · rw [List.mem_singleton.1 hz]; exact hb
        have hsn : l.take (k + 1) = l.take k ++ [y] := take_succ_get hy
        have htl : (l.take k).length ≤ k := by simp; omega
        generalize litOrd y x = o at *
        generalize l.take k = T at *
        clear hi ho hH hm
        repeat' (first | refine i_len rfl ?_ | refine i_s rfl ?_ | refine sw ?_ | refine i_gt rfl ?_ | refine i_gf rfl ?_ | refine c_f rfl ?_ | refine jd rfl rfl ?_ | (refine sp ?_ ?_ <;> try intro h) | refine sf rfl rfl hS ?_ | fail)
        all_goals first
          | (exfalso; clear hS hstep; simp at *; omega)
          | (exfalso; clear hS hstep; simp at *; done)
          | skip
        all_goals
          refine i_appM (c := y) rfl rfl rfl rfl rfl (by omega) (by omega) ?_
          repeat' (first | refine i_s rfl ?_ | refine sw ?_ | refine ja rfl rfl ?_ | fail)
          refine e_for hlt hstep ⟨⟨rfl, rfl, ?_, rfl, trivial⟩, ⟨rfl, ?_, trivial⟩, rfl⟩
        all_goals rw [hsn]
        all_goals first
          | rfl
          | (simp; rfl)
          | simp
      · have hw := withL_at hm hi (fun z hz => by rw [hy] at hz; cases hz; exact hb)
        have htl : (l.take k).length = k := by simp; omega
        have hdl : (l.drop k).length ≤ l.length := by simp
        rw [hw]
        clear hi ho hH hm hw
        generalize litOrd y x = o at *
        repeat' (first | refine i_len rfl ?_ | refine i_s rfl ?_ | refine sw ?_ | refine i_gt rfl ?_ | refine i_gf rfl ?_ | refine c_f rfl ?_ | refine jd rfl rfl ?_ | (refine sp ?_ ?_ <;> try intro h) | refine sf rfl rfl hS ?_ | fail)
        all_goals first
          | (exfalso; clear hS; simp at *; omega)
          | (exfalso; clear hS; simp at *; done)
          | skip
        all_goals
          refine i_appM (c := x) rfl rfl rfl rfl rfl (by omega) (by omega) ?_
          repeat' (first | refine i_s rfl ?_ | refine sw ?_ | fail)
        all_goals
          refine i_sl rfl rfl (by omega) (by simp; omega) (.inr fun row hrow => by obtain ⟨y2, _, rfl⟩ := List.mem_map.1 hrow; rfl) ?_
          skip
        all_goals
          refine i_app rfl rfl rfl (by simp) rfl (fun row hrow => by obtain ⟨y2, _, rfl⟩ := List.mem_map.1 (List.mem_of_mem_drop hrow); exact ⟨rfl, rfl⟩) (by simp; omega) (by simp; omega) ?_
          repeat' (first | refine i_s rfl ?_ | refine sw ?_ | fail)
        all_goals
          refine e_ret ⟨rfl, _, rfl, ?_⟩
        all_goals
          refine (congrArg (V.sl .p) ?_ : V.sl .p _ = V.sl .p (List.map litV (List.take k l ++ [x]) ++ List.drop ((List.take k l).length : Int).toNat (List.map litV l)))
          rw [htl]
          simp
    · have hge : k = l.length := by omega
      subst hge
      have hw := withL_at hm hi (fun z hz => by simp at hz)
      rw [hw]
      rw [List.take_length, List.drop_length]
      clear hi ho hH hm hw
      repeat' (first | refine i_len rfl ?_ | refine i_s rfl ?_ | refine sw ?_ | refine i_gt rfl ?_ | refine i_gf rfl ?_ | refine c_f rfl ?_ | refine i_g rfl (fun h => ?_) (fun h => ?_))
      all_goals first
        | (exfalso; simp at *; omega)
        | (exfalso; simp at *; done)
        | skip
      all_goals
        refine i_appM (c := x) rfl rfl rfl rfl rfl (by omega) (by omega) ?_
        repeat' (first | refine i_s rfl ?_ | refine sw ?_ | fail)
      all_goals
        refine i_sl rfl rfl (by omega) (by simp) (.inr fun row hrow => by obtain ⟨y2, _, rfl⟩ := List.mem_map.1 hrow; rfl) ?_
        skip
      all_goals
        refine i_app rfl rfl rfl (by simp) rfl (fun row hrow => by obtain ⟨y2, _, rfl⟩ := List.mem_map.1 (List.mem_of_mem_drop hrow); exact ⟨rfl, rfl⟩) (by simp; omega) (by simp; omega) ?_
        repeat' (first | refine i_s rfl ?_ | refine sw ?_ | fail)
      all_goals
        refine e_ret ⟨rfl, _, rfl, ?_⟩
      all_goals
        refine (congrArg (V.sl .p) ?_ : V.sl .p _ = V.sl .p (List.map litV (l ++ [x]) ++ List.drop (l.length : Int).toNat (List.map litV l)))
        rw [List.drop_of_length_le (by simp), List.append_nil]
theorem foldW_len : ∀ {b a : List Lit}, (b.foldl withL a).length ≤ a.length + b.length
  | [], _ => Nat.le_refl _
  | x :: b, a => by
    have := foldW_len (b := b) (a := withL a x)
    have := withL_len a x
    simp only [List.foldl_cons, List.length_cons]
    omega
theorem foldW_at : ∀ {b a : List Lit}, (∀ x ∈ a, AtOk x.at_) → (∀ x ∈ b, AtOk x.at_) → ∀ x ∈ b.foldl withL a, AtOk x.at_
  | [], _, h, _, x, hx => h x hx
  | y :: b, a, h, hb, x, hx => foldW_at (b := b) (a := withL a y) (fun z hz => by
      rcases withL_mem.1 hz with hz | rfl
      · exact h z hz
      · exact hb _ (by simp)) (fun z hz => hb z (by simp [hz])) x hx
def c_R2_joined : Cmd :=
 (qS [qq 4 (.mov (.c (.sl .nil []))), qb 5 false]
 (qT (qS [qc 6 0]
 (.block 0 (.loop (qT (qS [qm 7 6, qm 8 1, qn 9 8, qu 10 .lss [] 7 9]
 (.cond (.t 10) .skip (.exit 0)))
 (qT (.block 1 (qT (qS [qm 13 0, qm 14 1, qm 15 6, qi 16 3 14 15, qL 17 3 16, qk 18 121 [17], qk 19 120 [13, 18]]
 (.cond (.t 19) (.seq (.ops [qq 4 (.mov (.c (.sl .nil []))), qb 5 false]) .ret) .skip))
 (.ops [qm 20 0, qm 21 1, qm 22 6, qi 23 3 21 22, qL 24 3 23, qk 25 122 [20, 24], qm 0 25])))
 (.ops [qm 11 6, qv 12 .add [] 11 1, qm 6 12]))))))
 (.seq (.ops [qm 26 0, qm 4 26, qb 5 true]) .ret)))
def r_R2_joined : List RVar := [.tmp 4, .tmp 5]
def n_R2_joined : Nat := 27
theorem k_R2_joined : chkFn Go.Proofs.Tryz.prog 98 n_R2_joined r_R2_joined c_R2_joined = true := by kernel_rfl
theorem f_R2_joined (a b : List Lit) (hla : a.length ≤ 100000000) (hlb : b.length ≤ 100000000) (hoa : ∀ x ∈ a, AtOk x.at_) (hob : ∀ x ∈ b, AtOk x.at_) : Fc Go.Proofs.Tryz.prog 98 [caV a, caV b] (mergeV (joinL a b)) := by
  refine Fn.step mixed k_R2_joined ?_
  repeat (first | refine i_s rfl ?_ | refine sw ?_)
  refine c_for b.length (fun k => [(0, caV ((b.take k).foldl withL a)), (1, .sl .p (b.map litV)), (6, .int .i64 k)]) (fun _ => []) (fun k => joinL a b = joinL ((b.take k).foldl withL a) (b.drop k)) rfl ft fun k hk hi => ?_
  have hAl : ((b.take k).foldl withL a).length ≤ a.length + b.length := by
    have := foldW_len (b := b.take k) (a := a)
    simp at this
    omega
  have hAo : ∀ x ∈ (b.take k).foldl withL a, AtOk x.at_ := foldW_at hoa fun x hx => hob x (List.mem_of_mem_take hx)
  by_cases hlt : k < b.length
  · obtain ⟨x, hx⟩ := get_some hlt
    have hxo := hob x (mem_get hx)
    have hdr : b.drop k = x :: b.drop (k + 1) := by
      rw [List.drop_eq_getElem_cons hlt]
      congr 1
      rw [List.getElem?_eq_getElem hlt] at hx
      exact Option.some.inj hx
    have hfs : (b.take (k + 1)).foldl withL a = withL ((b.take k).foldl withL a) x := by rw [take_succ_get hx, List.foldl_append]; rfl
    rw [hdr] at hi
    generalize (b.take k).foldl withL a = A at *
    have hO := f_R2_Opposite x
    have hH := f_R2_HasLiteral A (opp x) (by omega) hAo hxo
    have hW := f_R2_WithLiteral A x (by omega) hAo hxo
    simp only [joinL] at hi
    rw [show (if opp x ∈ A then (none : Option (List Lit)) else joinL (withL A x) (b.drop (k + 1))) = if opp x ∈ A then none else joinL (withL A x) (b.drop (k + 1)) from rfl] at hi
    by_cases hm : opp x ∈ A
    · rw [if_pos hm] at hi
      rw [decide_eq_true hm] at hH
      rw [hi]
      clear hAo hoa hob hi hdr hfs
      repeat' (first | refine i_len rfl ?_ | refine i_s rfl ?_ | refine sw ?_ | refine c_t rfl ?_ | refine jd rfl rfl ?_ | refine c_cond rfl (fun h => ?_) (fun h => ?_) | refine sf rfl rfl hO ?_ | refine sf rfl rfl hH ?_ | fail)
      all_goals first
        | exact e_ret ⟨rfl, _, rfl, rfl⟩
        | (exfalso; clear hO hH hW; simp at *; done)
        | (exfalso; clear hO hH hW; simp at *; omega)
    · rw [if_neg hm] at hi
      rw [decide_eq_false hm] at hH
      clear hAo hoa hob hdr
      repeat' (first | refine i_len rfl ?_ | refine i_s rfl ?_ | refine sw ?_ | refine c_f rfl ?_ | refine ja rfl rfl ?_ | refine jd rfl rfl ?_ | refine c_cond rfl (fun h => ?_) (fun h => ?_) | refine sf rfl rfl hO ?_ | refine sf rfl rfl hH ?_ | refine sf rfl rfl hW ?_ | fail)
      all_goals first
        | (exfalso; clear hO hH hW; simp at *; done)
        | (exfalso; clear hO hH hW; simp at *; omega)
        | (refine e_for hlt (by rw [hfs]; exact hi) ⟨⟨?_, rfl, rfl, trivial⟩, trivial, rfl⟩; rw [hfs]; rfl)
  · have hge : k = b.length := by omega
    subst hge
    rw [List.drop_length] at hi
    rw [hi]
    simp only [joinL]
    generalize (b.take b.length).foldl withL a = A at *
    clear hAo hoa hob hi
    repeat' (first | refine i_len rfl ?_ | refine i_s rfl ?_ | refine sw ?_ | refine c_cond rfl (fun h => ?_) (fun h => ?_))
    all_goals first
      | exact e_ret ⟨rfl, _, rfl, rfl⟩
      | (exfalso; simp at *; done)
      | (exfalso; simp at *; omega)
def rcV (s : Cs × Bool) : V := .agg [csV s.1, .bool s.2]
def c_R2_some : Cmd :=
 (qS [qq 2 (.alloc 3712130 (.agg [.sl .nil [], .bool false]))]
 (qT (qS [qm 3 0]
 (.cond (.t 3) (.seq (.ops [qq 4 (.bsl 1 [.c (.sl .p [])]), qq 5 (.build [.sl .p [], .bool false] [(0 , 1 , .t 4), (1 , 1 , .c (.bool false))]), qs 2 2 5]) .ret) .skip))
 (.seq (.ops [qq 6 (.build [.sl .p [], .bool false] []), qs 2 2 6]) .ret)))
def r_R2_some : List RVar := [.cell true 2 2]
def n_R2_some : Nat := 7
theorem k_R2_some : chkFn Go.Proofs.Tryz.prog 58 n_R2_some r_R2_some c_R2_some = true := by kernel_rfl
theorem f_R2_some (b : Bool) : Fc Go.Proofs.Tryz.prog 58 [.bool b] (rcV (someL b, false)) := by
  refine Fn.step mixed k_R2_some ?_
  cases b
  all_goals
    repeat' (first | refine i_s rfl ?_ | refine sw ?_ | refine c_t rfl ?_ | refine c_f rfl ?_ | refine i_stb rfl ?_ | refine i_alloc rfl ?_)
    exact e_ret ⟨rfl, _, rfl, rfl⟩
def c_R2_plus : Cmd :=
 (qS [qx 2 6208130 2 0, qq 4 (.alloc 6208258 (.agg [.sl .nil [], .bool false]))]
 (qT (qS [qc 5 0]
 (.block 0 (.loop (qT (qS [qm 7 5, qf 8 0 2, ql 9 1 8, qn 10 9, qu 11 .lss [] 7 10]
 (.cond (.t 11) .skip (.exit 0)))
 (qT (.block 1 (qS [qf 14 0 2, ql 15 1 14, qm 16 5, qi 17 1 15 16, ql 18 1 17, qm 19 1, qk 20 22 [18, 19]]
 (.cond (.t 20) (.seq (.ops [qL 21 2 2, qs 2 4 21]) .ret) .skip)))
 (.ops [qm 12 5, qv 13 .add [] 12 1, qm 5 13]))))))
 (qS [qq 6 (.newVec 6208385)]
 (qS [qm 22 6, qf 23 0 2, ql 24 1 23, qq 25 (.append 1 24 27 (.t 22) (.t 24)), qm 6 25]
 (.seq (.ops [qm 26 6, qm 27 1, qq 28 (.bsl 1 [.t 27]), qq 29 (.append 1 24 27 (.t 26) (.t 28)), qm 6 29]) (qT (.frz 6)
 (.seq (.ops [qm 30 6, qf 31 1 2, ql 32 1 31, qm 33 32, qg 34 33 false (.mov (.t 6)), qg 35 33 false (.len false (.t 34)), qg 36 33 false (.bin .gtr false [] (.t 35) (.c (.int .i64 40))), qq 37 (.pick (.t 33) (.c (.bool true)) (.t 36)), qq 38 (.build [.sl .nil [], .bool false] [(0 , 1 , .t 30), (1 , 1 , .t 37)]), qs 2 4 38]) .ret)))))))
def r_R2_plus : List RVar := [.cell true 2 4]
def n_R2_plus : Nat := 39
theorem k_R2_plus : chkFn Go.Proofs.Tryz.prog 97 n_R2_plus r_R2_plus c_R2_plus = true := by kernel_rfl
theorem f_R2_plus (s : Cs × Bool) (l : List Lit) (hn : s.1.length ≤ 1000) (hs : ∀ m ∈ s.1, m.length ≤ 100000000 ∧ ∀ x ∈ m, AtOk x.at_) (hl : l.length ≤ 100000000) (ho : ∀ x ∈ l, AtOk x.at_) : Fc Go.Proofs.Tryz.prog 97 [rcV s, caV l] (rcV (plusR s l)) := by
  obtain ⟨cs, mu⟩ := s
  dsimp only at hn hs
  refine Fn.step mixed k_R2_plus ?_
  repeat (first | refine i_s rfl ?_ | refine sw ?_ | refine i_alloc rfl ?_ | refine i_box rfl rfl ?_)
  refine c_for cs.length (fun k => [(1, caV l), (2, .bptr 6208130 0), (4, .bptr 6208258 0), (5, .int .i64 k)]) (fun _ => [(6208130, .box (rcV (cs, mu))), (6208258, .box (.agg [.sl .nil [], .bool false]))]) (fun k => l ∉ cs.take k) (by simp) ft fun k hk hi => ?_
  by_cases hlt : k < cs.length
  · obtain ⟨m, hm⟩ := get_some hlt
    have hmo := hs m (mem_get hm)
    have hS := f_R1_SameLiterals m l hmo.1 hl hmo.2 ho
    by_cases e : m = l
    · subst e
      rw [decide_eq_true rfl] at hS
      have hp : plusR (cs, mu) m = (cs, mu) := by unfold plusR; rw [if_pos (mem_get hm)]
      rw [hp]
      clear hs ho hi hmo hp
      repeat' (first | refine i_len rfl ?_ | refine i_s rfl ?_ | refine sw ?_ | refine c_t rfl ?_ | refine jd rfl rfl ?_ | refine i_stb rfl ?_ | refine i_nv rfl ?_ | refine c_cond rfl (fun h => ?_) (fun h => ?_) | refine sf rfl rfl hS ?_ | fail)
      all_goals first
        | exact e_ret ⟨rfl, _, rfl, rfl⟩
        | (exfalso; clear hS; simp at *; done)
        | (exfalso; clear hS; simp at *; omega)
    · rw [decide_eq_false e] at hS
      have hstep : l ∉ cs.take (k + 1) := by rw [take_succ_get hm]; simp only [List.mem_append, List.mem_singleton, not_or]; exact ⟨hi, fun h => e h.symm⟩
      clear hs ho hi hmo
      repeat' (first | refine i_len rfl ?_ | refine i_s rfl ?_ | refine sw ?_ | refine c_f rfl ?_ | refine ja rfl rfl ?_ | refine jd rfl rfl ?_ | refine i_nv rfl ?_ | refine c_cond rfl (fun h => ?_) (fun h => ?_) | refine sf rfl rfl hS ?_ | fail)
      all_goals first
        | (exact e_for hlt hstep ft)
        | (exfalso; clear hS; simp at *; done)
        | (exfalso; clear hS hstep; simp at *; omega)
  · have hge : k = cs.length := by omega
    subst hge
    rw [List.take_length] at hi
    have hp : plusR (cs, mu) l = (cs ++ [l], mu || decide (cs.length + 1 > 40)) := by unfold plusR; rw [if_neg hi]
    rw [hp]
    clear hs ho hi hp
    cases mu
    all_goals
      repeat' (first | refine i_len rfl ?_ | refine i_s rfl ?_ | refine sw ?_ | refine i_nv rfl ?_ | refine c_cond rfl (fun h => ?_) (fun h => ?_))
    all_goals first
      | (exfalso; simp at *; done)
      | (exfalso; simp at *; omega)
      | skip
    all_goals
      refine i_app (rows := []) rfl rfl rfl rfl rfl (fun row hrow => by obtain ⟨y2, _, rfl⟩ := List.mem_map.1 hrow; exact ⟨rfl, rfl⟩) (by simp; omega) (by simp; omega) ?_
      repeat' (first | refine i_s rfl ?_ | refine sw ?_ | fail)
    all_goals
      refine i_appM (c := l) (l := cs) rfl rfl rfl (by simp) rfl (by simp only [List.length_map]; omega) (by simp only [List.length_map]; omega) ?_
      repeat' (first | refine i_len rfl ?_ | refine i_s rfl ?_ | refine sw ?_ | refine i_gt rfl ?_ | refine i_gf rfl ?_ | refine i_stb rfl ?_ | refine c_frzv rfl rfl ?_)
    all_goals
      refine e_ret ⟨rfl, _, rfl, ?_⟩
    all_goals first
      | rfl
      | (refine (congrArg (fun b => V.agg [csV (cs ++ [l]), .bool b]) ?_ : V.agg [csV (cs ++ [l]), .bool (false || decide (cs.length + 1 > 40))] = V.agg [csV (cs ++ [l]), .bool (decide (((cs ++ [l]).length : Int) > 40))]); rw [Bool.false_or, List.length_append, List.length_singleton]; rw [Bool.eq_iff_iff, decide_eq_true_iff, decide_eq_true_iff]; omega)
theorem RC.mem {B N : Nat} {s : Cs × Bool} (h : RC B N s) (hB : B ≤ 100000000) : ∀ m ∈ s.1, m.length ≤ 100000000 ∧ ∀ x ∈ m, AtOk x.at_ := fun m hm => ⟨by have := (h.ca m hm).len; omega, (h.ca m hm).at_⟩
def c_R2_both : Cmd :=
 (qS [qx 3 3776194 2 0, qx 4 3776258 2 1, qq 6 (.alloc 3776386 (.agg [.sl .nil [], .bool false]))]
 (qS [qf 13 1 3, ql 14 1 13, qm 15 14, qg 16 15 false (.faddr 1 (.t 4)), qg 17 15 false (.load false 1 (.t 16)), qq 18 (.pick (.t 15) (.c (.bool true)) (.t 17)), qq 19 (.build [.sl .p [], .bool false] [(0 , 1 , .c (.sl .p [])), (1 , 1 , .t 18)]), qq 7 (.alloc 3776450 (.agg [.sl .nil [], .bool false])), qs 2 7 19]
 (qT (qS [qf 20 1 7, ql 21 1 20]
 (.cond (.t 21) (.seq (.ops [qL 22 2 7, qs 2 6 22]) .ret) .skip))
 (qT (qS [qm 23 2, qq 24 (.not (.t 23))]
 (.cond (.t 24) (qS [qf 25 0 3, ql 26 1 25, qf 27 0 7, qs 1 27 26]
 (qT (qS [qc 8 0]
 (.block 0 (.loop (qT (qS [qm 28 8, qf 29 0 4, ql 30 1 29, qn 31 30, qu 32 .lss [] 28 31]
 (.cond (.t 32) .skip (.exit 0)))
 (qT (.block 1 (.ops [qL 35 2 7, qf 36 0 4, ql 37 1 36, qm 38 8, qi 39 1 37 38, ql 40 1 39, qk 41 97 [35, 40], qs 2 7 41]))
 (.ops [qm 33 8, qv 34 .add [] 33 1, qm 8 34]))))))
 (.seq (.ops [qL 42 2 7, qs 2 6 42]) .ret))) .skip))
 (qT (qS [qc 9 0]
 (.block 2 (.loop (qT (qS [qm 43 9, qf 44 0 3, ql 45 1 44, qn 46 45, qu 47 .lss [] 43 46]
 (.cond (.t 47) .skip (.exit 2)))
 (qT (.block 3 (qS [qc 10 0]
 (.block 4 (.loop (qT (qS [qm 50 10, qf 51 0 4, ql 52 1 51, qn 53 52, qu 54 .lss [] 50 53]
 (.cond (.t 54) .skip (.exit 4)))
 (qT (.block 5 (qS [qf 58 0 3, ql 59 1 58, qm 60 9, qi 61 1 59 60, ql 62 1 61, qf 63 0 4, ql 64 1 63, qm 65 10, qi 66 1 64 65, ql 67 1 66, qk 68 98 [62, 67], qm 57 68, qq 69 (.extract (.t 57) 0), qq 70 (.extract (.t 57) 1), qm 11 69, qm 12 70]
 (qS [qm 71 12, qm 72 71, qg 73 72 true (.faddr 1 (.t 7)), qg 74 72 true (.load false 1 (.t 73)), qg 75 72 true (.not (.t 74)), qq 76 (.pick (.t 72) (.t 75) (.c (.bool false)))]
 (.cond (.t 76) (.ops [qL 77 2 7, qm 78 11, qk 79 97 [77, 78], qs 2 7 79]) .skip))))
 (.ops [qm 55 10, qv 56 .add [] 55 1, qm 10 56])))))))
 (.ops [qm 48 9, qv 49 .add [] 48 1, qm 9 49]))))))
 (.seq (.ops [qL 80 2 7, qs 2 6 80]) .ret))))))
def r_R2_both : List RVar := [.cell true 2 6]
def n_R2_both : Nat := 81
theorem k_R2_both : chkFn Go.Proofs.Tryz.prog 59 n_R2_both r_R2_both c_R2_both = true := by kernel_rfl
theorem f_R2_both (a b : Cs × Bool) (B C : Nat) (hBC : B + C ≤ 100000000) (ha : RC B 100 a) (hb : RC C 100 b) (conj : Bool) : Fc Go.Proofs.Tryz.prog 59 [rcV a, rcV b, .bool conj] (rcV (bothR a b conj)) := by
  obtain ⟨ca, ma⟩ := a
  obtain ⟨cb, mb⟩ := b
  unfold bothR
  have hla := ha.len
  have hlb := hb.len
  simp only at hla hlb
  refine Fn.step mixed k_R2_both ?_
  by_cases hm : (ma || mb) = true
  · rw [if_pos hm]
    clear ha hb
    have e : ma = true ∨ ma = false ∧ mb = true := by cases ma <;> simp_all
    rcases e with rfl | ⟨rfl, rfl⟩
    all_goals
      repeat' (first | refine i_s rfl ?_ | refine sw ?_ | refine i_gt rfl ?_ | refine i_gf rfl ?_ | refine c_t rfl ?_ | refine i_stb rfl ?_ | refine i_alloc rfl ?_ | refine i_box rfl rfl ?_)
    all_goals first
      | exact e_ret ⟨rfl, _, rfl, rfl⟩
      | (exfalso; simp at *; done)
  rw [if_neg hm]
  obtain ⟨rfl, rfl⟩ : ma = false ∧ mb = false := by simpa using hm
  have hA := ha.l40 rfl
  have hB2 := hb.l40 rfl
  simp only at hA hB2
  cases conj with
  | false =>
    rw [if_pos rfl]
    repeat' (first | refine i_s rfl ?_ | refine sw ?_ | refine i_gt rfl ?_ | refine c_t rfl ?_ | refine c_f rfl ?_ | refine i_stb rfl ?_ | refine i_alloc rfl ?_ | refine i_box rfl rfl ?_)
    all_goals first
      | (exfalso; simp at *; done)
      | skip
    all_goals
      refine c_for cb.length (fun k => [(4, .bptr 3776258 0), (6, .bptr 3776386 0), (7, .bptr 3776450 0), (8, .int .i64 k)])
        (fun k => [(3776258, .box (rcV (cb, false))), (3776386, .box (.agg [.sl .nil [], .bool false])), (3776450, .box (rcV ((cb.take k).foldl plusR (ca, false))))]) (fun k => True) trivial ⟨⟨rfl, rfl, rfl, rfl, trivial⟩, ⟨rfl, rfl, rfl, trivial⟩, rfl⟩ fun k hk _ => ?_
      have hR : RC (B + C) 140 ((cb.take k).foldl plusR (ca, false)) := (foldPlus_ok (B := B + C) (b := cb.take k) (N := 40) (s := (ca, false)) ⟨hA, fun _ => hA, fun l hm => (ha.ca l hm).mono (by omega)⟩ fun l hm => (hb.ca l (List.mem_of_mem_take hm)).mono (by omega)).mono (Nat.le_refl _) (by simp; omega)
      by_cases hlt : k < cb.length
      · obtain ⟨l, hl⟩ := get_some hlt
        have hlo := hb.ca l (mem_get hl)
        have hfs : (cb.take (k + 1)).foldl plusR (ca, false) = plusR ((cb.take k).foldl plusR (ca, false)) l := by rw [take_succ_get hl, List.foldl_append]; rfl
        generalize (cb.take k).foldl plusR (ca, false) = S at *
        have hP := f_R2_plus S l (by have := hR.len; omega) (hR.mem hBC) (by have := hlo.len; omega) hlo.at_
        clear hlo hR ha hb
        repeat' (first | refine i_len rfl ?_ | refine i_s rfl ?_ | refine sw ?_ | refine ja rfl rfl ?_ | refine jd rfl rfl ?_ | refine i_stb rfl ?_ | refine c_cond rfl (fun h => ?_) (fun h => ?_) | refine sf rfl rfl hP ?_ | fail)
        all_goals first
          | (exfalso; clear hP; simp at *; done)
          | (exfalso; clear hP; simp at *; omega)
          | (refine e_for hlt trivial ⟨⟨rfl, rfl, rfl, rfl, trivial⟩, ⟨rfl, rfl, ?_, trivial⟩, rfl⟩; rw [hfs]; rfl)
      · have hge : k = cb.length := by omega
        subst hge
        rw [List.take_length]
        clear ha hb hR
        generalize cb.foldl plusR (ca, false) = S at *
        repeat' (first | refine i_len rfl ?_ | refine i_s rfl ?_ | refine sw ?_ | refine i_stb rfl ?_ | refine c_cond rfl (fun h => ?_) (fun h => ?_))
        all_goals first
          | exact e_ret ⟨rfl, _, rfl, rfl⟩
          | (exfalso; simp at *; done)
          | (exfalso; simp at *; omega)
  | true =>
    rw [if_neg (by simp)]
    repeat' (first | refine i_s rfl ?_ | refine sw ?_ | refine i_gt rfl ?_ | refine c_f rfl ?_ | refine i_stb rfl ?_ | refine i_alloc rfl ?_ | refine i_box rfl rfl ?_)
    all_goals first
      | (exfalso; simp at *; done)
      | skip
    all_goals
      refine c_for ca.length (fun i => [(3, .bptr 3776194 0), (4, .bptr 3776258 0), (6, .bptr 3776386 0), (7, .bptr 3776450 0), (9, .int .i64 i)])
        (fun i => [(3776194, .box (rcV (ca, false))), (3776258, .box (rcV (cb, false))), (3776386, .box (.agg [.sl .nil [], .bool false])), (3776450, .box (rcV ((ca.take i).foldl (fun s l => cb.foldl (andStepR l) s) ([], false))))]) (fun i => True) trivial ⟨⟨rfl, rfl, rfl, rfl, rfl, trivial⟩, ⟨rfl, rfl, rfl, rfl, trivial⟩, rfl⟩ fun i hi _ => ?_
      have hR : RC (B + C) 41 ((ca.take i).foldl (fun s l => cb.foldl (andStepR l) s) ([], false)) := foldOutR_ok hb.ca (fun l hm => ha.ca l (List.mem_of_mem_take hm)) ⟨by simp, by simp, by simp⟩
      by_cases hlt : i < ca.length
      · obtain ⟨l, hl⟩ := get_some hlt
        have hlo := ha.ca l (mem_get hl)
        have hfs : (ca.take (i + 1)).foldl (fun s l => cb.foldl (andStepR l) s) ([], false) = cb.foldl (andStepR l) ((ca.take i).foldl (fun s l => cb.foldl (andStepR l) s) ([], false)) := by rw [take_succ_get hl, List.foldl_append]; rfl
        generalize (ca.take i).foldl (fun s l => cb.foldl (andStepR l) s) ([], false) = S at *
        repeat' (first | refine i_len rfl ?_ | refine i_s rfl ?_ | refine sw ?_ | refine i_stb rfl ?_ | refine c_cond rfl (fun h => ?_) (fun h => ?_))
        all_goals first
          | (exfalso; simp at *; omega)
          | (exfalso; simp at *; done)
          | skip
        all_goals
          refine c_for cb.length (fun k => [(3, .bptr 3776194 0), (4, .bptr 3776258 0), (6, .bptr 3776386 0), (7, .bptr 3776450 0), (9, .int .i64 i), (10, .int .i64 k)])
            (fun k => [(3776194, .box (rcV (ca, false))), (3776258, .box (rcV (cb, false))), (3776386, .box (.agg [.sl .nil [], .bool false])), (3776450, .box (rcV ((cb.take k).foldl (andStepR l) S)))]) (fun k => True) trivial ⟨⟨rfl, rfl, rfl, rfl, rfl, rfl, trivial⟩, ⟨rfl, rfl, rfl, rfl, trivial⟩, rfl⟩ fun k hk _ => ?_
          have hR2 : RC (B + C) 41 ((cb.take k).foldl (andStepR l) S) := foldInR_ok hlo (fun m hm => hb.ca m (List.mem_of_mem_take hm)) hR
          by_cases hlt2 : k < cb.length
          · obtain ⟨m, hm2⟩ := get_some hlt2
            have hmo := hb.ca m (mem_get hm2)
            have hfs2 : (cb.take (k + 1)).foldl (andStepR l) S = andStepR l ((cb.take k).foldl (andStepR l) S) m := by rw [take_succ_get hm2, List.foldl_append]; rfl
            generalize (cb.take k).foldl (andStepR l) S = T at *
            have hJ := f_R2_joined l m (by have := hlo.len; omega) (by have := hmo.len; omega) hlo.at_ hmo.at_
            obtain ⟨tc, tm⟩ := T
            rw [show andStepR l (tc, tm) m = (match joinL l m with
              | some c => if tm = true then (tc, tm) else plusR (tc, tm) c
              | none => (tc, tm)) from rfl] at hfs2
            cases hj : joinL l m with
            | none =>
              rw [hj] at hJ hfs2
              clear hlo hmo hR hR2 ha hb hfs
              repeat' (first | refine i_len rfl ?_ | refine i_s rfl ?_ | refine sw ?_ | refine i_gf rfl ?_ | refine c_f rfl ?_ | refine ja rfl rfl ?_ | refine jd rfl rfl ?_ | refine c_cond rfl (fun h => ?_) (fun h => ?_) | refine sf rfl rfl hJ ?_ | fail)
              all_goals first
                | (exfalso; clear hJ; simp at *; done)
                | (exfalso; clear hJ; simp at *; omega)
                | (refine e_for hlt2 trivial ⟨⟨rfl, rfl, rfl, rfl, rfl, rfl, trivial⟩, ⟨rfl, rfl, rfl, ?_, trivial⟩, rfl⟩; rw [hfs2]; rfl)
            | some c =>
              rw [hj] at hJ hfs2
              have hco := join_ok hlo hmo hj
              have hP := f_R2_plus (tc, tm) c (by have := hR2.len; omega) (hR2.mem hBC) (by have := hco.len; omega) hco.at_
              clear hlo hmo hR hR2 ha hb hfs hco
              cases tm
              all_goals
                repeat' (first | refine i_len rfl ?_ | refine i_s rfl ?_ | refine sw ?_ | refine i_gt rfl ?_ | refine c_t rfl ?_ | refine c_f rfl ?_ | refine ja rfl rfl ?_ | refine jd rfl rfl ?_ | refine i_stb rfl ?_ | refine c_cond rfl (fun h => ?_) (fun h => ?_) | refine sf rfl rfl hJ ?_ | refine sf rfl rfl hP ?_ | fail)
              all_goals first
                | (exfalso; clear hJ hP; simp at *; done)
                | (exfalso; clear hJ hP; simp at *; omega)
                | (refine e_for hlt2 trivial ⟨⟨rfl, rfl, rfl, rfl, rfl, rfl, trivial⟩, ⟨rfl, rfl, rfl, ?_, trivial⟩, rfl⟩; rw [hfs2]; rfl)
          · have hge : k = cb.length := by omega
            subst hge
            rw [List.take_length]
            clear ha hb hR hR2 hlo
            repeat' (first | refine i_len rfl ?_ | refine i_s rfl ?_ | refine sw ?_ | refine ja rfl rfl ?_ | refine jd rfl rfl ?_ | refine c_cond rfl (fun h => ?_) (fun h => ?_))
            all_goals first
              | (exfalso; simp at *; done)
              | (exfalso; simp at *; omega)
              | (refine e_for hlt trivial ⟨⟨rfl, rfl, rfl, rfl, rfl, trivial⟩, ⟨rfl, rfl, rfl, ?_, trivial⟩, rfl⟩; rw [hfs]; rfl)
      · have hge : i = ca.length := by omega
        subst hge
        rw [List.take_length]
        clear ha hb hR
        generalize ca.foldl (fun s l => cb.foldl (andStepR l) s) ([], false) = S at *
        repeat' (first | refine i_len rfl ?_ | refine i_s rfl ?_ | refine sw ?_ | refine i_stb rfl ?_ | refine c_cond rfl (fun h => ?_) (fun h => ?_))
        all_goals first
          | exact e_ret ⟨rfl, _, rfl, rfl⟩
          | (exfalso; simp at *; done)
          | (exfalso; simp at *; omega)
theorem bnd8 {x p : Nat} (hx : x ≤ 30) : x * 8 ^ (6 - p) ≤ 7864320 := by
  have h := Nat.pow_le_pow_right (show 0 < 8 by omega) (show 6 - p ≤ 6 by omega)
  exact Nat.le_trans (Nat.mul_le_mul hx h) (by decide)
def accR (conj : Bool) (rs : List (Cs × Bool)) (k : Nat) : Cs × Bool := foldR conj (rs.take k)
theorem accR_succ {conj : Bool} {rs : List (Cs × Bool)} {k : Nat} {q : Cs × Bool} (h : rs[k]? = some q) : accR conj rs (k + 1) = bothR (accR conj rs k) q conj := by
  unfold accR foldR
  rw [take_succ_get h, List.foldl_append]
  rfl
theorem accR_ok {conj : Bool} {rs : List (Cs × Bool)} {S : Nat} (h : RPartsOk rs S) (k : Nat) : RC S 100 (accR conj rs k) := foldR_ok (RPartsOk.take k h)
def c_R2_CasesOf : Cmd :=
 (qS [qx 5 1280326 6 0, qx 6 1280386 2 1, qq 10 (.alloc 1280642 (.agg [.sl .nil [], .bool false]))]
 (qS [qf 17 1 6, ql 18 1 17, qm 19 2, qi 20 7 18 19, qL 21 7 20, qq 11 (.alloc 1280711 (.agg [.int .i64 0, .sl .nil [], .int .i64 0, .sl .nil [], .int .i64 0, .int .i64 0, .int .i64 0])), qs 7 11 21]
 (qT (qS [qf 22 0 11, ql 23 1 22]
 (.block 0 (qS [qv 25 .eql [.i] 23 1, qm 24 25]
 (.cond (.t 24) (.seq (.ops [qm 26 4, qq 27 (.not (.t 26)), qk 28 58 [27], qs 2 10 28]) .ret) (qS [qv 30 .eql [.i] 23 2, qm 29 30]
 (.cond (.t 29) (.seq (.ops [qm 31 4, qf 32 2 11, qL 33 2 32, qm 34 3, qk 35 48 [33, 34], qq 36 (.build [.bool false, .int .i64 0, .sl .nil []] [(0 , 1 , .t 31), (1 , 2 , .t 35)]), qq 37 (.bsl 3 [.t 36]), qq 38 (.bsl 1 [.t 37]), qq 39 (.build [.sl .nil [], .bool false] [(0 , 1 , .t 38), (1 , 1 , .c (.bool false))]), qs 2 10 39]) .ret) (qS [qv 41 .eql [.i] 23 3, qm 40 41]
 (.cond (.t 40) (.seq (.ops [qf 42 4 11, ql 43 1 42, qm 44 3, qk 45 49 [43, 44], qf 46 5 11, ql 47 1 46, qm 48 3, qk 49 49 [47, 48], qu 50 .eql [.i] 45 49, qm 51 4, qu 52 .neq [.b] 50 51, qk 53 58 [52], qs 2 10 53]) .ret) (qS [qv 55 .eql [.i] 23 4, qm 54 55]
 (.cond (.t 54) (.seq (.ops [qL 56 6 5, qL 57 2 6, qf 58 1 11, ql 59 1 58, qq 60 (.iaddr 1 (.t 59) (.c (.int .i64 0))), ql 61 1 60, qm 62 3, qm 63 4, qq 64 (.not (.t 63)), qk 65 20 [56, 57, 61, 62, 64], qs 2 10 65]) .ret) .skip))))))))))
 (qS [qf 66 0 11, ql 67 1 66, qv 68 .eql [.i] 67 5, qm 69 68, qg 70 69 false (.faddr 0 (.t 11)), qg 71 69 false (.load false 1 (.t 70)), qg 72 69 false (.bin .eql false [.i] (.t 71) (.c (.int .i64 8))), qq 73 (.pick (.t 69) (.c (.bool true)) (.t 72)), qm 74 4, qu 75 .neq [.b] 73 74, qm 12 75]
 (qS [qm 76 12, qk 77 58 [76], qq 13 (.alloc 1280834 (.agg [.sl .nil [], .bool false])), qs 2 13 77]
 (qT (qS [qf 78 0 11, ql 79 1 78, qv 80 .leq [] 79 6]
 (.cond (.t 80) (qT (qS [qc 14 0]
 (.block 1 (.loop (qT (qS [qm 81 14, qf 82 1 11, ql 83 1 82, qn 84 83, qu 85 .lss [] 81 84]
 (.cond (.t 85) .skip (.exit 1)))
 (qT (.block 2 (.ops [qL 88 2 13, qL 89 6 5, qL 90 2 6, qf 91 1 11, ql 92 1 91, qm 93 14, qi 94 1 92 93, ql 95 1 94, qm 96 3, qm 97 4, qk 98 20 [89, 90, 95, 96, 97], qm 99 12, qk 100 59 [88, 98, 99], qs 2 13 100]))
 (.ops [qm 86 14, qv 87 .add [] 86 1, qm 14 87]))))))
 (.seq (.ops [qL 101 2 13, qs 2 10 101]) .ret)) .skip))
 (qS [qf 102 0 5, ql 103 1 102, qf 104 1 5, ql 105 1 104, qf 106 6 11, ql 107 1 106, qk 108 50 [103, 105, 107], qm 15 108]
 (qT (qS [qc 16 0]
 (.block 3 (.loop (qT (qS [qm 109 16, qm 110 15, qn 111 110, qu 112 .lss [] 109 111]
 (.cond (.t 112) .skip (.exit 3)))
 (qT (.block 4 (.ops [qL 115 2 13, qL 116 6 5, qL 117 2 6, qf 118 1 11, ql 119 1 118, qq 120 (.iaddr 1 (.t 119) (.c (.int .i64 0))), ql 121 1 120, qm 122 3, qm 123 15, qm 124 16, qi 125 1 123 124, ql 126 1 125, qk 127 51 [122, 126], qm 128 4, qk 129 20 [116, 117, 121, 127, 128], qm 130 12, qk 131 59 [115, 129, 130], qs 2 13 131]))
 (.ops [qm 113 16, qv 114 .add [] 113 1, qm 16 114]))))))
 (.seq (.ops [qL 132 2 13, qs 2 10 132]) .ret)))))))))
def r_R2_CasesOf : List RVar := [.cell true 2 10]
def n_R2_CasesOf : Nat := 133
theorem k_R2_CasesOf : chkFn Go.Proofs.Tryz.prog 20 n_R2_CasesOf r_R2_CasesOf c_R2_CasesOf = true := by kernel_rfl
theorem f_R2_CasesOf (d : Dom) (hd : DoTy d) (c : Cnd) (ho : CndOk c) (h30 : c.nodes.length ≤ 30) : ∀ (i a : Nat) (ps args : List Int) (neg : Bool), ST d c.nodes true a (i + 1) ps [] → ps.length ≤ 6 → ArgsOk d ps args →
    Fc Go.Proofs.Tryz.prog 20 [domV d, cndV c, .int .i64 i, .sl .p (args.map i64V), .bool neg] (rcV (ca d c.nodes i args neg)) := by
  intro i
  induction i using Nat.strongRecOn with
  | ind i ih =>
    intro a ps args neg hst hps ha
    obtain ⟨j, n, e, haj, hn, ok, hkids⟩ := hst.root
    obtain rfl : i = j := by omega
    rw [ca_eq hst hn args neg]
    have hi30 := get_lt hn
    have hno := ho.nodes n (mem_get hn)
    have hkid := hkids.kids rfl
    have hal : args.length ≤ 6 := by have := ha.1; omega
    have hqu := ok.qu
    have hlf := ok.lf
    have hnc := hno.ch
    have hown : quantK n.kind = false → ownC n = [] := fun h => by unfold ownC; rw [h]; rfl
    have hk0 := ok.k0
    have hk8 := ok.k8
    have hcase : n.kind = 1 ∨ n.kind = 2 ∨ n.kind = 3 ∨ n.kind = 4 ∨ (n.kind = 5 ∨ n.kind = 6) ∨ (n.kind = 7 ∨ n.kind = 8) := by omega
    rcases hcase with e | e | e | e | e | e
    · rw [if_pos e]
      have hS := f_R2_some (!neg)
      obtain ⟨kd, ch, at2, lf, rt, ty⟩ := n
      dsimp only at e
      subst e
      clear hd ho ih hst hkids hkid hno ok hlf hqu hown
      refine Fn.step mixed k_R2_CasesOf ?_
      repeat' (first | refine i_s rfl ?_ | refine sw ?_ | refine c_t rfl ?_ | refine jd rfl rfl ?_ | refine i_stb rfl ?_ | refine i_alloc rfl ?_ | refine i_box rfl rfl ?_ | refine sf rfl rfl hS ?_ | fail)
      all_goals exact e_ret ⟨rfl, _, rfl, rfl⟩
    · rw [if_neg (by omega), if_pos e]
      unfold leafCode at hlf
      rw [if_pos e] at hlf
      have hr := atom_rng hlf
      have hB := f_R2_Bound args (by omega) n.at_ hno.at_.len (fun x hx => by have := (hr x hx).1; have := ha.1; omega)
      obtain ⟨kd, ch, at2, lf, rt, ty⟩ := n
      dsimp only at e hB ⊢
      subst e
      generalize bindA args at2 = at3 at *
      clear hd ho ih hst hkids hkid hno ok hlf hqu hown hr
      refine Fn.step mixed k_R2_CasesOf ?_
      repeat' (first | refine i_s rfl ?_ | refine sw ?_ | refine c_t rfl ?_ | refine c_f rfl ?_ | refine jd rfl rfl ?_ | refine i_stb rfl ?_ | refine i_alloc rfl ?_ | refine i_box rfl rfl ?_ | refine sf rfl rfl hB ?_ | fail)
      all_goals exact e_ret ⟨rfl, _, rfl, rfl⟩
    · rw [if_neg (by omega), if_neg (by omega), if_pos e]
      unfold leafCode at hlf
      rw [if_neg (by omega), if_pos e] at hlf
      have hb : badArg d ps n.left = false ∧ badArg d ps n.right = false := by
        split at hlf
        · cases hlf
        · rename_i h; simpa using h
      simp only [badArg, Bool.or_eq_false_iff, decide_eq_false_iff_not] at hb
      have hL := f_R2_object args (by omega) n.left (by have := ha.1; omega)
      have hR := f_R2_object args (by omega) n.right (by have := ha.1; omega)
      obtain ⟨kd, ch, at2, lf, rt, ty⟩ := n
      dsimp only at e hL hR ⊢
      subst e
      generalize objA args lf = u at *
      generalize objA args rt = w at *
      have hS := f_R2_some (decide (u = w) != neg)
      clear hd ho ih hst hkids hkid hno ok hlf hqu hown
      refine Fn.step mixed k_R2_CasesOf ?_
      repeat' (first | refine i_s rfl ?_ | refine sw ?_ | refine c_t rfl ?_ | refine c_f rfl ?_ | refine jd rfl rfl ?_ | refine i_stb rfl ?_ | refine i_alloc rfl ?_ | refine i_box rfl rfl ?_ | refine sf rfl rfl hL ?_ | refine sf rfl rfl hR ?_ | refine sf rfl rfl hS ?_ | fail)
      all_goals exact e_ret ⟨rfl, _, rfl, rfl⟩
    · rw [if_neg (by omega), if_neg (by omega), if_neg (by omega), if_pos e]
      obtain ⟨k, hch⟩ := arity_one ok (.inl e)
      obtain ⟨a', _, x0, x1, _, hs⟩ := hkid k (by rw [hch]; simp)
      rw [hown (by unfold quantK; simp [e]), List.append_nil] at hs
      have hE := ih k.toNat (by omega) a' ps args (!neg) hs hps ha
      have e0 : ch0 n = k.toNat := by unfold ch0; rw [hch]; rfl
      rw [show ((k.toNat : Nat) : Int) = k from by omega, ← e0] at hE
      generalize ca d c.nodes (ch0 n) args (!neg) = b at *
      have hk0 : [k][(0 : Int).toNat]? = some k := rfl
      rw [← hch] at hk0
      obtain ⟨kd, ch, at2, lf, rt, ty⟩ := n
      dsimp only at e hk0 hch
      subst e
      clear hd ho ih hst hkids hkid hno ok hlf hqu hown hs
      refine Fn.step mixed k_R2_CasesOf ?_
      repeat' (first | refine i_s rfl ?_ | refine sw ?_ | refine c_t rfl ?_ | refine c_f rfl ?_ | refine jd rfl rfl ?_ | refine i_stb rfl ?_ | refine i_alloc rfl ?_ | refine i_box rfl rfl ?_ | refine sf rfl rfl hE ?_ | fail)
      all_goals exact e_ret ⟨rfl, _, rfl, rfl⟩
    · rw [if_neg (by omega), if_neg (by omega), if_neg (by omega), if_neg (by omega), if_pos (by omega)]
      rw [hown (by unfold quantK; rcases e with h | h <;> simp [h])] at hkid
      simp only [List.append_nil] at hkid
      have hst2 := hkids
      rw [hown (by unfold quantK; rcases e with h | h <;> simp [h]), List.append_nil] at hst2
      have hparts := (ca_ok hd ho.nodes hst2 hps args ha neg).2 rfl
      have hT : (i - a) * 8 ^ (6 - ps.length) ≤ 7864320 := bnd8 (by omega)
      generalize (i - a) * 8 ^ (6 - ps.length) = T at *
      have hkE : ∀ k ∈ n.ch, Fc Go.Proofs.Tryz.prog 20 [domV d, cndV c, .int .i64 k, .sl .p (args.map i64V), .bool neg] (rcV (ca d c.nodes k.toNat args neg)) := fun k hk => by
        obtain ⟨a', _, x0, x1, _, hs⟩ := hkid k hk
        have hE := ih k.toNat (by omega) a' ps args neg hs hps ha
        rwa [show ((k.toNat : Nat) : Int) = k from by omega] at hE
      have hkA := hkE
      clear hkE
      generalize hg : (fun k : Int => ca d c.nodes k.toNat args neg) = g at *
      have hkE : ∀ k ∈ n.ch, Fc Go.Proofs.Tryz.prog 20 [domV d, cndV c, .int .i64 k, .sl .p (args.map i64V), .bool neg] (rcV (g k)) := fun k hk => by rw [← hg]; exact hkA k hk
      obtain ⟨kd, ch, at2, lf, rt, ty⟩ := n
      dsimp only at e hkE hparts hnc hn ⊢
      clear hd ho ih hst hkids hkid hno ok hlf hqu hown hg hst2 hkA
      rcases e with e | e
      · subst e
        refine Fn.step mixed k_R2_CasesOf ?_
        repeat' (first | refine i_s rfl ?_ | refine sw ?_ | refine i_gf rfl ?_ | refine c_t rfl ?_ | refine c_f rfl ?_ | refine jd rfl rfl ?_ | refine i_stb rfl ?_ | refine i_alloc rfl ?_ | refine i_box rfl rfl ?_ | refine sf rfl rfl (f_R2_some (conjK 5 neg)) ?_ | fail)
        refine c_for ch.length (fun k => [(3, .sl .p (args.map i64V)), (4, .bool neg), (5, .bptr 1280326 0), (6, .bptr 1280386 0), (10, .bptr 1280642 0), (11, .bptr 1280711 0), (12, .bool (conjK 5 neg)), (13, .bptr 1280834 0), (14, .int .i64 k)])
          (fun k => [(1280326, .box (domV d)), (1280386, .box (cndV c)), (1280642, .box (.agg [.sl .nil [], .bool false])), (1280711, .box (cnV ⟨5, ch, at2, lf, rt, ty⟩)), (1280834, .box (rcV (accR (conjK 5 neg) (ch.map g) k)))]) (fun _ => True) trivial
          ⟨⟨rfl, rfl, rfl, rfl, rfl, rfl, rfl, rfl, rfl, trivial⟩, ⟨rfl, rfl, rfl, rfl, rfl, trivial⟩, rfl⟩ fun j hj _ => ?_
        have hA := accR_ok (conj := conjK 5 neg) hparts j
        by_cases hlt : j < ch.length
        · obtain ⟨x, hx⟩ := get_some hlt
          have hE := hkE x (mem_get hx)
          have hxg : (ch.map g)[j]? = some (g x) := by rw [List.getElem?_map, hx]; rfl
          have hB := f_R2_both _ _ T T (by omega) hA (RPartsOk.all hparts (g x) (mem_get hxg)) (conjK 5 neg)
          have hss := accR_succ (conj := conjK 5 neg) hxg
          clear hkE hparts hA
          repeat' (first | refine i_len rfl ?_ | refine i_s rfl ?_ | refine sw ?_ | refine ja rfl rfl ?_ | refine jd rfl rfl ?_ | refine i_stb rfl ?_ | refine c_cond rfl (fun h => ?_) (fun h => ?_) | refine sf rfl rfl hE ?_ | refine sf rfl rfl hB ?_ | fail)
          all_goals first
            | (exfalso; clear hE hB; simp at *; done)
            | (exfalso; clear hE hB; simp at *; omega)
            | (refine e_for hlt trivial ⟨⟨rfl, rfl, rfl, rfl, rfl, rfl, rfl, rfl, rfl, trivial⟩, ⟨rfl, rfl, rfl, rfl, ?_, trivial⟩, rfl⟩; rw [hss]; rfl)
        · have hge : j = ch.length := by omega
          subst hge
          have e2 : accR (conjK 5 neg) (ch.map g) ch.length = foldR (conjK 5 neg) (ch.map g) := by unfold accR; rw [List.take_of_length_le (by simp)]
          rw [e2]
          clear hkE hparts hA
          generalize foldR (conjK 5 neg) (ch.map g) = R at *
          repeat' (first | refine i_len rfl ?_ | refine i_s rfl ?_ | refine sw ?_ | refine i_stb rfl ?_ | refine c_cond rfl (fun h => ?_) (fun h => ?_))
          all_goals first
            | exact e_ret ⟨rfl, _, rfl, rfl⟩
            | (exfalso; simp at *; done)
            | (exfalso; simp at *; omega)
      · subst e
        refine Fn.step mixed k_R2_CasesOf ?_
        repeat' (first | refine i_s rfl ?_ | refine sw ?_ | refine i_gt rfl ?_ | refine c_t rfl ?_ | refine c_f rfl ?_ | refine jd rfl rfl ?_ | refine i_stb rfl ?_ | refine i_alloc rfl ?_ | refine i_box rfl rfl ?_ | refine sf rfl rfl (f_R2_some (conjK 6 neg)) ?_ | fail)
        refine c_for ch.length (fun k => [(3, .sl .p (args.map i64V)), (4, .bool neg), (5, .bptr 1280326 0), (6, .bptr 1280386 0), (10, .bptr 1280642 0), (11, .bptr 1280711 0), (12, .bool (conjK 6 neg)), (13, .bptr 1280834 0), (14, .int .i64 k)])
          (fun k => [(1280326, .box (domV d)), (1280386, .box (cndV c)), (1280642, .box (.agg [.sl .nil [], .bool false])), (1280711, .box (cnV ⟨6, ch, at2, lf, rt, ty⟩)), (1280834, .box (rcV (accR (conjK 6 neg) (ch.map g) k)))]) (fun _ => True) trivial
          ⟨⟨rfl, rfl, rfl, rfl, rfl, rfl, rfl, rfl, rfl, trivial⟩, ⟨rfl, rfl, rfl, rfl, rfl, trivial⟩, rfl⟩ fun j hj _ => ?_
        have hA := accR_ok (conj := conjK 6 neg) hparts j
        by_cases hlt : j < ch.length
        · obtain ⟨x, hx⟩ := get_some hlt
          have hE := hkE x (mem_get hx)
          have hxg : (ch.map g)[j]? = some (g x) := by rw [List.getElem?_map, hx]; rfl
          have hB := f_R2_both _ _ T T (by omega) hA (RPartsOk.all hparts (g x) (mem_get hxg)) (conjK 6 neg)
          have hss := accR_succ (conj := conjK 6 neg) hxg
          clear hkE hparts hA
          repeat' (first | refine i_len rfl ?_ | refine i_s rfl ?_ | refine sw ?_ | refine ja rfl rfl ?_ | refine jd rfl rfl ?_ | refine i_stb rfl ?_ | refine c_cond rfl (fun h => ?_) (fun h => ?_) | refine sf rfl rfl hE ?_ | refine sf rfl rfl hB ?_ | fail)
          all_goals first
            | (exfalso; clear hE hB; simp at *; done)
            | (exfalso; clear hE hB; simp at *; omega)
            | (refine e_for hlt trivial ⟨⟨rfl, rfl, rfl, rfl, rfl, rfl, rfl, rfl, rfl, trivial⟩, ⟨rfl, rfl, rfl, rfl, ?_, trivial⟩, rfl⟩; rw [hss]; rfl)
        · have hge : j = ch.length := by omega
          subst hge
          have e2 : accR (conjK 6 neg) (ch.map g) ch.length = foldR (conjK 6 neg) (ch.map g) := by unfold accR; rw [List.take_of_length_le (by simp)]
          rw [e2]
          clear hkE hparts hA
          generalize foldR (conjK 6 neg) (ch.map g) = R at *
          repeat' (first | refine i_len rfl ?_ | refine i_s rfl ?_ | refine sw ?_ | refine i_stb rfl ?_ | refine c_cond rfl (fun h => ?_) (fun h => ?_))
          all_goals first
            | exact e_ret ⟨rfl, _, rfl, rfl⟩
            | (exfalso; simp at *; done)
            | (exfalso; simp at *; omega)
    · rw [if_neg (by omega), if_neg (by omega), if_neg (by omega), if_neg (by omega), if_neg (by omega)]
      have hqk : quantK n.kind = true := by unfold quantK; rcases e with h | h <;> simp [h]
      obtain ⟨k, hch⟩ := arity_one ok (.inr e)
      obtain ⟨a', ha1, x0, x1, _, hs⟩ := hkid k (by rw [hch]; simp)
      have e0 : ch0 n = k.toNat := by unfold ch0; rw [hch]; rfl
      have how : ownC n = [n.type] := by unfold ownC; rw [if_pos hqk]
      rw [how] at hs
      have hp5 : ps.length < 6 := by
        unfold quCode at hqu
        rw [hqk, if_neg (by simp)] at hqu
        split at hqu
        · cases hqu
        · split at hqu
          · cases hqu
          · omega
      have hO := f_R1_MembersOf d.types hd.ty d.objects hd.ol hd.o n.type
      have hml : (membersOf d.types d.objects n.type).length ≤ 8 := by have := members_length (l := d.types) (os := d.objects) (t := n.type); have := hd.ol; omega
      have hkE : ∀ o ∈ membersOf d.types d.objects n.type, Fc Go.Proofs.Tryz.prog 20 [domV d, cndV c, .int .i64 k, .sl .p ((args ++ [o]).map i64V), .bool neg] (rcV (ca d c.nodes (ch0 n) (args ++ [o]) neg)) ∧ RC 7864320 100 (ca d c.nodes (ch0 n) (args ++ [o]) neg) := fun o hom => by
        have hr := mem_rng hom
        have hE := ih k.toNat (by omega) a' _ (args ++ [o]) neg hs (by simp; omega) (ha.snoc hr.1 hr.2)
        have hR := (ca_ok hd ho.nodes hs (by simp; omega) (args ++ [o]) (ha.snoc hr.1 hr.2) neg).1 rfl
        rw [show ((k.toNat : Nat) : Int) = k from by omega, ← e0] at hE
        rw [show k.toNat + 1 - 1 = ch0 n from by rw [e0]; rfl] at hR
        exact ⟨hE, hR.mono (bnd8 (by omega)) (Nat.le_refl _)⟩
      have hparts := rparts_const (f := fun o => ca d c.nodes (ch0 n) (args ++ [o]) neg) (B := 7864320) (xs := membersOf d.types d.objects n.type) fun o ho => (hkE o ho).2
      have hkA := fun o hom => (hkE o hom).1
      have hRA := fun o hom => (hkE o hom).2
      clear hkE
      generalize hg : (fun o : Int => ca d c.nodes (ch0 n) (args ++ [o]) neg) = g at *
      have hkE : ∀ o ∈ membersOf d.types d.objects n.type, Fc Go.Proofs.Tryz.prog 20 [domV d, cndV c, .int .i64 k, .sl .p ((args ++ [o]).map i64V), .bool neg] (rcV (g o)) := fun o hom => by rw [← hg]; exact hkA o hom
      have hRx : ∀ o ∈ membersOf d.types d.objects n.type, RC 7864320 100 (g o) := fun o hom => by rw [← hg]; exact hRA o hom
      obtain ⟨T, hT, hparts⟩ : ∃ T, T ≤ 62914560 ∧ RPartsOk ((membersOf d.types d.objects n.type).map g) T := ⟨_, by omega, hparts⟩
      generalize membersOf d.types d.objects n.type = M at *
      have hk0 : [k][(0 : Int).toNat]? = some k := rfl
      rw [← hch] at hk0
      obtain ⟨kd, ch, at2, lf, rt, ty⟩ := n
      dsimp only at e hkE hparts hnc hn hO hk0 hch ⊢
      clear hd ho ih hst hkids hkid hno ok hlf hqu hown hg hs how hqk hch hkA hRA
      rcases e with e | e
      · subst e
        refine Fn.step mixed k_R2_CasesOf ?_
        repeat' (first | refine i_s rfl ?_ | refine sw ?_ | refine i_gt rfl ?_ | refine c_f rfl ?_ | refine jd rfl rfl ?_ | refine i_stb rfl ?_ | refine i_alloc rfl ?_ | refine i_box rfl rfl ?_ | refine sf rfl rfl (f_R2_some (conjK 7 neg)) ?_ | refine sf rfl rfl hO ?_ | fail)
        refine c_for M.length (fun k => [(3, .sl .p (args.map i64V)), (4, .bool neg), (5, .bptr 1280326 0), (6, .bptr 1280386 0), (10, .bptr 1280642 0), (11, .bptr 1280711 0), (12, .bool (conjK 7 neg)), (13, .bptr 1280834 0), (15, .sl .p (M.map i64V)), (16, .int .i64 k)])
          (fun k => [(1280326, .box (domV d)), (1280386, .box (cndV c)), (1280642, .box (.agg [.sl .nil [], .bool false])), (1280711, .box (cnV ⟨7, ch, at2, lf, rt, ty⟩)), (1280834, .box (rcV (accR (conjK 7 neg) (M.map g) k)))]) (fun _ => True) trivial
          ⟨⟨rfl, rfl, rfl, rfl, rfl, rfl, rfl, rfl, rfl, rfl, trivial⟩, ⟨rfl, rfl, rfl, rfl, rfl, trivial⟩, rfl⟩ fun j hj _ => ?_
        have hA := accR_ok (conj := conjK 7 neg) hparts j
        by_cases hlt : j < M.length
        · obtain ⟨x, hx⟩ := get_some hlt
          have hE := hkE x (mem_get hx)
          have hxg : (M.map g)[j]? = some (g x) := by rw [List.getElem?_map, hx]; rfl
          have hB := f_R2_both _ _ T 7864320 (by omega) hA (hRx x (mem_get hx)) (conjK 7 neg)
          have hss := accR_succ (conj := conjK 7 neg) hxg
          have hM := f_R2_more args (by omega) x
          clear hkE hparts hA hRx
          repeat' (first | refine i_len rfl ?_ | refine i_s rfl ?_ | refine sw ?_ | refine ja rfl rfl ?_ | refine jd rfl rfl ?_ | refine i_stb rfl ?_ | refine c_cond rfl (fun h => ?_) (fun h => ?_) | refine sf rfl rfl hM ?_ | refine sf rfl rfl hE ?_ | refine sf rfl rfl hB ?_ | fail)
          all_goals first
            | (exfalso; clear hE hB hM; simp at *; done)
            | (exfalso; clear hE hB hM; simp at *; omega)
            | (refine e_for hlt trivial ⟨⟨rfl, rfl, rfl, rfl, rfl, rfl, rfl, rfl, rfl, rfl, trivial⟩, ⟨rfl, rfl, rfl, rfl, ?_, trivial⟩, rfl⟩; rw [hss]; rfl)
        · have hge : j = M.length := by omega
          subst hge
          have e2 : accR (conjK 7 neg) (M.map g) M.length = foldR (conjK 7 neg) (M.map g) := by unfold accR; rw [List.take_of_length_le (by simp)]
          rw [e2]
          clear hkE hparts hA hRx
          generalize foldR (conjK 7 neg) (M.map g) = R at *
          repeat' (first | refine i_len rfl ?_ | refine i_s rfl ?_ | refine sw ?_ | refine jd rfl rfl ?_ | refine i_stb rfl ?_ | refine c_cond rfl (fun h => ?_) (fun h => ?_))
          all_goals first
            | exact e_ret ⟨rfl, _, rfl, rfl⟩
            | (exfalso; simp at *; done)
            | (exfalso; simp at *; omega)
      · subst e
        refine Fn.step mixed k_R2_CasesOf ?_
        repeat' (first | refine i_s rfl ?_ | refine sw ?_ | refine i_gt rfl ?_ | refine c_f rfl ?_ | refine jd rfl rfl ?_ | refine i_stb rfl ?_ | refine i_alloc rfl ?_ | refine i_box rfl rfl ?_ | refine sf rfl rfl (f_R2_some (conjK 8 neg)) ?_ | refine sf rfl rfl hO ?_ | fail)
        refine c_for M.length (fun k => [(3, .sl .p (args.map i64V)), (4, .bool neg), (5, .bptr 1280326 0), (6, .bptr 1280386 0), (10, .bptr 1280642 0), (11, .bptr 1280711 0), (12, .bool (conjK 8 neg)), (13, .bptr 1280834 0), (15, .sl .p (M.map i64V)), (16, .int .i64 k)])
          (fun k => [(1280326, .box (domV d)), (1280386, .box (cndV c)), (1280642, .box (.agg [.sl .nil [], .bool false])), (1280711, .box (cnV ⟨8, ch, at2, lf, rt, ty⟩)), (1280834, .box (rcV (accR (conjK 8 neg) (M.map g) k)))]) (fun _ => True) trivial
          ⟨⟨rfl, rfl, rfl, rfl, rfl, rfl, rfl, rfl, rfl, rfl, trivial⟩, ⟨rfl, rfl, rfl, rfl, rfl, trivial⟩, rfl⟩ fun j hj _ => ?_
        have hA := accR_ok (conj := conjK 8 neg) hparts j
        by_cases hlt : j < M.length
        · obtain ⟨x, hx⟩ := get_some hlt
          have hE := hkE x (mem_get hx)
          have hxg : (M.map g)[j]? = some (g x) := by rw [List.getElem?_map, hx]; rfl
          have hB := f_R2_both _ _ T 7864320 (by omega) hA (hRx x (mem_get hx)) (conjK 8 neg)
          have hss := accR_succ (conj := conjK 8 neg) hxg
          have hM := f_R2_more args (by omega) x
          clear hkE hparts hA hRx
          repeat' (first | refine i_len rfl ?_ | refine i_s rfl ?_ | refine sw ?_ | refine ja rfl rfl ?_ | refine jd rfl rfl ?_ | refine i_stb rfl ?_ | refine c_cond rfl (fun h => ?_) (fun h => ?_) | refine sf rfl rfl hM ?_ | refine sf rfl rfl hE ?_ | refine sf rfl rfl hB ?_ | fail)
          all_goals first
            | (exfalso; clear hE hB hM; simp at *; done)
            | (exfalso; clear hE hB hM; simp at *; omega)
            | (refine e_for hlt trivial ⟨⟨rfl, rfl, rfl, rfl, rfl, rfl, rfl, rfl, rfl, rfl, trivial⟩, ⟨rfl, rfl, rfl, rfl, ?_, trivial⟩, rfl⟩; rw [hss]; rfl)
        · have hge : j = M.length := by omega
          subst hge
          have e2 : accR (conjK 8 neg) (M.map g) M.length = foldR (conjK 8 neg) (M.map g) := by unfold accR; rw [List.take_of_length_le (by simp)]
          rw [e2]
          clear hkE hparts hA hRx
          generalize foldR (conjK 8 neg) (M.map g) = R at *
          repeat' (first | refine i_len rfl ?_ | refine i_s rfl ?_ | refine sw ?_ | refine jd rfl rfl ?_ | refine i_stb rfl ?_ | refine c_cond rfl (fun h => ?_) (fun h => ?_))
          all_goals first
            | exact e_ret ⟨rfl, _, rfl, rfl⟩
            | (exfalso; simp at *; done)
            | (exfalso; simp at *; omega)
def c_L1_ConditionCasesMatchSpec : Cmd :=
 (qS [qx 3 320198 6 0, qx 4 320258 2 1, qb 6 false]
 (qT (qS [qk 12 9 [], qq 13 (.not (.t 12))]
 (.cond (.t 13) (.seq (.ops [qb 6 false]) .ret) .skip))
 (qS [qL 14 6 3, qL 15 2 4, qk 16 10 [14, 15], qq 7 (.alloc 320450 (.agg [.int .i64 0, .int .i64 0])), qs 2 7 16]
 (qT (qS [qf 17 0 7, ql 18 1 17, qv 19 .eql [.i] 18 0]
 (.cond (.t 19) (.ops [qL 20 6 3, qL 21 2 4, qm 22 2, qk 23 13 [20, 21, 22], qs 2 7 23]) .skip))
 (qS [qq 8 (.alloc 320514 (.agg [.sl .p [], .bool false]))]
 (qT (qS [qf 24 0 7, ql 25 1 24, qv 26 .eql [.i] 25 0]
 (.cond (.t 26) (.ops [qL 27 6 3, qL 28 2 4, qf 29 1 4, ql 30 1 29, qn 31 30, qv 32 .sub [] 31 1, qm 33 2, qq 34 (.call .f (.c (.fn 20 [])) [.t 27, .t 28, .t 32, .t 33, .c (.bool false)]), qs 2 8 34]) .skip))
 (qT (qS [qf 35 1 8, ql 36 1 35]
 (.cond (.t 36) (qS [qf 37 0 8, .op none none (.store 1 (.t 37) (.c (.sl .nil [])))]
 (.ops [qq 38 (.call .f (.c (.fn 17 [])) [.c (.int .i64 10), .c (.int .i64 (-13))]), qs 2 7 38])) .skip))
 (qS [qL 40 6 3, qL 41 2 4, qm 42 2, qk 43 21 [40, 41, 42], qm 39 43, qq 44 (.extract (.t 39) 0), qq 45 (.extract (.t 39) 1), qq 10 (.alloc 320642 (.agg [.int .i64 0, .int .i64 0])), qm 9 44, qs 2 10 45]
 (qT (qS [qL 46 2 10, qL 47 2 7, qq 48 (.bin .neq true [.i, .i] (.t 46) (.t 47)), qm 49 48, qg 50 49 false (.mov (.t 9)), qg 51 49 false (.len false (.t 50)), qg 52 49 false (.faddr 0 (.t 8)), qg 53 49 false (.load false 1 (.t 52)), qg 54 49 false (.len false (.t 53)), qg 55 49 false (.bin .neq false [.i] (.t 51) (.t 54)), qq 56 (.pick (.t 49) (.c (.bool true)) (.t 55))]
 (.cond (.t 56) (.seq (.ops [qb 6 false]) .ret) .skip))
 (qT (qS [qc 11 0]
 (.block 0 (.loop (qT (qS [qm 57 11, qm 58 9, qn 59 58, qu 60 .lss [] 57 59]
 (.cond (.t 60) .skip (.exit 0)))
 (qT (.block 1 (qS [qm 63 9, qm 64 11, qi 65 1 63 64, ql 66 1 65, qf 67 0 8, ql 68 1 67, qm 69 11, qi 70 1 68 69, ql 71 1 70, qk 72 22 [66, 71], qq 73 (.not (.t 72))]
 (.cond (.t 73) (.seq (.ops [qb 6 false]) .ret) .skip)))
 (.ops [qm 61 11, qv 62 .add [] 61 1, qm 11 62]))))))
 (.seq (.ops [qb 6 true]) .ret)))))))))))
def r_L1_ConditionCasesMatchSpec : List RVar := [.tmp 6]
def n_L1_ConditionCasesMatchSpec : Nat := 74
theorem k_L1_ConditionCasesMatchSpec : chkFn Go.Proofs.Tryz.prog 5 n_L1_ConditionCasesMatchSpec r_L1_ConditionCasesMatchSpec c_L1_ConditionCasesMatchSpec = true := by kernel_rfl
theorem f_L1_ConditionCasesMatchSpec (d : Dom) (hdo : DoOk d) (c : Cnd) (ho : CndOk c) (args : List Int) (hal : args.length ≤ 140737488355328) :
    Fc Go.Proofs.Tryz.prog 5 [domV d, cndV c, .sl .p (args.map i64V)] (.bool true) := by
  have hLc := f_L1_conditions
  have hF := f_R2_ConditionFault d hdo c ho
  have hC := f_condition_Cases d hdo c ho args hal
  by_cases t1 : condFault d c = okF
  · rw [t1] at hF
    have hcv := cndV_of t1
    have hdt := domTy hcv.dom
    obtain ⟨p1, p2⟩ := paramsCode_ok hcv.par
    have hA := f_R2_ArgsFault d hdt c p1 args hal
    have hpos := hcv.pos
    by_cases t2 : argsFault d c args = okF
    · rw [t2] at hA
      have hao := argsFault_ok t2
      have h30 := hcv.len
      have hQ := f_R2_CasesOf d hdt c ho h30 (c.nodes.length - 1) 0 c.types args false hcv.root (by omega) hao
      rw [show ((c.nodes.length - 1 : Nat) : Int) = (c.nodes.length : Int) - 1 from by omega] at hQ
      have hrel := nd_ca (c.nodes.length - 1) 0 c.types args false hcv.root
      have hok : CsOk _ (nd d c.nodes (c.nodes.length - 1) args false).1 := (nd_ok hdt ho.nodes hcv.root (by omega) args hao false).1 rfl
      have hS := pow_ok (m := c.nodes.length - 1 + 1 - 0) (k := 6 - c.types.length) (by omega) (by omega) (Nat.le_refl _)
      have hfe : casesFault d c args = if (nd d c.nodes (c.nodes.length - 1) args false).2 = true then ⟨10, -13⟩ else okF := by unfold casesFault; rw [if_neg (by simp [t1]), if_neg (by simp [t2])]
      unfold casesOut at hC
      rw [hfe] at hC
      have hokC := fun l hm => (hok.ca l hm).mono hS
      clear hok
      generalize nd d c.nodes (c.nodes.length - 1) args false = q at *
      generalize ca d c.nodes (c.nodes.length - 1) args false = r at *
      obtain ⟨q1, q2⟩ := q
      obtain ⟨r1, r2⟩ := r
      obtain ⟨hr, hl⟩ := hrel
      dsimp only at hr hl hokC hC
      subst hr
      cases q2 with
      | true =>
        rw [if_pos rfl, if_neg (by simp [okF])] at hC
        clear hcv hdo ho hdt hfe p1 p2 hokC hS hao hl t1 t2
        refine Fn.step mixed k_L1_ConditionCasesMatchSpec ?_
        repeat' (first | refine i_len rfl ?_ | refine i_s rfl ?_ | refine sw ?_ | refine i_gt rfl ?_ | refine c_t rfl ?_ | refine c_f rfl ?_ | refine jb rfl rfl ?_ | refine i_stb rfl ?_ | refine i_alloc rfl ?_ | refine i_box rfl rfl ?_ | refine sf rfl rfl hLc ?_ | refine sf rfl rfl hF ?_ | refine sf rfl rfl hA ?_ | refine sf rfl rfl hQ ?_ | refine sf rfl rfl hC ?_ | refine sf rfl rfl (f_R1_At _ _) ?_ | fail)
        all_goals first
          | (exfalso; clear hLc hF hA hQ hC; simp [okF] at *; done)
          | skip
        all_goals
          refine c_for 0 (fun i => [(9, csV []), (11, .int .i64 i)]) (fun i => [(320514, .box (.agg [.sl .nil [], .bool true]))]) (fun _ => True) trivial ⟨⟨rfl, rfl, trivial⟩, ⟨rfl, trivial⟩, rfl⟩ fun i hi _ => ?_
          obtain rfl : i = 0 := by omega
          repeat' (first | refine i_len rfl ?_ | refine i_s rfl ?_ | refine sw ?_ | refine c_f rfl ?_)
        all_goals first
          | exact e_ret ⟨rfl, _, rfl, rfl⟩
          | (exfalso; simp at *; done)
      | false =>
        rw [if_neg (show ¬ (false = true) by simp), if_pos (show okF = okF from rfl)] at hC
        obtain ⟨rfl, h40⟩ := hl rfl
        have hqc := hokC
        clear hcv hdo ho hdt hfe p1 p2 hokC hao hl t1 t2
        refine Fn.step mixed k_L1_ConditionCasesMatchSpec ?_
        repeat' (first | refine i_len rfl ?_ | refine i_s rfl ?_ | refine sw ?_ | refine i_gt rfl ?_ | refine c_t rfl ?_ | refine c_f rfl ?_ | refine jb rfl rfl ?_ | refine i_stb rfl ?_ | refine i_alloc rfl ?_ | refine i_box rfl rfl ?_ | refine c_cond rfl (fun h => ?_) (fun h => ?_) | refine sf rfl rfl hLc ?_ | refine sf rfl rfl hF ?_ | refine sf rfl rfl hA ?_ | refine sf rfl rfl hQ ?_ | refine sf rfl rfl hC ?_ | fail)
        all_goals first
          | (exfalso; clear hLc hF hA hQ hC hqc; simp [okF] at *; done)
          | skip
        all_goals
          refine c_for q1.length (fun i => [(8, .bptr 320514 0), (9, csV q1), (11, .int .i64 i)]) (fun i => [(320514, .box (.agg [csV q1, .bool false]))]) (fun _ => True) trivial ⟨⟨rfl, rfl, rfl, trivial⟩, ⟨rfl, trivial⟩, rfl⟩ fun i hi _ => ?_
          clear hLc hF hA hQ hC
          by_cases hlt : i < q1.length
          · obtain ⟨l, hx⟩ := get_some hlt
            have hlo := hqc l (mem_get hx)
            have hL := f_R1_SameLiterals l l (Nat.le_trans hlo.len (by decide)) (Nat.le_trans hlo.len (by decide)) hlo.at_ hlo.at_
            rw [decide_eq_true rfl] at hL
            clear hqc hlo
            have hdec : decide ((i : Int) < (q1.length : Int)) = true := by simpa using hlt
            repeat' (first | refine i_len rfl ?_ | refine i_s rfl ?_ | refine sw ?_ | refine c_f rfl ?_ | refine ja rfl rfl ?_ | refine jd rfl rfl ?_ | refine c_cond rfl (fun h => ?_) (fun h => ?_) | refine sf rfl rfl hL ?_ | fail)
            all_goals first
              | (exact e_for hlt trivial ⟨⟨rfl, rfl, rfl, trivial⟩, ⟨rfl, trivial⟩, rfl⟩)
              | (exfalso; exact absurd (h.symm.trans hdec) (by decide))
              | (exfalso; clear hL; simp at *; done)
          · clear hqc
            repeat' (first | refine i_len rfl ?_ | refine i_s rfl ?_ | refine sw ?_ | refine c_cond rfl (fun h => ?_) (fun h => ?_))
            all_goals first
              | exact e_ret ⟨rfl, _, rfl, rfl⟩
              | (exfalso; simp at *; done)
              | (exfalso; simp at *; omega)
    · have hfe : casesFault d c args = argsFault d c args := by unfold casesFault; rw [if_neg (by simp [t1]), if_pos t2]
      unfold casesOut at hC
      rw [hfe, if_neg t2] at hC
      have hc3 : ¬ (argsFault d c args).code = 0 := fun h => t2 ((argsFault_code _ _ _).1 h)
      generalize argsFault d c args = ff at *
      clear hcv hdo ho hdt hfe p1 p2 t1 t2
      refine Fn.step mixed k_L1_ConditionCasesMatchSpec ?_
      repeat' (first | refine i_len rfl ?_ | refine i_s rfl ?_ | refine sw ?_ | refine i_gt rfl ?_ | refine i_gf rfl ?_ | refine c_t rfl ?_ | refine c_f rfl ?_ | refine i_stb rfl ?_ | refine i_alloc rfl ?_ | refine i_box rfl rfl ?_ | (refine sp ?_ ?_ <;> try intro h) | refine sf rfl rfl hLc ?_ | refine sf rfl rfl hF ?_ | refine sf rfl rfl hA ?_ | refine sf rfl rfl hC ?_ | fail)
      all_goals first
        | (exfalso; clear hLc hF hA hC; simp [okF] at *; done)
        | (exfalso; clear hLc hF hA hC; simp_all [okF]; done)
        | skip
      all_goals
        refine c_for 0 (fun i => [(9, csV []), (11, .int .i64 i)]) (fun i => [(320514, .box (.agg [.sl .p [], .bool false]))]) (fun _ => True) trivial ⟨⟨rfl, rfl, trivial⟩, ⟨rfl, trivial⟩, rfl⟩ fun i hi _ => ?_
        obtain rfl : i = 0 := by omega
        repeat' (first | refine i_len rfl ?_ | refine i_s rfl ?_ | refine sw ?_ | refine c_f rfl ?_)
      all_goals first
        | exact e_ret ⟨rfl, _, rfl, rfl⟩
        | (exfalso; simp at *; done)
  · have hfe : casesFault d c args = condFault d c := by unfold casesFault; rw [if_pos t1]
    unfold casesOut at hC
    rw [hfe, if_neg t1] at hC
    have hc3 : ¬ (condFault d c).code = 0 := fun h => t1 ((condFault_code _ _).1 h)
    generalize condFault d c = ff at *
    clear hdo ho hfe t1
    refine Fn.step mixed k_L1_ConditionCasesMatchSpec ?_
    repeat' (first | refine i_len rfl ?_ | refine i_s rfl ?_ | refine sw ?_ | refine i_gt rfl ?_ | refine i_gf rfl ?_ | refine c_t rfl ?_ | refine c_f rfl ?_ | refine i_stb rfl ?_ | refine i_alloc rfl ?_ | refine i_box rfl rfl ?_ | (refine sp ?_ ?_ <;> try intro h) | refine sf rfl rfl hLc ?_ | refine sf rfl rfl hF ?_ | refine sf rfl rfl hC ?_ | fail)
    all_goals first
      | (exfalso; clear hLc hF hC; simp [okF] at *; done)
      | (exfalso; clear hLc hF hC; simp_all [okF]; done)
      | skip
    all_goals
      refine c_for 0 (fun i => [(9, csV []), (11, .int .i64 i)]) (fun i => [(320514, .box (.agg [.sl .p [], .bool false]))]) (fun _ => True) trivial ⟨⟨rfl, rfl, trivial⟩, ⟨rfl, trivial⟩, rfl⟩ fun i hi _ => ?_
      obtain rfl : i = 0 := by omega
      repeat' (first | refine i_len rfl ?_ | refine i_s rfl ?_ | refine sw ?_ | refine c_f rfl ?_)
    all_goals first
      | exact e_ret ⟨rfl, _, rfl, rfl⟩
      | (exfalso; simp at *; done)
end Hm
end
