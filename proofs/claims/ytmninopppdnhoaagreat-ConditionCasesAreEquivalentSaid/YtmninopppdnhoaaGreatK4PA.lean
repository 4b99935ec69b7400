/- Part K4PA of the proof. -/
import Derived.Test.YtmninopppdnhoaaGreatKPB
set_option linter.unusedVariables false
set_option linter.unusedSimpArgs false
section
namespace Hm
open Go
set_option maxRecDepth 100000
set_option maxHeartbeats 4000000
def c_R1_HasAtom : Cmd :=
 (qS [qx 3 1472194 2 1, qb 4 false]
 (qT (qS [qc 5 0]
 (.block 0 (.loop (qT (qS [qm 6 5, qm 7 0, qn 8 7, qu 9 .lss [] 6 8]
 (.cond (.t 9) .skip (.exit 0)))
 (qT (.block 1 (qS [qm 12 0, qm 13 5, qi 14 2 12 13, qL 15 2 14, qL 16 2 3, qk 17 57 [15, 16]]
 (.cond (.t 17) (.seq (.ops [qb 4 true]) .ret) .skip)))
 (.ops [qm 10 5, qv 11 .add [] 10 1, qm 5 11]))))))
 (.seq (.ops [qb 4 false]) .ret)))
def r_R1_HasAtom : List RVar := [.tmp 4]
def n_R1_HasAtom : Nat := 18
theorem k_R1_HasAtom : chkFn Go.Proofs.Tryz.prog 23 n_R1_HasAtom r_R1_HasAtom c_R1_HasAtom = true := by kernel_rfl
theorem f_R1_HasAtom (l : List At) (a : At) (hl : l.length ≤ 140737488355328) (ho : ∀ x ∈ l, AtOk x) (ha : AtOk a) : Fc Go.Proofs.Tryz.prog 23 [.sl .p (l.map atV), atV a] (.bool (decide (a ∈ l))) := by
  refine Fn.step mixed k_R1_HasAtom ?_
  repeat' (first | refine i_s rfl ?_ | refine sw ?_ | refine i_box rfl rfl ?_)
  refine c_for l.length (fun k => [(0, .sl .p (l.map atV)), (3, .bptr 1472194 0), (5, .int .i64 k)]) (fun _ => [(1472194, .box (atV a))]) (fun k => a ∉ l.take k) (by simp) ft fun k hk hi => ?_
  by_cases hlt : k < l.length
  · obtain ⟨x, hx⟩ := get_some hlt
    have hS := f_R1_SameAtom x a (ho x (mem_get hx)) ha
    by_cases e : x = a
    · rw [decide_eq_true (e ▸ mem_get hx : a ∈ l)]
      rw [decide_eq_true e] at hS
      repeat' (first | refine i_len rfl ?_ | refine i_s rfl ?_ | refine sw ?_ | refine c_t rfl ?_ | refine jd rfl rfl ?_ | refine c_cond rfl (fun h => ?_) (fun h => ?_) | refine sf rfl rfl hS ?_ | fail)
      all_goals first
        | exact e_ret ⟨rfl, _, rfl, rfl⟩
        | (exfalso; clear hS; simp at *; omega)
    · rw [decide_eq_false e] at hS
      repeat' (first | refine i_len rfl ?_ | refine i_s rfl ?_ | refine sw ?_ | refine c_f rfl ?_ | refine ja rfl rfl ?_ | refine jd rfl rfl ?_ | refine c_cond rfl (fun h => ?_) (fun h => ?_) | refine sf rfl rfl hS ?_ | fail)
      all_goals first
        | (exact e_for hlt (by rw [take_succ_get hx]; simp only [List.mem_append, List.mem_singleton, not_or]; exact ⟨hi, fun h => e h.symm⟩) ft)
        | (exfalso; clear hS; simp at *; omega)
  · rw [List.take_of_length_le (by omega)] at hi
    rw [decide_eq_false hi]
    repeat' (first | refine i_len rfl ?_ | refine i_s rfl ?_ | refine sw ?_ | refine c_cond rfl (fun h => ?_) (fun h => ?_))
    all_goals first
      | exact e_ret ⟨rfl, _, rfl, rfl⟩
      | (exfalso; simp at *; omega)
theorem argsFault_code (d : Dom) (c : Cnd) (args : List Int) : (argsFault d c args).code = 0 ↔ argsFault d c args = okF := by
  unfold argsFault
  split
  · simp [okF]
  · split
    · rename_i f hf
      exact ⟨fun h => absurd h (argBadC_code hf), fun h => absurd (congrArg Flt.code h) (argBadC_code hf)⟩
    · simp [okF]
theorem groundFault_code (d : Dom) (l : List At) : (groundFault d l).code = 0 ↔ groundFault d l = okF := by
  unfold groundFault
  split
  · rename_i h; exact ⟨fun h1 => absurd h1 h, fun h1 => absurd (congrArg Flt.code h1) h⟩
  · simp [okF]
end Hm
end
section
namespace Hm
open Go
def caseT (atoms : List At) (l : List Lit) : Bool := l.all fun x => (decide (x.at_ ∈ atoms) != x.neg)
def csT (atoms : List At) (cs : Cs) : Bool := cs.any (caseT atoms)
theorem caseT_mem {atoms : List At} {l m : List Lit} (h : ∀ x, x ∈ l ↔ x ∈ m) : caseT atoms l = caseT atoms m := by
  unfold caseT
  rw [Bool.eq_iff_iff, List.all_eq_true, List.all_eq_true]
  exact ⟨fun k x hx => k x ((h x).2 hx), fun k x hx => k x ((h x).1 hx)⟩
theorem caseT_app (atoms : List At) (l m : List Lit) : caseT atoms (l ++ m) = (caseT atoms l && caseT atoms m) := by simp [caseT]
theorem caseT_not {atoms : List At} {l : List Lit} (h : ¬ ConsL l) : caseT atoms l = false := by
  refine Classical.byContradiction fun hne => h fun x hx y hy hxy => ?_
  have ht : caseT atoms l = true := by simpa using hne
  unfold caseT at ht
  rw [List.all_eq_true] at ht
  have h1 := ht x hx
  have h2 := ht y hy
  rw [hxy] at h1
  cases x with
  | mk n u =>
  cases y with
  | mk k v =>
  simp only at hxy h1 h2
  subst hxy
  cases n <;> cases k <;> cases hd : decide (u ∈ atoms) <;> simp_all
theorem joinL_T {atoms : List At} {a b : List Lit} (ha : SLt a) (hc : ConsL a) : (match joinL a b with
    | some c => caseT atoms c
    | none => false) = (caseT atoms a && caseT atoms b) := by
  rw [← caseT_app]
  cases hj : joinL a b with
  | none => exact (caseT_not (joinL_none hj)).symm
  | some c => exact caseT_mem fun x => by rw [(joinL_some ha hc hj).2.2 x, List.mem_append]
theorem orL_T (atoms : List At) (a b : Cs) : csT atoms (orL a b) = (csT atoms a || csT atoms b) := by
  unfold csT
  rw [Bool.eq_iff_iff, Bool.or_eq_true, List.any_eq_true, List.any_eq_true, List.any_eq_true]
  constructor
  · rintro ⟨l, h1, h2⟩
    rcases orL_mem.1 h1 with h | h
    · exact .inl ⟨l, h, h2⟩
    · exact .inr ⟨l, h, h2⟩
  · rintro (⟨l, h1, h2⟩ | ⟨l, h1, h2⟩)
    · exact ⟨l, orL_mem.2 (.inl h1), h2⟩
    · exact ⟨l, orL_mem.2 (.inr h1), h2⟩
theorem orP_T {atoms : List At} {a b : Cs} (h : (orP a b).2 = false) : csT atoms (orP a b).1 = (csT atoms a || csT atoms b) := by
  unfold orP at h ⊢
  split at h
  · cases h
  · rename_i h1
    rw [if_neg h1]
    exact orL_T atoms a b
theorem andStep_T {atoms : List At} {l m : List Lit} {s : Cs × Bool} (hl : SLt l) (hc : ConsL l) (h : (andStep l s m).2 = false) : s.2 = false ∧ csT atoms (andStep l s m).1 = (csT atoms s.1 || (caseT atoms l && caseT atoms m)) := by
  have hj := joinL_T (atoms := atoms) (b := m) hl hc
  unfold andStep at h ⊢
  cases e : joinL l m with
  | none =>
    rw [e] at h hj
    simp only at h hj ⊢
    exact ⟨h, by rw [← hj, Bool.or_false]⟩
  | some c =>
    rw [e] at h hj
    simp only [Bool.or_eq_false_iff] at h hj ⊢
    refine ⟨h.1, ?_⟩
    rw [orP_T h.2, ← hj]
    simp [csT]
theorem foldIn_T {atoms : List At} {l : List Lit} (hl : SLt l) (hc : ConsL l) : ∀ {b : Cs} {s : Cs × Bool}, (b.foldl (andStep l) s).2 = false → s.2 = false ∧ csT atoms (b.foldl (andStep l) s).1 = (csT atoms s.1 || (caseT atoms l && csT atoms b))
  | [], s, h => ⟨h, by simp [csT]⟩
  | m :: b, s, h => by
    obtain ⟨h1, h2⟩ := foldIn_T (atoms := atoms) hl hc (b := b) h
    obtain ⟨h3, h4⟩ := andStep_T (atoms := atoms) hl hc h1
    refine ⟨h3, ?_⟩
    simp only [List.foldl_cons]
    rw [h2, h4]
    simp only [csT, List.any_cons]
    cases caseT atoms l <;> cases caseT atoms m <;> simp
theorem foldOut_T {atoms : List At} {b : Cs} : ∀ {a : Cs} {s : Cs × Bool}, (∀ l ∈ a, SLt l ∧ ConsL l) → (a.foldl (fun s l => b.foldl (andStep l) s) s).2 = false → s.2 = false ∧ csT atoms (a.foldl (fun s l => b.foldl (andStep l) s) s).1 = (csT atoms s.1 || (csT atoms a && csT atoms b))
  | [], s, _, h => ⟨h, by simp [csT]⟩
  | l :: a, s, ha, h => by
    obtain ⟨h1, h2⟩ := foldOut_T (atoms := atoms) (a := a) (fun x hx => ha x (by simp [hx])) h
    obtain ⟨h3, h4⟩ := foldIn_T (atoms := atoms) (ha l (by simp)).1 (ha l (by simp)).2 h1
    refine ⟨h3, ?_⟩
    simp only [List.foldl_cons]
    rw [h2, h4]
    have : csT atoms (l :: a) = (caseT atoms l || csT atoms a) := by simp [csT]
    rw [this]
    cases caseT atoms l <;> cases csT atoms a <;> cases csT atoms b <;> simp
theorem stepP_T {atoms : List At} {all : Bool} {s : Cs × Bool} {p : Cs} (hs : ∀ l ∈ s.1, SLt l ∧ ConsL l) (h : (stepP all s p).2 = false) : s.2 = false ∧ csT atoms (stepP all s p).1 = if all = true then (csT atoms s.1 && csT atoms p) else (csT atoms s.1 || csT atoms p) := by
  unfold stepP at h ⊢
  cases all with
  | true =>
    rw [if_pos rfl] at h ⊢
    simp only [Bool.or_eq_false_iff] at h
    refine ⟨h.1, ?_⟩
    have := (foldOut_T (atoms := atoms) (b := p) (s := ([], false)) hs h.2).2
    rw [if_pos rfl]
    unfold andP
    rw [this]
    simp [csT]
  | false =>
    rw [if_neg (by simp)] at h ⊢
    simp only [Bool.or_eq_false_iff] at h
    exact ⟨h.1, by rw [if_neg (by simp)]; exact orP_T h.2⟩
theorem foldS_T {atoms : List At} {all : Bool} : ∀ {ps : List Cs} {S B : Nat} {s : Cs × Bool}, PartsOk ps S → CsOk B s.1 → (ps.foldl (stepP all) s).2 = false → s.2 = false ∧ csT atoms (ps.foldl (stepP all) s).1 = if all = true then (csT atoms s.1 && ps.all (csT atoms)) else (csT atoms s.1 || ps.any (csT atoms))
  | [], S, B, s, _, hs, h => ⟨h, by cases all <;> simp⟩
  | p :: ps, S, B, s, ⟨C, S', h1, h2, h3⟩, hs, h => by
    obtain ⟨k1, k2⟩ := foldS_T (atoms := atoms) (ps := ps) h3 (stepP_ok (all := all) hs h2) h
    obtain ⟨k3, k4⟩ := stepP_T (atoms := atoms) (fun l hl => ⟨(hs.ca l hl).so, (hs.ca l hl).co⟩) k1
    refine ⟨k3, ?_⟩
    simp only [List.foldl_cons]
    rw [k2, k4]
    cases all with
    | true => simp [Bool.and_assoc]
    | false => simp [Bool.or_assoc]
theorem someL_T (atoms : List At) (b : Bool) : csT atoms (someL b) = b := by cases b <;> simp [someL, csT, caseT]
theorem foldP_T {atoms : List At} {all : Bool} {ps : List Cs} {S : Nat} (hp : PartsOk ps S) (h : (foldP all ps).2 = false) : csT atoms (foldP all ps).1 = if all = true then ps.all (csT atoms) else ps.any (csT atoms) := by
  have := (foldS_T (atoms := atoms) (s := (someL all, false)) hp (CsOk.some 0 all) h).2
  unfold foldP
  rw [this, someL_T]
  cases all <;> simp
theorem nd_T {d : Dom} (hd : DoTy d) {l : List Cn} (ho : ∀ n ∈ l, CnOk n) {atoms : List At} : ∀ (i a : Nat) (ps args : List Int) (neg : Bool), ST d l true a (i + 1) ps [] → ps.length ≤ 6 → ArgsOk d ps args → (nd d l i args neg).2 = false → csT atoms (nd d l i args neg).1 = (tru d l atoms i args != neg) := by
  intro i
  induction i using Nat.strongRecOn with
  | ind i ih =>
    intro a ps args neg h hps ha hm
    obtain ⟨j, n, e, haj, hn, ok, hk⟩ := h.root
    obtain rfl : i = j := by omega
    have hkid := hk.kids rfl
    have k0 := ok.k0
    have k8 := ok.k8
    have hown : quantK n.kind = false → ownC n = [] := fun h => by unfold ownC; rw [h]; rfl
    rw [tru_eq h hn args]
    rw [nd_eq h hn args neg] at hm ⊢
    have hcase : n.kind = 1 ∨ n.kind = 2 ∨ n.kind = 3 ∨ n.kind = 4 ∨ (n.kind = 5 ∨ n.kind = 6) ∨ (n.kind = 7 ∨ n.kind = 8) := by omega
    rcases hcase with e | e | e | e | e | e
    · rw [if_neg (by omega), if_neg (by omega), if_neg (by omega), if_pos e] at hm ⊢
      rw [someL_T, if_neg (by omega), if_neg (by omega), if_neg (by omega), if_neg (by omega), if_neg (by omega), if_neg (by omega), if_neg (by omega)]
      cases neg <;> rfl
    · rw [if_pos e, if_pos e]
      simp [csT, caseT]
    · rw [if_neg (by omega), if_pos e, if_neg (by omega), if_pos e]
      simp only
      rw [someL_T]
    · rw [if_neg (by omega), if_neg (by omega), if_pos e] at hm ⊢
      rw [if_neg (by omega), if_neg (by omega), if_pos e]
      obtain ⟨k, hc⟩ := arity_one ok (.inl e)
      have e0 : ch0 n = k.toNat := by unfold ch0; rw [hc]; rfl
      obtain ⟨a', _, h0, h1, _, h2⟩ := hkid k (by rw [hc]; simp)
      rw [hown (by unfold quantK; simp [e]), List.append_nil] at h2
      rw [e0] at hm ⊢
      rw [ih k.toNat (by omega) _ _ _ _ h2 hps ha hm]
      cases tru d l atoms k.toNat args <;> cases neg <;> rfl
    · have hq : quantK n.kind = false := by unfold quantK; rcases e with e | e <;> simp [e]
      rw [if_neg (by omega), if_neg (by omega), if_neg (by omega), if_neg (by omega), if_neg (by omega)] at hm ⊢
      rw [hown hq, List.append_nil] at hkid hk
      have hpo := (nd_ok hd ho hk hps args ha neg).2 rfl
      unfold partsP at hm ⊢
      simp only [List.map_map, Function.comp_def, Bool.or_eq_false_iff, List.any_map] at hm ⊢
      rw [foldP_T hpo hm.2]
      have hT : ∀ k ∈ n.ch, csT atoms (nd d l k.toNat args neg).1 = (tru d l atoms k.toNat args != neg) := fun k hkm => by
        obtain ⟨a', _, h0, h1, _, h2⟩ := hkid k hkm
        refine ih k.toNat (by omega) _ _ _ _ h2 hps ha ?_
        have := List.any_eq_false.1 hm.1 k hkm
        simpa using this
      have hall : (n.ch.map fun k => (nd d l k.toNat args neg).1).all (csT atoms) = n.ch.all fun k => (tru d l atoms k.toNat args != neg) := by
        rw [List.all_map]; exact all_congrB hT
      have hany : (n.ch.map fun k => (nd d l k.toNat args neg).1).any (csT atoms) = n.ch.any fun k => (tru d l atoms k.toNat args != neg) := by
        rw [List.any_map]; exact any_congrB hT
      rw [hall, hany]
      simp only [if_neg (show ¬ n.kind = 2 by omega), if_neg (show ¬ n.kind = 3 by omega), if_neg (show ¬ n.kind = 4 by omega)]
      unfold conjK
      rcases e with e | e
      · cases neg
        · simp [e]
        · simp [e, List.not_all_eq_any_not]
      · cases neg
        · simp [e]
        · simp [e, List.not_any_eq_all_not]
    · have hqk : quantK n.kind = true := by unfold quantK; rcases e with e | e <;> simp [e]
      have how : ownC n = [n.type] := by unfold ownC; rw [if_pos hqk]
      have hp5 : ps.length < 6 := by
        have hqu := ok.qu
        unfold quCode at hqu
        rw [hqk, if_neg (by simp)] at hqu
        split at hqu
        · cases hqu
        · split at hqu
          · cases hqu
          · omega
      obtain ⟨k, hc⟩ := arity_one ok (.inr e)
      have e0 : ch0 n = k.toNat := by unfold ch0; rw [hc]; rfl
      obtain ⟨a', _, h0, h1, _, h2⟩ := hkid k (by rw [hc]; simp)
      rw [how] at h2
      rw [if_neg (by omega), if_neg (by omega), if_neg (by omega), if_neg (by omega), if_pos e] at hm ⊢
      have hargs : ∀ o ∈ membersOf d.types d.objects n.type, ArgsOk d (ps ++ [n.type]) (args ++ [o]) := fun o hom => by
        obtain ⟨kk, x, rfl, hx, _⟩ := mem_members.1 hom
        have hk2 := get_lt hx
        exact ha.snoc (by omega) (by omega)
      have hpo := parts_const (f := fun o => (nd d l (ch0 n) (args ++ [o]) neg).1) (xs := membersOf d.types d.objects n.type) fun o hom => by
        have := (nd_ok hd ho h2 (by simp; omega) (args ++ [o]) (hargs o hom) neg).1 rfl
        rw [e0]
        exact this
      unfold partsP at hm ⊢
      simp only [List.map_map, Function.comp_def, Bool.or_eq_false_iff, List.any_map] at hm ⊢
      rw [foldP_T hpo hm.2]
      have hT : ∀ o ∈ membersOf d.types d.objects n.type, csT atoms (nd d l (ch0 n) (args ++ [o]) neg).1 = (tru d l atoms (ch0 n) (args ++ [o]) != neg) := fun o hom => by
        rw [e0]
        refine ih k.toNat (by omega) _ _ _ _ h2 (by simp; omega) (hargs o hom) ?_
        have := List.any_eq_false.1 hm.1 o hom
        rw [← e0]
        simpa using this
      have hall : ((membersOf d.types d.objects n.type).map fun o => (nd d l (ch0 n) (args ++ [o]) neg).1).all (csT atoms) = (membersOf d.types d.objects n.type).all fun o => (tru d l atoms (ch0 n) (args ++ [o]) != neg) := by
        rw [List.all_map]; exact all_congrB hT
      have hany : ((membersOf d.types d.objects n.type).map fun o => (nd d l (ch0 n) (args ++ [o]) neg).1).any (csT atoms) = (membersOf d.types d.objects n.type).any fun o => (tru d l atoms (ch0 n) (args ++ [o]) != neg) := by
        rw [List.any_map]; exact any_congrB hT
      rw [hall, hany]
      simp only [if_neg (show ¬ n.kind = 2 by omega), if_neg (show ¬ n.kind = 3 by omega), if_neg (show ¬ n.kind = 4 by omega), if_neg (show ¬ n.kind = 5 by omega), if_neg (show ¬ n.kind = 6 by omega)]
      unfold conjK
      rcases e with e | e
      · cases neg
        · simp [e]
        · simp [e, List.not_any_eq_all_not]
      · cases neg
        · simp [e]
        · simp [e, List.not_all_eq_any_not]
end Hm
end
