/- Part KPB of the proof. -/
import Derived.Test.YtmninopppdnhoaaGreatKPA
import Derived.ProofKit
import Derived.SizedLaws
import Derived.Carry
import Derived.Deep.Slices
import Derived.OpenShut
set_option linter.unusedVariables false
set_option linter.unusedSimpArgs false
section
namespace Hm
open Go
def dualI (k : Int) : Int := if k = 5 then 6 else if k = 6 then 5 else if k = 7 then 8 else if k = 8 then 7 else k
def zCn (k : Int) (ch : List Int) : Cn := ⟨k, ch, ⟨0, []⟩, 0, 0, 0⟩
def ngL (g : Nat → Int → List Cn) : Nat → List Int → List Cn × List Int
  | _, [] => ([], [])
  | b, k :: r => (g b k ++ (ngL g (b + (g b k).length) r).1, (((b + (g b k).length : Nat) : Int) - 1) :: (ngL g (b + (g b k).length) r).2)
def ngN (n : Cn) (is : List Int) (neg : Bool) (b : Nat) : List Cn := if neg = false then [⟨n.kind, is, n.at_, n.left, n.right, n.type⟩] else if n.kind = 1 then [zCn 6 []]
  else if n.kind = 2 ∨ n.kind = 3 then [⟨n.kind, is, n.at_, n.left, n.right, n.type⟩, zCn 4 [(b : Int)]] else [⟨dualI n.kind, is, n.at_, n.left, n.right, n.type⟩]
def ngF (l : List Cn) : Nat → Nat → Nat → Bool → List Cn
  | 0, _, _, _ => []
  | f + 1, b, i, neg => match l[i]? with
    | none => []
    | some n => if n.kind = 4 then ngF l f b (ch0 n) (!neg) else
      (ngL (fun b k => ngF l f b k.toNat neg) b n.ch).1 ++ ngN n (ngL (fun b k => ngF l f b k.toNat neg) b n.ch).2 neg (b + (ngL (fun b k => ngF l f b k.toNat neg) b n.ch).1.length)
def ng (l : List Cn) (b i : Nat) (neg : Bool) : List Cn := ngF l (i + 1) b i neg
theorem ngL_congr {g g' : Nat → Int → List Cn} : ∀ (r : List Int) (b : Nat), (∀ k ∈ r, ∀ b, g b k = g' b k) → ngL g b r = ngL g' b r
  | [], _, _ => rfl
  | k :: r, b, h => by
    have h1 := h k (by simp) b
    simp only [ngL]
    rw [h1, ngL_congr r _ (fun k' hk => h k' (by simp [hk]))]
theorem ngL_snoc (g : Nat → Int → List Cn) : ∀ (r : List Int) (b : Nat) (k : Int), ngL g b (r ++ [k]) = ((ngL g b r).1 ++ g (b + (ngL g b r).1.length) k, (ngL g b r).2 ++ [((b + (ngL g b r).1.length + (g (b + (ngL g b r).1.length) k).length : Nat) : Int) - 1])
  | [], b, k => by simp [ngL]
  | x :: r, b, k => by
    simp only [List.cons_append, ngL]
    rw [ngL_snoc g r _ k]
    simp only [List.length_append, Nat.add_assoc, List.append_assoc, List.cons_append]
theorem ngL_len (g : Nat → Int → List Cn) : ∀ (r : List Int) (b : Nat), (ngL g b r).2.length = r.length
  | [], _ => rfl
  | _ :: r, b => by simp only [ngL, List.length_cons]; rw [ngL_len g r]
theorem ngF_ok {d : Dom} {l : List Cn} : ∀ (f i a : Nat) (ps : List Int) (b : Nat) (neg : Bool), ST d l true a (i + 1) ps [] → i < f → ngF l f b i neg = ng l b i neg := by
  intro f i
  induction i using Nat.strongRecOn generalizing f with
  | ind i ih =>
    intro a ps b neg h hf
    obtain ⟨j, n, e, haj, hn, ok, hk⟩ := h.root
    obtain rfl : i = j := by omega
    obtain ⟨f, rfl⟩ : ∃ g, f = g + 1 := ⟨f - 1, by omega⟩
    have hkid := hk.kids rfl
    have key : ∀ k ∈ n.ch, ∀ b neg, ngF l f b k.toNat neg = ngF l i b k.toNat neg := fun k hm b neg => by
      obtain ⟨a', _, h0, h1, _, h2⟩ := hkid k hm
      rw [ih k.toNat (by omega) f _ _ _ _ h2 (by omega), ih k.toNat (by omega) i _ _ _ _ h2 (by omega)]
    unfold ng
    simp only [ngF, hn]
    split
    · rename_i h4
      obtain ⟨k, hc⟩ := arity_one ok (.inl h4)
      have : ch0 n = k.toNat := by unfold ch0; rw [hc]; rfl
      rw [this]
      exact key k (by rw [hc]; simp) _ _
    · rw [ngL_congr n.ch b (fun k hm b => key k hm b neg)]
theorem ng_eq {d : Dom} {l : List Cn} {i a : Nat} {ps : List Int} {n : Cn} (h : ST d l true a (i + 1) ps []) (hn : l[i]? = some n) (b : Nat) (neg : Bool) :
    ng l b i neg = if n.kind = 4 then ng l b (ch0 n) (!neg) else (ngL (fun b k => ng l b k.toNat neg) b n.ch).1 ++ ngN n (ngL (fun b k => ng l b k.toNat neg) b n.ch).2 neg (b + (ngL (fun b k => ng l b k.toNat neg) b n.ch).1.length) := by
  obtain ⟨j, n', e, haj, hn', ok, hk⟩ := h.root
  obtain rfl : i = j := by omega
  rw [hn] at hn'
  cases hn'
  have hkid := hk.kids rfl
  have key : ∀ k ∈ n.ch, ∀ b neg, ngF l i b k.toNat neg = ng l b k.toNat neg := fun k hm b neg => by
    obtain ⟨a', _, h0, h1, _, h2⟩ := hkid k hm
    exact ngF_ok i _ _ _ _ _ h2 (by omega)
  conv => lhs; unfold ng
  simp only [ngF, hn]
  split
  · rename_i h4
    obtain ⟨k, hc⟩ := arity_one ok (.inl h4)
    have : ch0 n = k.toNat := by unfold ch0; rw [hc]; rfl
    rw [this]
    exact key k (by rw [hc]; simp) _ _
  · rw [ngL_congr n.ch b (fun k hm b => key k hm b neg)]
theorem ngN_pos (n : Cn) (is : List Int) (neg : Bool) (b : Nat) : 1 ≤ (ngN n is neg b).length ∧ (ngN n is neg b).length ≤ 2 := by
  unfold ngN
  repeat' split
  all_goals simp
theorem ng_len {d : Dom} {l : List Cn} {m : Bool} {a b : Nat} {ps ch : List Int} (h : ST d l m a b ps ch) : (m = true → ∀ q neg, 1 ≤ (ng l q (b - 1) neg).length ∧ (ng l q (b - 1) neg).length ≤ 2 * (b - a)) ∧ (m = false → ∀ q neg, (ngL (fun b k => ng l b k.toNat neg) q ch).1.length ≤ 2 * (b - a)) := by
  induction h with
  | @node a i ps n hn ok h ih =>
    refine ⟨fun _ q neg => ?_, fun h => by cases h⟩
    have hst : ST d l true a (i + 1) ps [] := .node hn ok h
    rw [show i + 1 - 1 = i from rfl, ng_eq hst hn q neg]
    have hle := h.le.1
    split
    · rename_i h4
      obtain ⟨k, hc⟩ := arity_one ok (.inl h4)
      rw [hc] at h
      cases h with
      | @cons _ b _ _ _ h1 h2 =>
        cases h2 with
        | nil =>
          have e : ch0 n = i - 1 := by unfold ch0; rw [hc]; simp
          have hi := h1.le.2 rfl
          have := (ih.2 rfl q (!neg))
          rw [hc] at this
          simp only [ngL, List.append_nil] at this
          rw [show (((i : Int) - 1)).toNat = i - 1 from by omega] at this
          rw [e]
          refine ⟨?_, by omega⟩
          have hpos : ∀ (j a' : Nat) (ps' : List Int), ST d l true a' (j + 1) ps' [] → ∀ q neg, 1 ≤ (ng l q j neg).length := by
            intro j
            induction j using Nat.strongRecOn with
            | ind j ihj =>
              intro a' ps' hs q neg
              obtain ⟨j', n', e', _, hn', ok', hk'⟩ := hs.root
              obtain rfl : j = j' := by omega
              rw [ng_eq hs hn' q neg]
              split
              · rename_i h4'
                obtain ⟨k', hc'⟩ := arity_one ok' (.inl h4')
                obtain ⟨a'', _, g0, g1, _, g2⟩ := hk'.kids rfl k' (by rw [hc']; simp)
                have : ch0 n' = k'.toNat := by unfold ch0; rw [hc']; rfl
                rw [this]
                exact ihj k'.toNat (by omega) _ _ g2 _ _
              · rw [List.length_append]
                have := (ngN_pos n' (ngL (fun b k => ng l b k.toNat neg) q n'.ch).2 neg (q + (ngL (fun b k => ng l b k.toNat neg) q n'.ch).1.length)).1
                omega
          have h1' : ST d l true a (i - 1 + 1) (ps ++ ownC n) [] := by rw [show i - 1 + 1 = i from by omega]; exact h1
          exact hpos (i - 1) a _ h1' q (!neg)
    · have h1 := ngN_pos n (ngL (fun b k => ng l b k.toNat neg) q n.ch).2 neg (q + (ngL (fun b k => ng l b k.toNat neg) q n.ch).1.length)
      have h2 := ih.2 rfl q neg
      rw [List.length_append]
      omega
  | nil => exact ⟨(fun h => by cases h), fun _ q neg => by simp [ngL]⟩
  | @cons a b c ps ch h1 h2 ih1 ih2 =>
    refine ⟨(fun h => by cases h), fun _ q neg => ?_⟩
    have e1 := (ih1.1 rfl q neg).2
    have hb := h1.le.2 rfl
    have hc := h2.le.1
    simp only [ngL, List.length_append]
    rw [show ((b : Int) - 1).toNat = b - 1 from by omega]
    have e2 := ih2.2 rfl (q + (ng l q (b - 1) neg).length) neg
    omega
theorem ng_len1 {d : Dom} {l : List Cn} {i a : Nat} {ps : List Int} (h : ST d l true a (i + 1) ps []) (q : Nat) (neg : Bool) : 1 ≤ (ng l q i neg).length ∧ (ng l q i neg).length ≤ 2 * (i + 1) := by
  have := (ng_len h).1 rfl q neg
  simp only [Nat.add_sub_cancel] at this
  omega
end Hm
end
section
namespace Hm
open Go
set_option maxRecDepth 100000
set_option maxHeartbeats 4000000
abbrev ngS (l out : List Cn) : List (Nat × Blk) := [(1153218, .box (.agg [.sl .p (l.map cnV), .sl (.own 1156551) (out.map cnV)])), (1156551, .vec out.length)]
theorem i_cs {G : Type} {P : Program} {H : HT G} {pn : List Nat} {Q : Exit → Env → Store → G → Prop} {fs : List (Frm G)} {r : List GItem} {ρ : Env} {σ : Store} {g : G} {dst : Option Nat} {f : Opd} {args : List Opd} {fid : Nat} {av : List V} {ns : List Nat} {L : List (Nat × Blk)}
    (hf : calv ρ f args = some (fid, av)) (hcl : closedL ns av = true) (hcs : closedSt ns σ ns = true) (hL : ns.map (fun nm => (nm, σ nm)) = L) {K : V → Store → G → Prop} (hc : Cc P H fid av ns (stOf L) g K)
    (h : ∀ v σ' g', K v σ' g' → WI P H pn Q fs r (put ρ dst v) (Hm.merge ns σ σ') g') : WI P H pn Q fs (.op dst none (.call (.s ns) f args) :: r) ρ σ g :=
  i_c hf hcl hcs (by rw [restr_stOf, hL]; exact hc) h
theorem ST.nth {d l m a b ps ch} (h : ST d l m a b ps ch) : m = false → ∀ (k : Nat) (c : Int), ch[k]? = some c → ∃ a', a ≤ a' ∧ 0 ≤ c ∧ c < b ∧ a' ≤ c ∧ ST d l true a' (c.toNat + 1) ps [] ∧ ST d l false a a' ps (ch.take k) := by
  induction h with
  | node _ _ _ _ => intro h; cases h
  | nil => intro _ k c hc; simp at hc
  | @cons a b e ps ch h1 h2 _ ih2 =>
    intro _ k c hc
    have l1 := h1.le.2 rfl
    have l2 := h2.le.1
    cases k with
    | zero =>
      simp only [List.getElem?_cons_zero, Option.some.injEq] at hc
      subst hc
      refine ⟨a, Nat.le_refl _, by omega, by omega, by omega, ?_, .nil⟩
      rwa [show ((b : Int) - 1).toNat + 1 = b from by omega]
    | succ k =>
      rw [List.getElem?_cons_succ] at hc
      obtain ⟨a', g1, g2, g3, g4, g5, g6⟩ := ih2 rfl k c hc
      exact ⟨a', by omega, g2, g3, g4, g5, .cons h1 g6⟩
theorem two_mem {a b : Nat} {x y : Blk} (nm : Nat) (h : stOf [(a, x), (b, y)] nm ≠ .unused) : nm ∈ [a, b] := stOf_mem _ nm h
def c_condition_dual : Cmd :=
 (qS [qc 2 0]
 (qT (qS [qm 3 0]
 (.block 0 (qS [qv 5 .eql [.i] 3 5, qm 4 5]
 (.cond (.t 4) (.seq (.ops [qc 2 6]) .ret) (qS [qv 7 .eql [.i] 3 6, qm 6 7]
 (.cond (.t 6) (.seq (.ops [qc 2 5]) .ret) (qS [qv 9 .eql [.i] 3 7, qm 8 9]
 (.cond (.t 8) (.seq (.ops [qc 2 8]) .ret) (qS [qv 11 .eql [.i] 3 8, qm 10 11]
 (.cond (.t 10) (.seq (.ops [qc 2 7]) .ret) .skip))))))))))
 (.seq (.ops [qm 12 0, qm 2 12]) .ret)))
def r_condition_dual : List RVar := [.tmp 2]
def n_condition_dual : Nat := 13
theorem k_condition_dual : chkFn Go.Proofs.Tryz.prog 94 n_condition_dual r_condition_dual c_condition_dual = true := by kernel_rfl
theorem f_condition_dual (k : Int) : Fc Go.Proofs.Tryz.prog 94 [.int .i64 k] (.int .i64 (dualI k)) := by
  refine Fn.step mixed k_condition_dual ?_
  repeat' (first | refine i_s rfl ?_ | refine sw ?_ | refine c_cond rfl (fun h => ?_) (fun h => ?_))
  all_goals (refine e_ret ⟨rfl, _, rfl, congrArg (V.int .i64) ?_⟩; unfold dualI; simp at *; (repeat' split) <;> omega)
def c_condition_negator_put : Cmd :=
 (qS [qx 3 6080199 7 1, qc 4 0]
 (qS [qm 5 0, qm 6 0, qq 7 (.nilck (.t 6)), qf 8 1 7, ql 9 1 8, qL 10 7 3, qq 11 (.bsl 7 [.t 10]), qq 12 (.append 7 88 64 (.t 9) (.t 11)), qq 13 (.nilck (.t 5)), qf 14 1 13, qs 1 14 12]
 (.seq (.ops [qm 15 0, qq 16 (.nilck (.t 15)), qf 17 1 16, ql 18 1 17, qn 19 18, qv 20 .sub [] 19 1, qm 4 20]) .ret)))
def r_condition_negator_put : List RVar := [.tmp 4]
def n_condition_negator_put : Nat := 21
theorem k_condition_negator_put : chkFn Go.Proofs.Tryz.prog 95 n_condition_negator_put r_condition_negator_put c_condition_negator_put = true := by kernel_rfl
theorem ct_put {G : Type} {H : HT G} (l out : List Cn) (hl : out.length ≤ 1000) (n : Cn) (g : G) :
    Cc Go.Proofs.Tryz.prog H 95 [.bptr 1153218 0, cnV n] [1153218, 1156551] (stOf (ngS l out)) g fun r σ' g' => r = .int .i64 out.length ∧ σ' = stOf (ngS l (out ++ [n])) ∧ g' = g := by
  have hla : (out ++ [n]).length = out.length + 1 := by simp
  refine CT.step _ mixed k_condition_negator_put two_mem fun hM => ?_
  repeat (first | refine i_s rfl ?_ | refine sw ?_ | refine i_box rfl rfl ?_)
  refine i_appM (c := n) rfl rfl rfl rfl rfl (by omega) (by omega) ?_
  repeat (first | refine i_len rfl ?_ | refine i_s rfl ?_ | refine sw ?_ | refine jb rfl rfl ?_ | refine i_stb rfl ?_)
  refine e_ret ⟨rfl, _, rfl, rfl, rfl, ?_, ?_, rfl⟩
  · show V.int _ _ = V.int _ _
    congr 1
    simp
  · rw [restr_stOf, show ngS l (out ++ [n]) = [(1153218, .box (.agg [.sl .p (l.map cnV), .sl (.own 1156551) ((out ++ [n]).map cnV)])), (1156551, .vec (out.length + 1))] from by unfold ngS; rw [hla]]
    rfl
def c_condition_negator_copy : Cmd :=
 (qS [qc 6 0]
 (qS [qm 11 0, qq 12 (.nilck (.t 11)), qf 13 0 12, ql 14 1 13, qm 15 1, qi 16 7 14 15, qL 17 7 16, qq 7 (.alloc 3456455 (.agg [.int .i64 0, .sl .nil [], .int .i64 0, .sl .nil [], .int .i64 0, .int .i64 0, .int .i64 0])), qs 7 7 17]
 (qT (qS [qf 18 0 7, ql 19 1 18, qv 20 .eql [.i] 19 4]
 (.cond (.t 20) (.seq (.ops [qm 21 0, qf 22 1 7, ql 23 1 22, qq 24 (.iaddr 1 (.t 23) (.c (.int .i64 0))), ql 25 1 24, qm 26 2, qq 27 (.not (.t 26)), qq 28 (.call (.s [1153218, 1156551]) (.c (.fn 54 [])) [.t 21, .t 25, .t 27]), qm 6 28]) .ret) .skip))
 (qS [qf 29 0 7, ql 30 1 29, qf 31 2 7, qf 32 0 31, ql 33 1 32, qf 34 2 7, qf 35 1 34, ql 36 1 35, qk 37 55 [36], qq 38 (.build [.int .i64 0, .sl .nil []] [(0 , 1 , .t 33), (1 , 1 , .t 37)]), qf 39 4 7, ql 40 1 39, qf 41 5 7, ql 42 1 41, qf 43 6 7, ql 44 1 43, qq 45 (.build [.int .i64 0, .sl .nil [], .int .i64 0, .sl .nil [], .int .i64 0, .int .i64 0, .int .i64 0] [(0 , 1 , .t 30), (2 , 2 , .t 38), (4 , 1 , .t 40), (5 , 1 , .t 42), (6 , 1 , .t 44)]), qq 8 (.alloc 3456519 (.agg [.int .i64 0, .sl .nil [], .int .i64 0, .sl .nil [], .int .i64 0, .int .i64 0, .int .i64 0])), qs 7 8 45]
 (.seq (qS [qm 46 2]
 (.cond (.t 46) (.ops [qf 47 0 7, ql 48 1 47, qk 49 94 [48], qf 50 0 8, qs 1 50 49]) .skip)) (.nvb 8 1 3461185 (.cut (.seq (qS [qf 51 1 7, ql 52 1 51, qn 53 52, qc 54 0]
 (.block 0 (.loop (qS [qu 55 .lss [] 54 53]
 (qT (.cond (.t 55) .skip (.exit 0))
 (qT (.block 1 (qS [qi 56 1 52 54, ql 57 1 56, qm 10 57]
 (.opsT (.node 0 5 (.node 1 5 (.leaf [0, 1, 2, 3, 4, 5, 6, 7, 8, 9]) (.leaf [0, 2, 3, 4, 5, 1, 6, 7, 8, 9])) (.leaf [2, 3, 4, 5, 0, 1, 6, 7, 8, 9])) [qf 58 1 8, ql 59 1 58, qm 60 0, qm 61 10, qm 62 2, qq 63 (.call (.s [1153218, 1156551]) (.c (.fn 54 [])) [.t 60, .t 61, .t 62]), qq 64 (.bsl 1 [.t 63]), qq 65 (.append 1 8 3 (.t 59) (.t 64)), qf 66 1 8, qs 1 66 65])))
 (.ops [qv 67 .add [] 54 1, qm 54 67]))))))) (.fzb 8 1 (.cut (qT (.block 2 (qS [qm 69 2, qq 70 (.not (.t 69)), qm 68 70]
 (.cond (.t 68) .skip (qS [qf 72 0 7, ql 73 1 72, qv 74 .eql [.i] 73 1, qm 71 74]
 (.cond (.t 71) (.seq (.ops [qm 75 0, qq 76 (.build [.int .i64 0, .sl .p [], .int .i64 0, .sl .p [], .int .i64 0, .int .i64 0, .int .i64 0] [(0 , 1 , .c (.int .i64 6))]), qq 77 (.call (.s [1153218, 1156551]) (.c (.fn 95 [])) [.t 75, .t 76]), qm 6 77]) .ret) (qS [qf 79 0 7, ql 80 1 79, qv 81 .eql [.i] 80 2, qm 82 81, qg 83 82 false (.faddr 0 (.t 7)), qg 84 82 false (.load false 1 (.t 83)), qg 85 82 false (.bin .eql false [.i] (.t 84) (.c (.int .i64 3))), qq 86 (.pick (.t 82) (.c (.bool true)) (.t 85)), qm 78 86]
 (.cond (.t 78) (.seq (.ops [qm 87 0, qm 88 0, qL 89 7 8, qq 90 (.call (.s [1153218, 1156551]) (.c (.fn 95 [])) [.t 88, .t 89]), qq 91 (.bsl 1 [.t 90]), qq 92 (.build [.int .i64 0, .sl .p [], .int .i64 0, .sl .p [], .int .i64 0, .int .i64 0, .int .i64 0] [(0 , 1 , .c (.int .i64 4)), (1 , 1 , .t 91)]), qq 93 (.call (.s [1153218, 1156551]) (.c (.fn 95 [])) [.t 87, .t 92]), qm 6 93]) .ret) .skip)))))))
 (.seq (.ops [qm 94 0, qL 95 7 8, qq 96 (.call (.s [1153218, 1156551]) (.c (.fn 95 [])) [.t 94, .t 95]), qm 6 96]) .ret))))))))))))
def r_condition_negator_copy : List RVar := [.tmp 6]
def n_condition_negator_copy : Nat := 97
theorem k_condition_negator_copy : chkFn Go.Proofs.Tryz.prog 54 n_condition_negator_copy r_condition_negator_copy c_condition_negator_copy = true := by kernel_rfl
theorem ct_copy {G : Type} {H : HT G} (d : Dom) (l : List Cn) (ho : ∀ n ∈ l, CnOk n) (h30 : l.length ≤ 30) : ∀ (i a : Nat) (ps : List Int) (neg : Bool) (out : List Cn) (g : G), ST d l true a (i + 1) ps [] → out.length + 2 * (i + 1 - a) ≤ 500 →
    Cc Go.Proofs.Tryz.prog H 54 [.bptr 1153218 0, .int .i64 i, .bool neg] [1153218, 1156551] (stOf (ngS l out)) g fun r σ' g' =>
      r = .int .i64 (((out.length + (ng l out.length i neg).length : Nat) : Int) - 1) ∧ σ' = stOf (ngS l (out ++ ng l out.length i neg)) ∧ g' = g := by
  intro i
  induction i using Nat.strongRecOn with
  | ind i ih =>
    intro a ps neg out g hst hbd
    obtain ⟨j, n, e, haj, hn, ok, hkids⟩ := hst.root
    obtain rfl : i = j := by omega
    have hno := ho n (mem_get hn)
    have hnc := hno.ch
    have hil := get_lt hn
    by_cases k4 : n.kind = 4
    · have hng := ng_eq hst hn out.length neg
      rw [if_pos k4] at hng
      rw [hng]
      obtain ⟨k, hch⟩ := arity_one ok (.inl k4)
      obtain ⟨a', ha', x0, x1, _, hs, _⟩ := hkids.nth rfl 0 k (by rw [hch]; rfl)
      have e0 : ch0 n = k.toNat := by unfold ch0; rw [hch]; rfl
      have hC := ih k.toNat (by omega) a' _ (!neg) out g hs (by omega)
      rw [show ((k.toNat : Nat) : Int) = k from by omega, ← e0] at hC
      generalize ng l out.length (ch0 n) (!neg) = blk at *
      have hk0 : [k][(0 : Int).toNat]? = some k := rfl
      rw [← hch] at hk0
      clear ih hst hkids hs hng ok hno
      refine CT.step _ mixed k_condition_negator_copy two_mem fun hM => ?_
      repeat' (first | refine i_s rfl ?_ | refine sw ?_ | refine jd rfl rfl ?_ | refine i_stb rfl ?_ | refine i_alloc rfl ?_ | refine c_cond rfl (fun h => ?_) (fun h => ?_))
      all_goals first
        | (exfalso; clear hC; simp_all; done)
        | skip
      refine i_cs rfl rfl rfl rfl hC ?_
      rintro _ _ _ ⟨rfl, rfl, rfl⟩
      repeat' (first | refine i_s rfl ?_ | refine sw ?_ | fail)
      exact e_ret ⟨rfl, _, rfl, rfl, rfl, rfl, restr_stOf _ _, rfl⟩
    have hng := ng_eq hst hn out.length neg
    rw [if_neg k4] at hng
    rw [hng]
    have hCl := f_slices_Clone_int n.at_.args hno.at_.len
    have hDu := f_condition_dual n.kind
    have hal := hno.at_.len
    have hfull := (ng_len hkids).2 rfl out.length neg
    refine CT.step _ mixed k_condition_negator_copy two_mem fun hM => ?_
    cases neg
    all_goals
      repeat' (first | refine i_s rfl ?_ | refine sw ?_ | refine c_t rfl ?_ | refine c_f rfl ?_ | refine jd rfl rfl ?_ | refine i_stb rfl ?_ | refine i_alloc rfl ?_ | refine c_cond rfl (fun h => ?_) (fun h => ?_) | refine sf rfl rfl hCl ?_ | refine sf rfl rfl hDu ?_ | fail)
    all_goals first
      | (exfalso; clear hCl hDu; simp at *; done)
      | (exfalso; clear hCl hDu; simp_all; done)
      | skip
    all_goals
      refine c_nvb rfl rfl rfl rfl ?_
      repeat (first | refine i_len rfl ?_ | refine i_s rfl ?_ | refine sw ?_)
    · have hk0 : out ++ (ngL (fun b k => ng l b k.toNat false) out.length (n.ch.take 0)).1 = out := by simp [ngL]
      refine c_for n.ch.length (fun k => [(0, .bptr 1153218 0), (2, .bool false), (7, .bptr 3456455 0), (8, .bptr 3456519 0), (52, .sl .p (n.ch.map i64V)), (53, .int .i64 n.ch.length), (54, .int .i64 k)])
        (fun k => [(1153218, .box (.agg [.sl .p (l.map cnV), .sl (.own 1156551) ((out ++ (ngL (fun b k => ng l b k.toNat false) out.length (n.ch.take k)).1).map cnV)])), (1156551, .vec (out ++ (ngL (fun b k => ng l b k.toNat false) out.length (n.ch.take k)).1).length), (3456455, .box (cnV n)),
          (3456519, .box (.agg [.int .i64 n.kind, .sl (.own 3461185) ((ngL (fun b k => ng l b k.toNat false) out.length (n.ch.take k)).2.map i64V), .int .i64 n.at_.pred, .sl .p (n.at_.args.map i64V), .int .i64 n.left, .int .i64 n.right, .int .i64 n.type])), (3461185, .vec (ngL (fun b k => ng l b k.toNat false) out.length (n.ch.take k)).2.length)])
        (fun _ => True) trivial ⟨⟨rfl, rfl, rfl, rfl, rfl, rfl, rfl, trivial⟩, ⟨by rw [hk0]; rfl, by rw [hk0]; rfl, rfl, rfl, rfl, trivial⟩, rfl⟩ fun k hk _ => ?_
      by_cases hlt : k < n.ch.length
      · obtain ⟨x, hx⟩ := get_some hlt
        obtain ⟨a', h1, h2, h3, h4, h5, h6⟩ := hkids.nth rfl k x hx
        have hP := (ng_len h6).2 rfl out.length false
        have hsn := ngL_snoc (fun b k => ng l b k.toNat false) (n.ch.take k) out.length x
        have hil2 := ngL_len (fun b k => ng l b k.toNat false) (n.ch.take k) out.length
        rw [← take_succ_get hx] at hsn
        generalize ngL (fun b k => ng l b k.toNat false) out.length (n.ch.take k) = PK at *
        have hol : (out ++ PK.1).length = out.length + PK.1.length := by simp
        have hC := ih x.toNat (by omega) a' _ false (out ++ PK.1) g h5 (by omega)
        have hgl := ng_len1 h5 (out.length + PK.1.length) false
        rw [show ((x.toNat : Nat) : Int) = x from by omega, hol] at hC
        skip
        generalize ng l (out.length + PK.1.length) x.toNat false = blk at *
        have htl : PK.2.length ≤ k := by rw [hil2]; simp; omega
        have hnc30 : n.ch.length ≤ 17592186044416 := hnc
        clear ih hst hkids h5 h6 hng ok hno hCl hDu hk0
        repeat' (first | refine i_s rfl ?_ | refine sw ?_ | refine jd rfl rfl ?_ | (refine sp ?_ ?_ <;> try intro h) | fail)
        all_goals first
          | (exfalso; simp at *; omega)
          | skip
        all_goals
          refine i_cs rfl rfl rfl rfl hC ?_
          rintro _ _ _ ⟨rfl, rfl, rfl⟩
          repeat' refine i_s rfl ?_
        all_goals
          refine i_appM (c := (((out.length + PK.1.length + blk.length : Nat) : Int) - 1)) rfl rfl rfl rfl rfl (by omega) (by omega) ?_
          repeat' (first | refine i_s rfl ?_ | refine sw ?_ | refine ja rfl rfl ?_ | refine i_stb rfl ?_)
        all_goals
          refine e_for hlt trivial ⟨⟨rfl, rfl, rfl, rfl, rfl, rfl, rfl, trivial⟩, ⟨?_, ?_, rfl, ?_, ?_, trivial⟩, rfl⟩
        all_goals rw [hsn]
        all_goals first
          | rfl
          | (simp only [List.append_assoc]; rfl)
          | (simp; rfl)
          | simp
      · have hge : k = n.ch.length := by omega
        subst hge
        rw [List.take_length]
        generalize hPK : ngL (fun b k => ng l b k.toNat false) out.length n.ch = PK at *
        have hol : (out ++ PK.1).length = out.length + PK.1.length := by simp
        clear ih hst hng hno hDu hk0 hPK hlt
        have hpu := ct_put (H := H) l (out ++ PK.1) (by omega) ⟨n.kind, PK.2, n.at_, n.left, n.right, n.type⟩ g
        have hN : ngN n PK.2 false (out.length + PK.1.length) = [⟨n.kind, PK.2, n.at_, n.left, n.right, n.type⟩] := by unfold ngN; rw [if_pos rfl]
        rw [hN]
        clear hN hkids ok
        repeat' (first | refine i_s rfl ?_ | refine sw ?_ | refine c_t rfl ?_ | refine c_cond rfl (fun h => ?_) (fun h => ?_) | refine c_fzb rfl rfl rfl rfl ?_)
        all_goals first
          | (exfalso; simp at *; done)
          | (exfalso; simp at *; omega)
          | skip
        all_goals
          refine i_cs rfl rfl rfl rfl hpu ?_
          rintro _ _ _ ⟨rfl, rfl, rfl⟩
          repeat' (first | refine i_s rfl ?_ | refine sw ?_ | fail)
        all_goals
          refine e_ret ⟨rfl, _, rfl, rfl, rfl, ?_, ?_, rfl⟩
          · show V.int _ _ = V.int _ _
            congr 1
            simp
            omega
          · rw [restr_stOf, ← List.append_assoc]
            rfl
    · have hk0 : out ++ (ngL (fun b k => ng l b k.toNat true) out.length (n.ch.take 0)).1 = out := by simp [ngL]
      refine c_for n.ch.length (fun k => [(0, .bptr 1153218 0), (2, .bool true), (7, .bptr 3456455 0), (8, .bptr 3456519 0), (52, .sl .p (n.ch.map i64V)), (53, .int .i64 n.ch.length), (54, .int .i64 k)])
        (fun k => [(1153218, .box (.agg [.sl .p (l.map cnV), .sl (.own 1156551) ((out ++ (ngL (fun b k => ng l b k.toNat true) out.length (n.ch.take k)).1).map cnV)])), (1156551, .vec (out ++ (ngL (fun b k => ng l b k.toNat true) out.length (n.ch.take k)).1).length), (3456455, .box (cnV n)),
          (3456519, .box (.agg [.int .i64 (dualI n.kind), .sl (.own 3461185) ((ngL (fun b k => ng l b k.toNat true) out.length (n.ch.take k)).2.map i64V), .int .i64 n.at_.pred, .sl .p (n.at_.args.map i64V), .int .i64 n.left, .int .i64 n.right, .int .i64 n.type])), (3461185, .vec (ngL (fun b k => ng l b k.toNat true) out.length (n.ch.take k)).2.length)])
        (fun _ => True) trivial ⟨⟨rfl, rfl, rfl, rfl, rfl, rfl, rfl, trivial⟩, ⟨by rw [hk0]; rfl, by rw [hk0]; rfl, rfl, rfl, rfl, trivial⟩, rfl⟩ fun k hk _ => ?_
      by_cases hlt : k < n.ch.length
      · obtain ⟨x, hx⟩ := get_some hlt
        obtain ⟨a', h1, h2, h3, h4, h5, h6⟩ := hkids.nth rfl k x hx
        have hP := (ng_len h6).2 rfl out.length true
        have hsn := ngL_snoc (fun b k => ng l b k.toNat true) (n.ch.take k) out.length x
        have hil2 := ngL_len (fun b k => ng l b k.toNat true) (n.ch.take k) out.length
        rw [← take_succ_get hx] at hsn
        generalize ngL (fun b k => ng l b k.toNat true) out.length (n.ch.take k) = PK at *
        have hol : (out ++ PK.1).length = out.length + PK.1.length := by simp
        have hC := ih x.toNat (by omega) a' _ true (out ++ PK.1) g h5 (by omega)
        have hgl := ng_len1 h5 (out.length + PK.1.length) true
        rw [show ((x.toNat : Nat) : Int) = x from by omega, hol] at hC
        skip
        generalize ng l (out.length + PK.1.length) x.toNat true = blk at *
        have htl : PK.2.length ≤ k := by rw [hil2]; simp; omega
        have hnc30 : n.ch.length ≤ 17592186044416 := hnc
        clear ih hst hkids h5 h6 hng ok hno hCl hDu hk0
        repeat' (first | refine i_s rfl ?_ | refine sw ?_ | refine jd rfl rfl ?_ | (refine sp ?_ ?_ <;> try intro h) | fail)
        all_goals first
          | (exfalso; simp at *; omega)
          | skip
        all_goals
          refine i_cs rfl rfl rfl rfl hC ?_
          rintro _ _ _ ⟨rfl, rfl, rfl⟩
          repeat' refine i_s rfl ?_
        all_goals
          refine i_appM (c := (((out.length + PK.1.length + blk.length : Nat) : Int) - 1)) rfl rfl rfl rfl rfl (by omega) (by omega) ?_
          repeat' (first | refine i_s rfl ?_ | refine sw ?_ | refine ja rfl rfl ?_ | refine i_stb rfl ?_)
        all_goals
          refine e_for hlt trivial ⟨⟨rfl, rfl, rfl, rfl, rfl, rfl, rfl, trivial⟩, ⟨?_, ?_, rfl, ?_, ?_, trivial⟩, rfl⟩
        all_goals rw [hsn]
        all_goals first
          | rfl
          | (simp only [List.append_assoc]; rfl)
          | (simp; rfl)
          | simp
      · have hge : k = n.ch.length := by omega
        subst hge
        rw [List.take_length]
        generalize hPK : ngL (fun b k => ng l b k.toNat true) out.length n.ch = PK at *
        have hol : (out ++ PK.1).length = out.length + PK.1.length := by simp
        clear ih hst hng hno hDu hk0 hPK hlt
        by_cases k1 : n.kind = 1
        · have hpu := ct_put (H := H) l (out ++ PK.1) (by omega) (zCn 6 []) g
          have hN : ngN n PK.2 true (out.length + PK.1.length) = [zCn 6 []] := by unfold ngN; rw [if_neg (by simp), if_pos k1]
          rw [hN]
          clear hN hkids ok
          repeat' (first | refine i_s rfl ?_ | refine sw ?_ | refine i_gt rfl ?_ | refine i_gf rfl ?_ | refine c_t rfl ?_ | refine c_f rfl ?_ | (refine sp ?_ ?_ <;> try intro h) | refine c_fzb rfl rfl rfl rfl ?_)
          all_goals first
            | (exfalso; simp at *; done)
            | (exfalso; simp at *; omega)
            | skip
          all_goals
            refine i_cs rfl rfl rfl rfl hpu ?_
            rintro _ _ _ ⟨rfl, rfl, rfl⟩
            repeat' (first | refine i_s rfl ?_ | refine sw ?_ | fail)
          all_goals
            refine e_ret ⟨rfl, _, rfl, rfl, rfl, ?_, ?_, rfl⟩
            · show V.int _ _ = V.int _ _
              congr 1
              simp
              omega
            · rw [restr_stOf, ← List.append_assoc]
              rfl
        by_cases k23 : n.kind = 2 ∨ n.kind = 3
        · have hd0 : dualI n.kind = n.kind := by unfold dualI; (repeat' split) <;> omega
          have hpu := ct_put (H := H) l (out ++ PK.1) (by omega) ⟨n.kind, PK.2, n.at_, n.left, n.right, n.type⟩ g
          have hpu2 := ct_put (H := H) l (out ++ PK.1 ++ [⟨n.kind, PK.2, n.at_, n.left, n.right, n.type⟩]) (by simp; omega) (zCn 4 [((out.length + PK.1.length : Nat) : Int)]) g
          have hN : ngN n PK.2 true (out.length + PK.1.length) = [⟨n.kind, PK.2, n.at_, n.left, n.right, n.type⟩, zCn 4 [((out.length + PK.1.length : Nat) : Int)]] := by unfold ngN; rw [if_neg (by simp), if_neg k1, if_pos k23]
          rw [hN, hd0]
          rw [hol] at hpu
          clear hN hkids ok
          repeat' (first | refine i_s rfl ?_ | refine sw ?_ | refine i_gt rfl ?_ | refine i_gf rfl ?_ | refine c_t rfl ?_ | refine c_f rfl ?_ | (refine sp ?_ ?_ <;> try intro h) | refine c_fzb rfl rfl rfl rfl ?_)
          all_goals first
            | (exfalso; simp at *; done)
            | (exfalso; simp at *; omega)
            | skip
          all_goals
            refine i_cs rfl rfl rfl rfl hpu ?_
            rintro _ _ _ ⟨rfl, rfl, rfl⟩
            repeat' refine i_s rfl ?_
          all_goals
            refine i_cs rfl rfl rfl rfl hpu2 ?_
            rintro _ _ _ ⟨rfl, rfl, rfl⟩
            repeat' (first | refine i_s rfl ?_ | refine sw ?_ | fail)
          all_goals
            refine e_ret ⟨rfl, _, rfl, rfl, rfl, ?_, ?_, rfl⟩
            · show V.int _ _ = V.int _ _
              congr 1
              simp
              omega
            · rw [restr_stOf, show out ++ (PK.1 ++ [(⟨n.kind, PK.2, n.at_, n.left, n.right, n.type⟩ : Cn), zCn 4 [((out.length + PK.1.length : Nat) : Int)]]) = out ++ PK.1 ++ [⟨n.kind, PK.2, n.at_, n.left, n.right, n.type⟩] ++ [zCn 4 [((out.length + PK.1.length : Nat) : Int)]] from by simp]
              rfl
        · have hpu := ct_put (H := H) l (out ++ PK.1) (by omega) ⟨dualI n.kind, PK.2, n.at_, n.left, n.right, n.type⟩ g
          have hN : ngN n PK.2 true (out.length + PK.1.length) = [⟨dualI n.kind, PK.2, n.at_, n.left, n.right, n.type⟩] := by unfold ngN; rw [if_neg (by simp), if_neg k1, if_neg k23]
          rw [hN]
          clear hN hkids ok
          repeat' (first | refine i_s rfl ?_ | refine sw ?_ | refine i_gt rfl ?_ | refine i_gf rfl ?_ | refine c_t rfl ?_ | refine c_f rfl ?_ | (refine sp ?_ ?_ <;> try intro h) | refine c_fzb rfl rfl rfl rfl ?_)
          all_goals first
            | (exfalso; simp at *; done)
            | (exfalso; simp at *; omega)
            | skip
          all_goals
            refine i_cs rfl rfl rfl rfl hpu ?_
            rintro _ _ _ ⟨rfl, rfl, rfl⟩
            repeat' (first | refine i_s rfl ?_ | refine sw ?_ | fail)
          all_goals
            refine e_ret ⟨rfl, _, rfl, rfl, rfl, ?_, ?_, rfl⟩
            · show V.int _ _ = V.int _ _
              congr 1
              simp
              omega
            · rw [restr_stOf, ← List.append_assoc]
              rfl
end Hm
end
section
namespace Hm
open Go
def Lies (l : List Cn) (q : Nat) (x : List Cn) : Prop := ∀ j n, x[j]? = some n → l[q + j]? = some n
theorem Lies.left {l : List Cn} {q : Nat} {x y : List Cn} (h : Lies l q (x ++ y)) : Lies l q x := fun j n hj => h j n (by rw [List.getElem?_append_left (get_lt hj)]; exact hj)
theorem Lies.right {l : List Cn} {q : Nat} {x y : List Cn} (h : Lies l q (x ++ y)) : Lies l (q + x.length) y := fun j n hj => by
  rw [Nat.add_assoc]
  exact h _ n (by rw [List.getElem?_append_right (by omega), Nat.add_sub_cancel_left]; exact hj)
theorem leaf_not {d : Dom} {n : Cn} {ps : List Int} (h2 : n.kind ≠ 2) (h3 : n.kind ≠ 3) : leafCode d n ps = 0 := by unfold leafCode; rw [if_neg h2, if_neg h3]
theorem NOk.same {d : Dom} {n : Cn} {ps : List Int} (ok : NOk d n ps) (is : List Int) (h : is.length = n.ch.length) : NOk d ⟨n.kind, is, n.at_, n.left, n.right, n.type⟩ ps :=
  ⟨ok.k0, ok.k8, fun h0 => by rw [h]; exact ok.ar h0, ok.qu, ok.lf⟩
theorem NOk.z4 {d : Dom} {ps : List Int} {b : Int} : NOk d (zCn 4 [b]) ps := ⟨(show (1 : Int) ≤ 4 by decide), (show (4 : Int) ≤ 8 by decide), fun _ => rfl, if_pos (show quantK 4 = false by decide), leaf_not (show (4 : Int) ≠ 2 by decide) (show (4 : Int) ≠ 3 by decide)⟩
def negC (c : Cnd) : Cnd := ⟨c.types, ng c.nodes 0 (c.nodes.length - 1) true⟩
end Hm
end
section
namespace Hm
open Go
set_option maxRecDepth 100000
set_option maxHeartbeats 4000000
def negFault (d : Dom) (c : Cnd) : Flt := if condFault d c ≠ okF then condFault d c else if (negC c).nodes.length > 30 then ⟨10, -13⟩ else okF
def negOut (d : Dom) (c : Cnd) : Cnd := if negFault d c = okF then negC c else ⟨[], []⟩
def c_condition_Negate : Cmd :=
 (qS [qx 2 1152134 6 0, qx 3 1152194 2 1, qq 4 (.alloc 1152258 (.agg [.sl .nil [], .sl .nil []])), qq 5 (.alloc 1152322 (.agg [.int .i64 0, .int .i64 0]))]
 (qT (qS [qL 8 6 2, qL 9 2 3, qk 10 11 [8, 9], qq 6 (.alloc 1152386 (.agg [.int .i64 0, .int .i64 0])), qs 2 6 10]
 (qS [qL 11 2 6, qq 12 (.build [.int .i64 0, .int .i64 0] []), qq 13 (.bin .neq true [.i, .i] (.t 11) (.t 12))]
 (.cond (.t 13) (.seq (.opsT (.node 1 2 (.leaf [0, 1, 2, 3]) (.leaf [0, 2, 1, 3])) [qq 14 (.build [.sl .nil [], .sl .nil []] []), qL 15 2 6, qs 2 4 14, qs 2 5 15]) .ret) .skip)))
 (.seq (.ops [qf 16 1 3, ql 17 1 16, qq 18 (.build [.sl .nil [], .sl .nil []] [(0 , 1 , .t 17)]), qx 19 1153218 2 18, qm 7 19]) (.nvb 7 1 1156551 (.cut (qS [qm 20 7, qf 21 1 3, ql 22 1 21, qn 23 22, qv 24 .sub [] 23 1, qq 25 (.call (.s [1153218, 1156551]) (.c (.fn 54 [])) [.t 20, .t 24, .c (.bool true)])]
 (qT (qS [qm 26 7, qq 27 (.nilck (.t 26)), qf 28 1 27, ql 29 1 28, qn 30 29, qv 31 .gtr [] 30 30]
 (.cond (.t 31) (.seq (.ops [qq 32 (.build [.sl .nil [], .sl .nil []] []), qq 33 (.build [.int .i64 0, .int .i64 0] [(0 , 1 , .c (.int .i64 10)), (1 , 1 , .c (.int .i64 (-13)))]), qs 2 4 32, qs 2 5 33]) .ret) .skip))
 (.seq (.ops [qf 34 0 3, ql 35 1 34, qk 36 55 [35], qm 37 7, qq 38 (.nilck (.t 37)), qf 39 1 38, ql 40 1 39, qq 41 (.build [.sl .nil [], .sl .nil []] [(0 , 1 , .t 36), (1 , 1 , .t 40)]), qq 42 (.build [.int .i64 0, .int .i64 0] []), qs 2 4 41, qs 2 5 42]) .ret))))))))
def r_condition_Negate : List RVar := [.cell true 2 4, .cell true 2 5]
def n_condition_Negate : Nat := 43
theorem k_condition_Negate : chkFn Go.Proofs.Tryz.prog 18 n_condition_Negate r_condition_Negate c_condition_Negate = true := by kernel_rfl
theorem f_condition_Negate (d : Dom) (hdo : DoOk d) (c : Cnd) (ho : CndOk c) : Fc Go.Proofs.Tryz.prog 18 [domV d, cndV c] (.tup [cndV (negOut d c), ftV (negFault d c)]) := by
  have hV := f_condition_Validate d hdo c ho
  by_cases t1 : condFault d c = okF
  · rw [t1] at hV
    have hcv := cndV_of t1
    have h30 := hcv.len
    have hpos := hcv.pos
    have hCl := f_slices_Clone_int c.types (by have := ho.types; omega)
    have hC := ct_copy (H := noH) d c.nodes ho.nodes h30 (c.nodes.length - 1) 0 c.types true [] () hcv.root (by simp; omega)
    rw [show ((c.nodes.length - 1 : Nat) : Int) = (c.nodes.length : Int) - 1 from by omega] at hC
    have hfe : negFault d c = if (negC c).nodes.length > 30 then ⟨10, -13⟩ else okF := by unfold negFault; rw [if_neg (by simp [t1])]
    have hNl : (negC c).nodes = ng c.nodes 0 (c.nodes.length - 1) true := rfl
    have hNe : negC c = ⟨c.types, (negC c).nodes⟩ := rfl
    rw [show ([] : List Cn).length = 0 from rfl, ← hNl] at hC
    have hgl := ng_len1 hcv.root 0 true
    rw [← hNl] at hgl
    unfold negOut
    rw [hNe, hfe]
    generalize (negC c).nodes = NN at *
    clear hcv hdo ho hfe hNl hNe
    by_cases big : NN.length > 30
    · rw [if_pos big, if_neg (by simp [okF])]
      refine Fn.step mixed k_condition_Negate ?_
      repeat' (first | refine i_s rfl ?_ | refine sw ?_ | refine c_f rfl ?_ | refine i_stb rfl ?_ | refine i_alloc rfl ?_ | refine i_box rfl rfl ?_ | refine sf rfl rfl hV ?_ | fail)
      all_goals first
        | (exfalso; clear hV hC hCl; simp [okF] at *; done)
        | skip
      refine c_nvb rfl rfl rfl rfl ?_
      repeat (first | refine i_len rfl ?_ | refine i_s rfl ?_ | refine sw ?_ | refine jb rfl rfl ?_)
      refine i_cs rfl rfl rfl rfl hC ?_
      rintro _ _ _ ⟨rfl, rfl, rfl⟩
      repeat' (first | refine i_len rfl ?_ | refine i_s rfl ?_ | refine sw ?_ | refine i_stb rfl ?_ | refine c_cond rfl (fun h => ?_) (fun h => ?_) | refine sf rfl rfl hCl ?_ | fail)
      all_goals first
        | exact e_ret ⟨rfl, _, rfl, rfl⟩
        | (exfalso; clear hV hC hCl; simp at *; done)
        | (exfalso; clear hV hC hCl; simp at *; omega)
    · rw [if_neg big, if_pos rfl]
      refine Fn.step mixed k_condition_Negate ?_
      repeat' (first | refine i_s rfl ?_ | refine sw ?_ | refine c_f rfl ?_ | refine i_stb rfl ?_ | refine i_alloc rfl ?_ | refine i_box rfl rfl ?_ | refine sf rfl rfl hV ?_ | fail)
      all_goals first
        | (exfalso; clear hV hC hCl; simp [okF] at *; done)
        | skip
      refine c_nvb rfl rfl rfl rfl ?_
      repeat (first | refine i_len rfl ?_ | refine i_s rfl ?_ | refine sw ?_ | refine jb rfl rfl ?_)
      refine i_cs rfl rfl rfl rfl hC ?_
      rintro _ _ _ ⟨rfl, rfl, rfl⟩
      repeat' (first | refine i_len rfl ?_ | refine i_s rfl ?_ | refine sw ?_ | refine i_stb rfl ?_ | refine c_cond rfl (fun h => ?_) (fun h => ?_) | refine sf rfl rfl hCl ?_ | fail)
      all_goals first
        | exact e_ret ⟨rfl, _, rfl, rfl⟩
        | (exfalso; clear hV hC hCl; simp at *; done)
        | (exfalso; clear hV hC hCl; simp at *; omega)
  · have hfe : negFault d c = condFault d c := by unfold negFault; rw [if_pos t1]
    unfold negOut
    rw [hfe, if_neg t1]
    clear hdo ho hfe
    refine Fn.step mixed k_condition_Negate ?_
    repeat' (first | refine i_s rfl ?_ | refine sw ?_ | refine i_stb rfl ?_ | refine i_alloc rfl ?_ | refine i_box rfl rfl ?_ | (refine sp ?_ ?_ <;> try intro h) | refine sf rfl rfl hV ?_ | fail)
    all_goals first
      | exact e_ret ⟨rfl, _, rfl, rfl⟩
      | exact absurd (eq_ok (by assumption)) t1
def caV (l : List Lit) : V := .sl .p (l.map litV)
def flagI (x : Lit) : Int := if x.neg = true then 1 else 0
def c_condition_CompareLiterals_1 : Cmd :=
 (qS [qx 1 9152067 3 0, qc 2 0]
 (qT (qS [qf 3 0 1, ql 4 1 3]
 (.cond (.t 4) (.seq (.ops [qc 2 1]) .ret) .skip))
 (.seq (.ops [qc 2 0]) .ret)))
def r_condition_CompareLiterals_1 : List RVar := [.tmp 2]
def n_condition_CompareLiterals_1 : Nat := 5
theorem k_condition_CompareLiterals_1 : chkFn Go.Proofs.Tryz.prog 143 n_condition_CompareLiterals_1 r_condition_CompareLiterals_1 c_condition_CompareLiterals_1 = true := by kernel_rfl
theorem f_CompareLiterals_1 (x : Lit) : Fc Go.Proofs.Tryz.prog 143 [litV x] (.int .i64 (flagI x)) := by
  refine Fn.step mixed k_condition_CompareLiterals_1 ?_
  repeat' (first | refine i_s rfl ?_ | refine sw ?_ | refine i_box rfl rfl ?_ | refine c_cond rfl (fun h => ?_) (fun h => ?_))
  all_goals (refine e_ret ⟨rfl, _, rfl, congrArg (V.int .i64) ?_⟩; unfold flagI; simp [h])
def c_condition_CompareLiterals : Cmd :=
 (qS [qx 2 8768131 3 0, qx 3 8768195 3 1, qc 4 0]
 (qS [qq 5 (.mov (.c (.fn 143 [])))]
 (.seq (.ops [qf 6 1 2, qL 7 2 6, qf 8 1 3, qL 9 2 8, qk 10 46 [7, 9], qm 11 5, qL 12 3 2, qq 13 (.call .f (.t 11) [.t 12]), qm 14 5, qL 15 3 3, qq 16 (.call .f (.t 14) [.t 15]), qk 17 87 [13, 16], qq 18 (.bsl 1 [.t 10, .t 17]), qk 19 86 [18], qm 4 19]) .ret)))
def r_condition_CompareLiterals : List RVar := [.tmp 4]
def n_condition_CompareLiterals : Nat := 20
theorem k_condition_CompareLiterals : chkFn Go.Proofs.Tryz.prog 137 n_condition_CompareLiterals r_condition_CompareLiterals c_condition_CompareLiterals = true := by kernel_rfl
theorem f_CompareLiterals (x y : Lit) (hx : AtOk x.at_) (hy : AtOk y.at_) : Fc Go.Proofs.Tryz.prog 137 [litV x, litV y] (.int .i64 (litOrd x y)) := by
  have hD := f_domain_Compare x.at_ y.at_ hx hy
  have hX := f_CompareLiterals_1 x
  have hY := f_CompareLiterals_1 y
  have hC := f_Compare_int (flagI x) (flagI y)
  have hO := f_Or2 (atomOrd x.at_ y.at_) (signI (flagI x) (flagI y))
  have e : litOrd x y = if atomOrd x.at_ y.at_ ≠ 0 then atomOrd x.at_ y.at_ else signI (flagI x) (flagI y) := by
    unfold litOrd flagI signI
    cases x.neg <;> cases y.neg <;> simp
  rw [e]
  refine Fn.step mixed k_condition_CompareLiterals ?_
  repeat' (first | refine i_s rfl ?_ | refine sw ?_ | refine i_box rfl rfl ?_ | refine sf rfl rfl hD ?_ | refine sf rfl rfl hX ?_ | refine sf rfl rfl hY ?_ | refine sf rfl rfl hC ?_ | refine sf rfl rfl hO ?_ | fail)
  all_goals exact e_ret ⟨rfl, _, rfl, rfl⟩
def c_condition_merge_1 : Cmd :=
 (qS [qx 2 9088131 3 0, qx 3 9088195 3 1, qb 4 false]
 (.seq (.ops [qL 5 3 2, qL 6 3 3, qk 7 137 [5, 6], qv 8 .eql [.i] 7 0, qm 4 8]) .ret))
def r_condition_merge_1 : List RVar := [.tmp 4]
def n_condition_merge_1 : Nat := 9
theorem k_condition_merge_1 : chkFn Go.Proofs.Tryz.prog 142 n_condition_merge_1 r_condition_merge_1 c_condition_merge_1 = true := by kernel_rfl
theorem f_merge_1 (x y : Lit) (hx : AtOk x.at_) (hy : AtOk y.at_) : Fc Go.Proofs.Tryz.prog 142 [litV x, litV y] (.bool (decide (x = y))) := by
  have h := f_CompareLiterals x y hx hy
  refine Fn.step mixed k_condition_merge_1 ?_
  repeat' (first | refine i_s rfl ?_ | refine sw ?_ | refine i_box rfl rfl ?_ | refine sf rfl rfl h ?_ | fail)
  refine e_ret ⟨rfl, _, rfl, congrArg V.bool ?_⟩
  by_cases e : x = y
  · rw [litOrd_zero.2 e, decide_eq_true e]; rfl
  · have : litOrd x y ≠ 0 := fun h => e (litOrd_zero.1 h)
    rw [decide_eq_false e]
    simpa using this
def c_condition_expander_or_1_1 : Cmd :=
 (qS [qx 2 8704131 3 0, qx 3 8704195 3 1, qb 4 false]
 (.seq (.ops [qL 5 3 2, qL 6 3 3, qk 7 137 [5, 6], qv 8 .eql [.i] 7 0, qm 4 8]) .ret))
def r_condition_expander_or_1_1 : List RVar := [.tmp 4]
def n_condition_expander_or_1_1 : Nat := 9
theorem k_condition_expander_or_1_1 : chkFn Go.Proofs.Tryz.prog 136 n_condition_expander_or_1_1 r_condition_expander_or_1_1 c_condition_expander_or_1_1 = true := by kernel_rfl
theorem f_or_1_1 (x y : Lit) (hx : AtOk x.at_) (hy : AtOk y.at_) : Fc Go.Proofs.Tryz.prog 136 [litV x, litV y] (.bool (decide (x = y))) := by
  have h := f_CompareLiterals x y hx hy
  refine Fn.step mixed k_condition_expander_or_1_1 ?_
  repeat' (first | refine i_s rfl ?_ | refine sw ?_ | refine i_box rfl rfl ?_ | refine sf rfl rfl h ?_ | fail)
  refine e_ret ⟨rfl, _, rfl, congrArg V.bool ?_⟩
  by_cases e : x = y
  · rw [litOrd_zero.2 e, decide_eq_true e]; rfl
  · have : litOrd x y ≠ 0 := fun h => e (litOrd_zero.1 h)
    rw [decide_eq_false e]
    simpa using this
theorem take_all_eq {α : Type} {a b : List α} (hl : a.length = b.length) (h : ∀ j, j < a.length → a[j]? = b[j]?) : a = b := by
  apply List.ext_getElem?
  intro i
  by_cases hi : i < a.length
  · exact h i hi
  · rw [List.getElem?_eq_none (by omega), List.getElem?_eq_none (by omega)]
def c_slices_EqualFunc_Literal : Cmd :=
 (qS [qb 6 false]
 (qT (qS [qm 10 0, qn 11 10, qm 12 1, qn 13 12, qu 14 .neq [.i] 11 13]
 (.cond (.t 14) (.seq (.ops [qb 6 false]) .ret) .skip))
 (qT (qS [qm 15 0, qn 16 15, qc 17 0]
 (.block 0 (.loop (qS [qu 18 .lss [] 17 16]
 (qT (.cond (.t 18) .skip (.exit 0))
 (qT (.block 1 (qS [qm 19 17, qi 20 3 15 17, qL 21 3 20, qq 8 (.alloc 8640515 (.agg [.bool false, .int .i64 0, .sl .nil []])), qm 7 19, qs 3 8 21]
 (qS [qm 22 1, qm 23 7, qi 24 3 22 23, qL 25 3 24, qq 9 (.alloc 8640579 (.agg [.bool false, .int .i64 0, .sl .nil []])), qs 3 9 25]
 (qS [qm 26 2, qL 27 3 8, qL 28 3 9, qq 29 (.call .f (.t 26) [.t 27, .t 28]), qq 30 (.not (.t 29))]
 (.cond (.t 30) (.seq (.ops [qb 6 false]) .ret) .skip)))))
 (.ops [qv 31 .add [] 17 1, qm 17 31])))))))
 (.seq (.ops [qb 6 true]) .ret))))
def r_slices_EqualFunc_Literal : List RVar := [.tmp 6]
def n_slices_EqualFunc_Literal : Nat := 32
theorem k_slices_EqualFunc_Literal : chkFn Go.Proofs.Tryz.prog 135 n_slices_EqualFunc_Literal r_slices_EqualFunc_Literal c_slices_EqualFunc_Literal = true := by kernel_rfl
theorem f_EqualFunc (a b : List Lit) (ha : ∀ x ∈ a, AtOk x.at_) (hb : ∀ x ∈ b, AtOk x.at_) (hl : a.length ≤ 3518437208883) (hl2 : b.length ≤ 3518437208883) : Fc Go.Proofs.Tryz.prog 135 [caV a, caV b, .fn 136 []] (.bool (decide (a = b))) := by
  unfold caV
  by_cases hlen : a.length = b.length
  · refine Fn.step mixed k_slices_EqualFunc_Literal ?_
    repeat' (first | refine i_len rfl ?_ | refine i_s rfl ?_ | refine sw ?_ | refine c_cond rfl (fun h => ?_) (fun h => ?_))
    all_goals first
      | (exfalso; simp at *; done)
      | (exfalso; simp at *; omega)
      | skip
    refine c_for a.length (fun i => [(1, .sl .p (b.map litV)), (2, .fn 136 []), (15, .sl .p (a.map litV)), (16, .int .i64 a.length), (17, .int .i64 i)]) (fun _ => []) (fun i => ∀ j, j < i → a[j]? = b[j]?) all_zero ft fun i hi hall => ?_
    by_cases hlt : i < a.length
    · obtain ⟨x, hx⟩ := get_some hlt
      obtain ⟨y, hy⟩ := get_some (l := b) (k := i) (by omega)
      have hC := f_or_1_1 x y (ha x (mem_get hx)) (hb y (mem_get hy))
      by_cases e : x = y
      · rw [decide_eq_true e] at hC
        have hxy : a[i]? = b[i]? := by rw [hx, hy, e]
        clear ha hb
        repeat' (first | refine i_s rfl ?_ | refine sw ?_ | refine c_f rfl ?_ | refine ja rfl rfl ?_ | refine jd rfl rfl ?_ | refine i_stb rfl ?_ | refine i_alloc rfl ?_ | refine c_cond rfl (fun h => ?_) (fun h => ?_) | refine sf rfl rfl hC ?_ | fail)
        all_goals first
          | (exact e_for hlt (all_succ hall hxy) ft)
          | (exfalso; clear hC hall; simp at *; done)
          | (exfalso; clear hC hall; simp at *; omega)
      · rw [decide_eq_false e] at hC
        have hne : ¬ a = b := by rintro rfl; rw [hx] at hy; cases hy; exact e rfl
        rw [decide_eq_false hne]
        clear ha hb hall
        repeat' (first | refine i_s rfl ?_ | refine sw ?_ | refine c_t rfl ?_ | refine jd rfl rfl ?_ | refine i_stb rfl ?_ | refine i_alloc rfl ?_ | refine c_cond rfl (fun h => ?_) (fun h => ?_) | refine sf rfl rfl hC ?_ | fail)
        all_goals first
          | exact e_ret ⟨rfl, _, rfl, rfl⟩
          | (exfalso; clear hC; simp at *; done)
          | (exfalso; clear hC; simp at *; omega)
    · have hge : i = a.length := by omega
      subst hge
      rw [decide_eq_true (take_all_eq hlen hall)]
      clear hall ha hb
      repeat' (first | refine i_s rfl ?_ | refine sw ?_ | refine c_cond rfl (fun h => ?_) (fun h => ?_))
      all_goals first
        | exact e_ret ⟨rfl, _, rfl, rfl⟩
        | (exfalso; simp at *; done)
        | (exfalso; simp at *; omega)
  · have hne : ¬ a = b := fun e => hlen (by rw [e])
    rw [decide_eq_false hne]
    clear ha hb
    refine Fn.step mixed k_slices_EqualFunc_Literal ?_
    repeat' (first | refine i_len rfl ?_ | refine i_s rfl ?_ | refine sw ?_ | refine c_cond rfl (fun h => ?_) (fun h => ?_))
    all_goals first
      | exact e_ret ⟨rfl, _, rfl, rfl⟩
      | (exfalso; simp at *; done)
      | (exfalso; simp at *; omega)
def c_condition_expander_or_1 : Cmd :=
 (qS [qb 3 false]
 (.seq (.ops [ql 4 1 1, qm 5 0, qq 6 (.call .f (.c (.fn 135 [])) [.t 4, .t 5, .c (.fn 136 [])]), qm 3 6]) .ret))
def r_condition_expander_or_1 : List RVar := [.tmp 3]
def n_condition_expander_or_1 : Nat := 7
theorem k_condition_expander_or_1 : chkFn Go.Proofs.Tryz.prog 134 n_condition_expander_or_1 r_condition_expander_or_1 c_condition_expander_or_1 = true := by kernel_rfl
theorem f_or_1 (l m : List Lit) (ha : ∀ x ∈ l, AtOk x.at_) (hb : ∀ x ∈ m, AtOk x.at_) (hl : l.length ≤ 3518437208883) (hl2 : m.length ≤ 3518437208883) : Fc Go.Proofs.Tryz.prog 134 [caV m, .cptr .p (caV l) 0] (.bool (decide (l = m))) := by
  have hE := f_EqualFunc l m ha hb hl hl2
  refine Fn.step mixed k_condition_expander_or_1 ?_
  repeat' (first | refine i_s rfl ?_ | refine sw ?_ | refine sf rfl rfl hE ?_ | fail)
  all_goals exact e_ret ⟨rfl, _, rfl, rfl⟩
def c_slices_IndexFunc_Literal : Cmd :=
 (qS [qc 4 0]
 (qT (qS [qm 6 0, qn 7 6, qc 8 0]
 (.block 0 (.loop (qS [qu 9 .lss [] 8 7]
 (qT (.cond (.t 9) .skip (.exit 0))
 (qT (.block 1 (qS [qm 10 8, qm 5 10]
 (qS [qm 11 1, qm 12 0, qm 13 5, qi 14 1 12 13, ql 15 1 14, qq 16 (.call .f (.t 11) [.t 15])]
 (.cond (.t 16) (.seq (.ops [qm 17 5, qm 4 17]) .ret) .skip))))
 (.ops [qv 18 .add [] 8 1, qm 8 18])))))))
 (.seq (.ops [qc 4 (-1)]) .ret)))
def r_slices_IndexFunc_Literal : List RVar := [.tmp 4]
def n_slices_IndexFunc_Literal : Nat := 19
theorem k_slices_IndexFunc_Literal : chkFn Go.Proofs.Tryz.prog 144 n_slices_IndexFunc_Literal r_slices_IndexFunc_Literal c_slices_IndexFunc_Literal = true := by kernel_rfl
theorem f_IndexFunc_Literal (l : List (List Lit)) (p : (List Lit) → Bool) (fid : Nat) (caps : List V) (hl : l.length ≤ 140737488355328) (he : ∀ σ n, caps.map (er σ (n + 1)) = caps) (hc : closedL [] caps = true) (hp : ∀ t ∈ l, Fc Go.Proofs.Tryz.prog fid (caV t :: caps) (.bool (p t))) :
    Fc Go.Proofs.Tryz.prog 144 [.sl .p (l.map caV), .fn fid caps] (.int .i64 (fidx p l)) := by
  refine Fn.step mixed k_slices_IndexFunc_Literal ?_
  repeat (first | refine i_len rfl ?_ | refine i_s rfl ?_ | refine sw ?_)
  refine c_for l.length (fun k => [(0, .sl .p (l.map caV)), (1, .fn fid caps), (7, .int .i64 l.length), (8, .int .i64 k)]) (fun _ => []) (fun k => ∀ j, j < k → ∀ c, l[j]? = some c → p c = false) all_zero ?_ fun k hk hi => ?_
  · exact ⟨⟨rfl, rfl, rfl, rfl, trivial⟩, trivial, by simp [fitB, closedE, closedB, hc, closedSt, hasAll]⟩
  repeat (first | refine i_s rfl ?_ | refine sw ?_)
  refine c_cond rfl (fun h => ?_) (fun h => ?_)
  · have hlt : k < l.length := by simpa using h
    obtain ⟨c, hget⟩ := get_some hlt
    repeat (first | refine i_s rfl ?_ | refine sw ?_ | refine jd rfl rfl ?_)
    refine i_f rfl (congrArg (caV c :: ·) (he _ 5)) (hp c (mem_get hget)) rfl ?_
    repeat' (first | refine i_s rfl ?_ | refine sw ?_ | refine ja rfl rfl ?_ | refine c_cond rfl (fun h => ?_) (fun h => ?_))
    · refine e_ret ⟨rfl, _, rfl, congrArg (V.int .i64) (fidx_hit hi hget h)⟩
    · refine e_for hlt (all_succ hi fun c' hc' => ?_) ⟨⟨rfl, rfl, rfl, rfl, trivial⟩, trivial, by simp [fitB, closedE, closedB, hc, closedSt, hasAll]⟩
      rw [hget] at hc'; cases hc'; exact h
  · have hge : ¬ k < l.length := by simpa using h
    repeat' (first | refine i_s rfl ?_ | refine sw ?_ | fail)
    refine e_ret ⟨rfl, _, rfl, congrArg (V.int .i64) (fidx_none fun j hj => hi j (by omega))⟩
def c_slices_ContainsFunc_Literal : Cmd :=
 (qS [qb 4 false]
 (.seq (.ops [qm 5 0, qm 6 1, qk 7 144 [5, 6], qv 8 .geq [] 7 0, qm 4 8]) .ret))
def r_slices_ContainsFunc_Literal : List RVar := [.tmp 4]
def n_slices_ContainsFunc_Literal : Nat := 9
theorem k_slices_ContainsFunc_Literal : chkFn Go.Proofs.Tryz.prog 138 n_slices_ContainsFunc_Literal r_slices_ContainsFunc_Literal c_slices_ContainsFunc_Literal = true := by kernel_rfl
theorem f_ContainsFunc_Literal (l : List (List Lit)) (p : (List Lit) → Bool) (fid : Nat) (caps : List V) (hl : l.length ≤ 140737488355328) (he : ∀ σ n, caps.map (er σ (n + 1)) = caps) (hc : closedL [] caps = true) (hp : ∀ t ∈ l, Fc Go.Proofs.Tryz.prog fid (caV t :: caps) (.bool (p t))) :
    Fc Go.Proofs.Tryz.prog 138 [.sl .p (l.map caV), .fn fid caps] (.bool (l.any p)) := by
  refine Fn.step mixed k_slices_ContainsFunc_Literal ?_
  repeat (first | refine i_s rfl ?_ | refine sw ?_)
  refine i_f rfl (congrArg (fun x => [V.sl .p (l.map caV), .fn fid x]) (he _ 4)) (f_IndexFunc_Literal l p fid caps hl he hc hp) rfl ?_
  repeat' (first | refine i_s rfl ?_ | refine sw ?_ | fail)
  refine e_ret ⟨rfl, _, rfl, congrArg V.bool (fidx_any p l).symm⟩
def c_slices_Clone_Literal : Cmd :=
 (qS [qq 2 (.mov (.c (.sl .nil [])))]
 (qT (qS [qm 3 0, qq 4 (.isnil false (.t 3))]
 (.cond (.t 4) (.seq (.ops [qq 2 (.newArr 8512321)]) .ret) .skip))
 (.seq (.ops [qq 5 (.bslA 8512321 1 []), qm 6 0, qq 7 (.append 1 24 27 (.t 5) (.t 6)), qm 2 7]) .ret)))
def r_slices_Clone_Literal : List RVar := [.tmp 2]
def n_slices_Clone_Literal : Nat := 8
theorem k_slices_Clone_Literal : chkFn Go.Proofs.Tryz.prog 133 n_slices_Clone_Literal r_slices_Clone_Literal c_slices_Clone_Literal = true := by kernel_rfl
theorem ct_CloneCa {G : Type} {H : HT G} (s : List (List Lit)) (hl : s.length ≤ 1000000) (σ : Store) (g : G) (h1 : σ 8512321 = .unused) (hp : ∀ nm, σ nm ≠ .unused → nm ∈ [8512321]) :
    Cc Go.Proofs.Tryz.prog H 133 [.sl .p (s.map caV)] [8512321] σ g fun r σ' g' => (∃ gen, r = .msl 8512321 gen 0 s.length ∧ σ' = stOf [(8512321, .arr gen (s.map caV))]) ∧ g' = g := by
  refine CT.step _ mixed k_slices_Clone_Literal hp fun hM => ?_
  repeat (first | refine i_s rfl ?_ | refine sw ?_)
  refine i_isnil rfl fun b hb => ?_
  repeat refine sw ?_
  refine c_cond rfl (fun h => ?_) (fun h => ?_)
  · have e : s = [] := by simpa using hb (by simpa using h)
    subst e
    repeat refine sw ?_
    refine i_na h1 ?_
    repeat refine sw ?_
    exact e_ret ⟨rfl, _, rfl, rfl, rfl, ⟨0, rfl, restr_stOf _ _⟩, rfl⟩
  · repeat refine sw ?_
    refine i_bsla h1 rfl rfl rfl ?_
    repeat refine i_s rfl ?_
    refine i_appmM (l := []) (f := caV) s rfl rfl rfl rfl rfl (fun c hc => ⟨rfl, rfl⟩) (by simp; omega) (by simp; omega) ?_
    repeat (first | refine i_s rfl ?_ | refine sw ?_)
    refine e_ret ⟨rfl, _, rfl, rfl, rfl, ⟨1, rfl, ?_⟩, rfl⟩
    rw [restr_stOf]; rfl
end Hm
end
section
namespace Hm
open Go
abbrev Cs := List (List Lit)
def addCs (out : Cs) (l : List Lit) : Cs := if l ∈ out then out else out ++ [l]
def orL (a b : Cs) : Cs := b.foldl addCs a
def orP (a b : Cs) : Cs × Bool := if (orL a b).length > 40 then ([], true) else (orL a b, false)
def andStep (l : List Lit) (s : Cs × Bool) (m : List Lit) : Cs × Bool := match joinL l m with
  | some c => ((orP s.1 [c]).1, s.2 || (orP s.1 [c]).2)
  | none => s
def andP (a b : Cs) : Cs × Bool := a.foldl (fun s l => b.foldl (andStep l) s) ([], false)
def stepP (all : Bool) (s : Cs × Bool) (p : Cs) : Cs × Bool := if all = true then ((andP s.1 p).1, s.2 || (andP s.1 p).2) else ((orP s.1 p).1, s.2 || (orP s.1 p).2)
def someL (is : Bool) : Cs := if is = true then [[]] else []
def foldP (all : Bool) (parts : List Cs) : Cs × Bool := parts.foldl (stepP all) (someL all, false)
def partsP (all : Bool) (ps : List (Cs × Bool)) : Cs × Bool := ((foldP all (ps.map Prod.fst)).1, ps.any Prod.snd || (foldP all (ps.map Prod.fst)).2)
def conjK (k : Int) (neg : Bool) : Bool := (decide (k = 5) || decide (k = 8)) != neg
def ndF (d : Dom) (l : List Cn) : Nat → Nat → List Int → Bool → Cs × Bool
  | 0, _, _, _ => ([], false)
  | f + 1, i, args, neg => match l[i]? with
    | none => ([], false)
    | some n => if n.kind = 2 then ([[⟨neg, bindA args n.at_⟩]], false) else if n.kind = 3 then (someL (decide (objA args n.left = objA args n.right) != neg), false)
      else if n.kind = 4 then ndF d l f (ch0 n) args (!neg) else if n.kind = 1 then (someL (!neg), false)
      else if n.kind = 7 ∨ n.kind = 8 then partsP (conjK n.kind neg) ((membersOf d.types d.objects n.type).map fun o => ndF d l f (ch0 n) (args ++ [o]) neg)
      else partsP (conjK n.kind neg) (n.ch.map fun k => ndF d l f k.toNat args neg)
def nd (d : Dom) (l : List Cn) (i : Nat) (args : List Int) (neg : Bool) : Cs × Bool := ndF d l (i + 1) i args neg
def plusR (c : Cs × Bool) (l : List Lit) : Cs × Bool := if l ∈ c.1 then c else (c.1 ++ [l], c.2 || decide (c.1.length + 1 > 40))
def andStepR (l : List Lit) (s : Cs × Bool) (m : List Lit) : Cs × Bool := match joinL l m with
  | some c => if s.2 = true then s else plusR s c
  | none => s
def bothR (a b : Cs × Bool) (conj : Bool) : Cs × Bool := if (a.2 || b.2) = true then ([], true) else if conj = false then b.1.foldl plusR (a.1, false) else a.1.foldl (fun s l => b.1.foldl (andStepR l) s) ([], false)
def foldR (conj : Bool) (rs : List (Cs × Bool)) : Cs × Bool := rs.foldl (fun s q => bothR s q conj) (someL conj, false)
def caF (d : Dom) (l : List Cn) : Nat → Nat → List Int → Bool → Cs × Bool
  | 0, _, _, _ => ([], false)
  | f + 1, i, args, neg => match l[i]? with
    | none => ([], false)
    | some n => if n.kind = 1 then (someL (!neg), false) else if n.kind = 2 then ([[⟨neg, bindA args n.at_⟩]], false) else if n.kind = 3 then (someL (decide (objA args n.left = objA args n.right) != neg), false)
      else if n.kind = 4 then caF d l f (ch0 n) args (!neg)
      else if n.kind ≤ 6 then foldR (conjK n.kind neg) (n.ch.map fun k => caF d l f k.toNat args neg)
      else foldR (conjK n.kind neg) ((membersOf d.types d.objects n.type).map fun o => caF d l f (ch0 n) (args ++ [o]) neg)
def ca (d : Dom) (l : List Cn) (i : Nat) (args : List Int) (neg : Bool) : Cs × Bool := caF d l (i + 1) i args neg
theorem ndF_ok {d : Dom} {l : List Cn} : ∀ (f i a : Nat) (ps args : List Int) (neg : Bool), ST d l true a (i + 1) ps [] → i < f → ndF d l f i args neg = nd d l i args neg := by
  intro f i
  induction i using Nat.strongRecOn generalizing f with
  | ind i ih =>
    intro a ps args neg h hf
    obtain ⟨j, n, e, haj, hn, ok, hk⟩ := h.root
    obtain rfl : i = j := by omega
    obtain ⟨f, rfl⟩ : ∃ g, f = g + 1 := ⟨f - 1, by omega⟩
    have hkid := hk.kids rfl
    have key : ∀ k ∈ n.ch, ∀ args neg, ndF d l f k.toNat args neg = ndF d l i k.toNat args neg := fun k hm args neg => by
      obtain ⟨a', _, h0, h1, _, h2⟩ := hkid k hm
      rw [ih k.toNat (by omega) f _ _ _ _ h2 (by omega), ih k.toNat (by omega) i _ _ _ _ h2 (by omega)]
    have key0 : n.kind = 4 ∨ n.kind = 7 ∨ n.kind = 8 → ∀ args neg, ndF d l f (ch0 n) args neg = ndF d l i (ch0 n) args neg := fun h => by
      obtain ⟨k, hc⟩ := arity_one ok h
      have : ch0 n = k.toNat := by unfold ch0; rw [hc]; rfl
      rw [this]
      exact key k (by rw [hc]; simp)
    unfold nd
    simp only [ndF, hn]
    split
    · rfl
    · split
      · rfl
      · split
        · rename_i h4; rw [key0 (.inl h4)]
        · split
          · rfl
          · split
            · rename_i h78
              rw [List.map_congr_left fun o _ => key0 (.inr h78) (args ++ [o]) neg]
            · rw [List.map_congr_left fun k hm => key k hm args neg]
theorem nd_eq {d : Dom} {l : List Cn} {i a : Nat} {ps : List Int} {n : Cn} (h : ST d l true a (i + 1) ps []) (hn : l[i]? = some n) (args : List Int) (neg : Bool) :
    nd d l i args neg = if n.kind = 2 then ([[⟨neg, bindA args n.at_⟩]], false) else if n.kind = 3 then (someL (decide (objA args n.left = objA args n.right) != neg), false)
      else if n.kind = 4 then nd d l (ch0 n) args (!neg) else if n.kind = 1 then (someL (!neg), false)
      else if n.kind = 7 ∨ n.kind = 8 then partsP (conjK n.kind neg) ((membersOf d.types d.objects n.type).map fun o => nd d l (ch0 n) (args ++ [o]) neg)
      else partsP (conjK n.kind neg) (n.ch.map fun k => nd d l k.toNat args neg) := by
  obtain ⟨j, n', e, haj, hn', ok, hk⟩ := h.root
  obtain rfl : i = j := by omega
  rw [hn] at hn'
  cases hn'
  have hkid := hk.kids rfl
  have key : ∀ k ∈ n.ch, ∀ args neg, ndF d l i k.toNat args neg = nd d l k.toNat args neg := fun k hm args neg => by
    obtain ⟨a', _, h0, h1, _, h2⟩ := hkid k hm
    exact ndF_ok i _ _ _ _ _ h2 (by omega)
  have key0 : n.kind = 4 ∨ n.kind = 7 ∨ n.kind = 8 → ∀ args neg, ndF d l i (ch0 n) args neg = nd d l (ch0 n) args neg := fun h => by
    obtain ⟨k, hc⟩ := arity_one ok h
    have : ch0 n = k.toNat := by unfold ch0; rw [hc]; rfl
    rw [this]
    exact key k (by rw [hc]; simp)
  conv => lhs; unfold nd
  simp only [ndF, hn]
  split
  · rfl
  · split
    · rfl
    · split
      · rename_i h4; rw [key0 (.inl h4)]
      · split
        · rfl
        · split
          · rename_i h78
            rw [List.map_congr_left fun o _ => key0 (.inr h78) (args ++ [o]) neg]
          · rw [List.map_congr_left fun k hm => key k hm args neg]
def CRel (s r : Cs × Bool) : Prop := s.2 = r.2 ∧ (s.2 = false → s.1 = r.1 ∧ s.1.length ≤ 40)
theorem plusR_or : ∀ (b a : Cs) (m : Bool), m = decide (a.length > 40) → b.foldl plusR (a, m) = (orL a b, decide ((orL a b).length > 40))
  | [], a, m, h => by simp [orL, h]
  | l :: b, a, m, h => by
    simp only [List.foldl_cons, orL]
    have e : plusR (a, m) l = (addCs a l, decide ((addCs a l).length > 40)) := by
      unfold plusR addCs
      by_cases hm : l ∈ a
      · rw [if_pos hm, if_pos hm, h]
      · rw [if_neg hm, if_neg hm]
        simp only [List.length_append, List.length_singleton, h, Prod.mk.injEq, true_and]
        rw [Bool.eq_iff_iff]
        simp
        omega
    rw [e]
    exact plusR_or b (addCs a l) _ rfl
theorem CRel.step {l m : List Lit} {s r : Cs × Bool} (h : CRel s r) : CRel (andStep l s m) (andStepR l r m) := by
  obtain ⟨h1, h2⟩ := h
  unfold andStep andStepR
  cases hj : joinL l m with
  | none => exact ⟨h1, h2⟩
  | some c =>
    simp only
    cases hm : s.2 with
    | true =>
      rw [← h1, hm, if_pos rfl]
      exact ⟨by simp [← h1, hm], fun h => by simp at h⟩
    | false =>
      obtain ⟨e1, e2⟩ := h2 hm
      rw [← h1, hm, if_neg (by simp)]
      have e3 : r = (s.1, false) := by rw [e1, ← hm, h1]
      rw [e3]
      have hp : plusR (s.1, false) c = (orL s.1 [c], decide ((orL s.1 [c]).length > 40)) := by
        have := plusR_or [c] s.1 false (by simp; omega)
        simpa using this
      rw [hp]
      unfold orP
      by_cases hb : (orL s.1 [c]).length > 40
      · rw [if_pos hb]
        exact ⟨by simp [hb], fun h => by simp at h⟩
      · rw [if_neg hb]
        exact ⟨by simp [hb], fun _ => ⟨rfl, by simp only; omega⟩⟩
theorem CRel.foldIn {l : List Lit} : ∀ {b : Cs} {s r : Cs × Bool}, CRel s r → CRel (b.foldl (andStep l) s) (b.foldl (andStepR l) r)
  | [], _, _, h => h
  | m :: b, _, _, h => CRel.foldIn (b := b) h.step
theorem CRel.foldOut {b : Cs} : ∀ {a : Cs} {s r : Cs × Bool}, CRel s r → CRel (a.foldl (fun s l => b.foldl (andStep l) s) s) (a.foldl (fun s l => b.foldl (andStepR l) s) r)
  | [], _, _, h => h
  | l :: a, _, _, h => CRel.foldOut (a := a) (CRel.foldIn (l := l) (b := b) h)
theorem CRel.and (a b : Cs) : CRel (andP a b) (a.foldl (fun s l => b.foldl (andStepR l) s) ([], false)) := CRel.foldOut ⟨rfl, fun _ => ⟨rfl, by simp⟩⟩
theorem CRel.or (a b : Cs) (ha : a.length ≤ 40) : CRel (orP a b) (b.foldl plusR (a, false)) := by
  rw [plusR_or b a false (by simp; omega)]
  unfold orP
  by_cases hb : (orL a b).length > 40
  · rw [if_pos hb]
    exact ⟨by simp [hb], fun h => by simp at h⟩
  · rw [if_neg hb]
    exact ⟨by simp [hb], fun _ => ⟨rfl, by simp only; omega⟩⟩
theorem withL_len (l : List Lit) (x : Lit) : (withL l x).length ≤ l.length + 1 := by
  unfold withL
  split
  · omega
  · have e : l.takeWhile (fun y => decide (litOrd y x < 0)) ++ l.dropWhile (fun y => decide (litOrd y x < 0)) = l := List.takeWhile_append_dropWhile
    have := congrArg List.length e
    simp only [List.length_append, List.length_cons] at this ⊢
    omega
theorem joinL_len : ∀ {b a c : List Lit}, joinL a b = some c → c.length ≤ a.length + b.length
  | [], a, c, h => by simp only [joinL, Option.some.injEq] at h; subst h; simp
  | x :: b, a, c, h => by
    simp only [joinL] at h
    split at h
    · cases h
    · have h1 := joinL_len h
      have h2 := withL_len a x
      simp only [List.length_cons]
      omega
structure CaOk (B : Nat) (l : List Lit) : Prop where
  len : l.length ≤ B
  at_ : ∀ x ∈ l, AtOk x.at_
  so : SLt l
  co : ConsL l
structure CsOk (B : Nat) (cs : Cs) : Prop where
  len : cs.length ≤ 40
  ca : ∀ l ∈ cs, CaOk B l
theorem CaOk.mono {B C : Nat} {l : List Lit} (h : CaOk B l) (hl : B ≤ C) : CaOk C l := ⟨by have := h.len; omega, h.at_, h.so, h.co⟩
theorem CsOk.mono {B C : Nat} {cs : Cs} (h : CsOk B cs) (hl : B ≤ C) : CsOk C cs := ⟨h.len, fun l hm => (h.ca l hm).mono hl⟩
theorem CsOk.nil (B : Nat) : CsOk B [] := ⟨by simp, by simp⟩
theorem CaOk.nil (B : Nat) : CaOk B [] := ⟨by simp, by simp, List.Pairwise.nil, fun x hx => by simp at hx⟩
theorem CsOk.some (B : Nat) (b : Bool) : CsOk B (someL b) := by
  unfold someL
  split
  · exact ⟨by simp, fun l hl => by rw [List.mem_singleton.1 hl]; exact .nil B⟩
  · exact .nil B
theorem addCs_mem {out : Cs} {l m : List Lit} : m ∈ addCs out l ↔ m ∈ out ∨ m = l := by
  unfold addCs
  split
  · rename_i h
    constructor
    · exact .inl
    · rintro (h1 | rfl)
      · exact h1
      · exact h
  · simp
theorem orL_mem : ∀ {b a : Cs} {m : List Lit}, m ∈ orL a b ↔ m ∈ a ∨ m ∈ b
  | [], a, m => by simp [orL]
  | l :: b, a, m => by
    have := orL_mem (b := b) (a := addCs a l) (m := m)
    simp only [orL, List.foldl_cons] at this ⊢
    rw [this, addCs_mem]
    simp only [List.mem_cons]
    constructor
    · rintro ((h | h) | h)
      · exact .inl h
      · exact .inr (.inl h)
      · exact .inr (.inr h)
    · rintro (h | h | h)
      · exact .inl (.inl h)
      · exact .inl (.inr h)
      · exact .inr h
theorem orP_ok {B : Nat} {a b : Cs} (ha : ∀ l ∈ a, CaOk B l) (hb : ∀ l ∈ b, CaOk B l) : CsOk B (orP a b).1 := by
  unfold orP
  split
  · exact .nil B
  · refine ⟨by simp only; omega, fun l hl => ?_⟩
    rcases orL_mem.1 hl with h | h
    · exact ha l h
    · exact hb l h
theorem andStep_ok {B C : Nat} {l m : List Lit} {s : Cs × Bool} (hs : CsOk (B + C) s.1) (hl : CaOk B l) (hm : CaOk C m) : CsOk (B + C) (andStep l s m).1 := by
  unfold andStep
  split
  · rename_i c hc
    obtain ⟨k1, k2, k3⟩ := joinL_some hl.so hl.co hc
    refine orP_ok hs.ca fun x hx => ?_
    rw [List.mem_singleton.1 hx]
    refine ⟨?_, fun y hy => ?_, k1, k2⟩
    · have := joinL_len hc
      have := hl.len
      have := hm.len
      omega
    · rcases (k3 y).1 hy with h | h
      · exact hl.at_ y h
      · exact hm.at_ y h
  · exact hs
theorem foldIn_ok {B C : Nat} {l : List Lit} (hl : CaOk B l) : ∀ {b : Cs} {s : Cs × Bool}, (∀ m ∈ b, CaOk C m) → CsOk (B + C) s.1 → CsOk (B + C) (b.foldl (andStep l) s).1
  | [], s, _, h => h
  | m :: b, s, hb, h => foldIn_ok hl (b := b) (fun x hx => hb x (by simp [hx])) (andStep_ok h hl (hb m (by simp)))
theorem foldOut_ok {B C : Nat} {b : Cs} (hb : ∀ m ∈ b, CaOk C m) : ∀ {a : Cs} {s : Cs × Bool}, (∀ l ∈ a, CaOk B l) → CsOk (B + C) s.1 → CsOk (B + C) (a.foldl (fun s l => b.foldl (andStep l) s) s).1
  | [], s, _, h => h
  | l :: a, s, ha, h => foldOut_ok hb (a := a) (fun x hx => ha x (by simp [hx])) (foldIn_ok (ha l (by simp)) hb h)
theorem andP_ok {B C : Nat} {a b : Cs} (ha : CsOk B a) (hb : CsOk C b) : CsOk (B + C) (andP a b).1 := foldOut_ok hb.ca ha.ca (.nil _)
def PartsOk : List Cs → Nat → Prop
  | [], _ => True
  | p :: ps, S => ∃ B S', B + S' ≤ S ∧ CsOk B p ∧ PartsOk ps S'
theorem stepP_ok {all : Bool} {B C : Nat} {s : Cs × Bool} {p : Cs} (hs : CsOk B s.1) (hp : CsOk C p) : CsOk (B + C) (stepP all s p).1 := by
  unfold stepP
  split
  · exact andP_ok hs hp
  · exact orP_ok (fun l h => (hs.ca l h).mono (by omega)) (fun l h => (hp.ca l h).mono (by omega))
theorem foldS_ok {all : Bool} : ∀ {ps : List Cs} {S B : Nat} {s : Cs × Bool}, PartsOk ps S → CsOk B s.1 → CsOk (B + S) (ps.foldl (stepP all) s).1
  | [], S, B, s, _, h => h.mono (by omega)
  | p :: ps, S, B, s, ⟨C, S', h1, h2, h3⟩, h => (foldS_ok (ps := ps) h3 (stepP_ok h h2)).mono (by omega)
theorem foldP_ok {all : Bool} {ps : List Cs} {S : Nat} (h : PartsOk ps S) : CsOk S (foldP all ps).1 := by
  have := foldS_ok (all := all) (s := (someL all, false)) h (CsOk.some 0 all)
  unfold foldP
  rwa [Nat.zero_add] at this
theorem PartsOk.mono : ∀ {ps : List Cs} {S T : Nat}, PartsOk ps S → S ≤ T → PartsOk ps T
  | [], _, _, _, _ => trivial
  | p :: ps, S, T, ⟨B, S', h1, h2, h3⟩, h => ⟨B, S', by omega, h2, h3⟩
theorem parts_const {α : Type} {f : α → Cs} {B : Nat} : ∀ {xs : List α}, (∀ x ∈ xs, CsOk B (f x)) → PartsOk (xs.map f) (xs.length * B)
  | [], _ => trivial
  | x :: xs, h => ⟨B, xs.length * B, by rw [List.length_cons, Nat.add_mul]; omega, h x (by simp), parts_const fun y hy => h y (by simp [hy])⟩
theorem nd_ok {d : Dom} (hd : DoTy d) {l : List Cn} (ho : ∀ n ∈ l, CnOk n) {m : Bool} {a b : Nat} {ps ch : List Int} (h : ST d l m a b ps ch) : ps.length ≤ 6 → ∀ (args : List Int), ArgsOk d ps args → ∀ neg,
    (m = true → CsOk ((b - a) * 8 ^ (6 - ps.length)) (nd d l (b - 1) args neg).1) ∧ (m = false → PartsOk (ch.map fun k => (nd d l k.toNat args neg).1) ((b - a) * 8 ^ (6 - ps.length))) := by
  induction h with
  | @node a i ps n hn ok h ih =>
    intro hps args ha neg
    refine ⟨fun _ => ?_, fun h => (by cases h)⟩
    have hst : ST d l true a (i + 1) ps [] := .node hn ok h
    rw [show i + 1 - 1 = i from rfl, nd_eq hst hn args neg]
    have hle := h.le.1
    have hpow : 1 ≤ 8 ^ (6 - ps.length) := by have := Nat.pow_le_pow_left (show 1 ≤ 8 by omega) (6 - ps.length); rwa [Nat.one_pow] at this
    have hW : 1 ≤ (i + 1 - a) * 8 ^ (6 - ps.length) := Nat.le_trans hpow (Nat.le_mul_of_pos_left _ (by omega))
    have hsub : (i - a) * 8 ^ (6 - ps.length) ≤ (i + 1 - a) * 8 ^ (6 - ps.length) := Nat.mul_le_mul_right _ (by omega)
    have hno := ho n (mem_get hn)
    have hown : quantK n.kind = false → ownC n = [] := fun h => by unfold ownC; rw [h]; rfl
    have k0 := ok.k0
    have k8 := ok.k8
    have hcase : n.kind = 1 ∨ n.kind = 2 ∨ n.kind = 3 ∨ n.kind = 4 ∨ (n.kind = 5 ∨ n.kind = 6) ∨ (n.kind = 7 ∨ n.kind = 8) := by omega
    rcases hcase with e | e | e | e | e | e
    · rw [if_neg (by omega), if_neg (by omega), if_neg (by omega), if_pos e]
      exact .some _ _
    · rw [if_pos e]
      refine ⟨by simp, fun c hc => ?_⟩
      rw [List.mem_singleton.1 hc]
      refine ⟨by simpa using hW, fun x hx => ?_, List.pairwise_singleton _ _, fun x hx y hy _ => ?_⟩
      · rw [List.mem_singleton.1 hx]
        have hl := ok.lf
        unfold leafCode at hl
        rw [if_pos e] at hl
        exact bindA_ok ha hd hno.at_ hl
      · rw [List.mem_singleton.1 hx, List.mem_singleton.1 hy]
    · rw [if_neg (by omega), if_pos e]
      exact .some _ _
    · rw [if_neg (by omega), if_neg (by omega), if_pos e]
      obtain ⟨k, hc⟩ := arity_one ok (.inl e)
      have e0 : ch0 n = k.toNat := by unfold ch0; rw [hc]; rfl
      rw [hown (by unfold quantK; simp [e]), List.append_nil] at ih
      have := (ih hps args ha (!neg)).2 rfl
      rw [hc] at this
      obtain ⟨B, S', h1, h2, _⟩ := this
      rw [e0]
      exact h2.mono (by omega)
    · rw [if_neg (by omega), if_neg (by omega), if_neg (by omega), if_neg (by omega), if_neg (by omega)]
      rw [hown (by unfold quantK; rcases e with e | e <;> simp [e]), List.append_nil] at ih
      have := (ih hps args ha neg).2 rfl
      unfold partsP
      simp only [List.map_map, Function.comp_def]
      exact (foldP_ok this).mono hsub
    · rw [if_neg (by omega), if_neg (by omega), if_neg (by omega), if_neg (by omega), if_pos e]
      have hqk : quantK n.kind = true := by unfold quantK; rcases e with e | e <;> simp [e]
      have how : ownC n = [n.type] := by unfold ownC; rw [if_pos hqk]
      have hp5 : ps.length < 6 := by
        have hqu := ok.qu
        unfold quCode at hqu
        rw [hqk, if_neg (by simp)] at hqu
        split at hqu
        · cases hqu
        · split at hqu
          · cases hqu
          · omega
      obtain ⟨k, hc⟩ := arity_one ok (.inr e)
      have e0 : ch0 n = k.toNat := by unfold ch0; rw [hc]; rfl
      rw [how] at ih
      unfold partsP
      simp only [List.map_map, Function.comp_def]
      have hml : (membersOf d.types d.objects n.type).length ≤ 8 := by have := members_length (l := d.types) (os := d.objects) (t := n.type); have := hd.ol; omega
      have hpp := parts_const (f := fun o => (nd d l (ch0 n) (args ++ [o]) neg).1) (B := (i - a) * 8 ^ (6 - (ps.length + 1))) (xs := membersOf d.types d.objects n.type) fun o ho2 => by
        obtain ⟨kk, x, rfl, hx, _⟩ := mem_members.1 ho2
        have hk2 := get_lt hx
        have := (ih (by simp; omega) (args ++ [(kk : Int)]) (ha.snoc (by omega) (by omega)) neg).2 rfl
        rw [hc] at this
        obtain ⟨B, S', h1, h2, _⟩ := this
        rw [e0]
        simp only [List.length_append, List.length_singleton] at h1
        exact h2.mono (by omega)
      refine (foldP_ok hpp).mono (Nat.le_trans (Nat.mul_le_mul_right _ hml) (Nat.le_trans ?_ hsub))
      have e6 : 6 - ps.length = (6 - (ps.length + 1)) + 1 := by omega
      rw [e6, Nat.pow_succ]
      have : 8 * ((i - a) * 8 ^ (6 - (ps.length + 1))) = (i - a) * (8 ^ (6 - (ps.length + 1)) * 8) := by
        rw [Nat.mul_comm 8, Nat.mul_assoc]
      omega
  | nil => exact fun _ _ _ _ => ⟨(fun h => by cases h), fun _ => trivial⟩
  | @cons a b c ps ch h1 h2 ih1 ih2 =>
    intro hps args ha neg
    refine ⟨(fun h => by cases h), fun _ => ?_⟩
    have hb := h1.le.2 rfl
    have hc := h2.le.1
    refine ⟨(b - a) * 8 ^ (6 - ps.length), _, ?_, ?_, (ih2 hps args ha neg).2 rfl⟩
    · rw [← Nat.add_mul]
      exact Nat.mul_le_mul_right _ (by omega)
    · show CsOk _ (nd d l ((b : Int) - 1).toNat args neg).1
      rw [show ((b : Int) - 1).toNat = b - 1 from by omega]
      exact (ih1 hps args ha neg).1 rfl
mutual
def dv {H : Type} : DataW H → V
  | .lit (.bool b) => .bool b
  | .lit (.int k n) => .int k n
  | .lit (.string l) => .str l
  | .slice elems _ => .sl .p (dvL elems)
  | .agg parts => .agg (dvC parts)
  | .nil => .sl .p []
  | _ => .any
def dvL {H : Type} : List (DataW H) → List V
  | [] => []
  | d :: r => dv d :: dvL r
def dvC {H : Type} : List (DataW H) → List V
  | [] => []
  | d :: r => (dv d).cells ++ dvC r
end
theorem dvL_map {H : Type} : ∀ l : List (DataW H), dvL l = l.map dv
  | [] => rfl
  | d :: r => by simp only [dvL, List.map_cons, dvL_map r]
def lay (P : Program) : List Field → Nat → Option Nat
  | [], o => some o
  | f :: r, o => bif Nat.beq f.offset o then lay P r (o + P.cellsOf f.type) else none
def pl (P : Program) : Nat → TypeId → Bool
  | 0, _ => false
  | n + 1, t => match P.underlying t with
    | some .bool => true
    | some (.int _) => true
    | some .string => true
    | some (.slice e) => Nat.blt 0 (P.cellsOf e) && pl P n e
    | some (.struct fs) => (match lay P fs.toList 0 with
      | some m => Nat.beq m (P.cellsOf t)
      | none => false) && fs.toList.all fun f => pl P n f.type
    | some (.array len e) => Nat.beq (len * P.cellsOf e) (P.cellsOf t) && pl P n e
    | _ => false
def arrF (e : TypeId) (c i : Nat) : Field := { name := "", type := e, offset := i * c, embedded := false, tag := "", pkgPath := "", byteOffset := 0 }
theorem lay_arr {P : Program} {e : TypeId} : ∀ (len k : Nat), lay P ((List.range' k len).map (arrF e (P.cellsOf e))) (k * P.cellsOf e) = some ((k + len) * P.cellsOf e)
  | 0, k => rfl
  | len + 1, k => by
    simp only [List.range'_succ, List.map_cons, lay, arrF, Nat.beq_refl, cond_true]
    have := lay_arr (P := P) (e := e) len (k + 1)
    rw [Nat.succ_mul] at this
    rw [show k + (len + 1) = k + 1 + len from by omega]
    exact this
section
variable {H : Type} {enc : TypeId × Value → H} {P : Program} {w : World} {sp : Nat → Bool}
theorem fields_rep {S : Nat → Prop} {cs : List Value} : ∀ (fl : List Field) (ys : List (DataW H × List MemPlace)) (o m : Nat), lay P fl o = some m → m ≤ cs.length → ys.length = fl.length →
    (∀ (i : Nat) (f : Field) (y : DataW H × List MemPlace), fl[i]? = some f → ys[i]? = some y → ((cs.drop f.offset).take (P.cellsOf f.type)).length = (dv y.1).cells.length ∧
      ∀ (j : Nat) (v : V) (x : Value), (dv y.1).cells[j]? = some v → ((cs.drop f.offset).take (P.cellsOf f.type))[j]? = some x → RepP w S v x) →
    o ≤ m ∧ (dvC (ys.map (·.1))).length = m - o ∧ ∀ (j : Nat) (v : V) (x : Value), (dvC (ys.map (·.1)))[j]? = some v → cs[o + j]? = some x → RepP w S v x
  | [], [], o, m, hl, _, _, _ => by
    simp only [lay, Option.some.injEq] at hl
    subst hl
    exact ⟨Nat.le_refl _, by simp [dvC], fun j v x h => by simp [dvC] at h⟩
  | f :: fl, y :: ys, o, m, hl, hm, hlen, h => by
    simp only [lay] at hl
    cases hb : Nat.beq f.offset o with
    | false => rw [hb] at hl; cases hl
    | true =>
      rw [hb] at hl
      have ho := Nat.eq_of_beq_eq_true hb
      obtain ⟨h1, h2, h3⟩ := fields_rep fl ys (o + P.cellsOf f.type) m hl hm (by simpa using hlen) (fun i f y hf hy => h (i + 1) f y (by simpa using hf) (by simpa using hy))
      obtain ⟨k1, k2⟩ := h 0 f y rfl rfl
      rw [ho] at k1 k2
      have hk : (dv y.1).cells.length = P.cellsOf f.type := by
        rw [← k1, List.length_take, List.length_drop]; omega
      refine ⟨by omega, by simp only [List.map_cons, dvC, List.length_append, h2, hk]; omega, fun j v x hv hx => ?_⟩
      simp only [List.map_cons, dvC] at hv
      by_cases hj : j < P.cellsOf f.type
      · rw [List.getElem?_append_left (by omega)] at hv
        refine k2 j v x hv ?_
        rw [List.getElem?_take, if_pos hj, List.getElem?_drop]
        exact hx
      · rw [List.getElem?_append_right (by omega), hk] at hv
        exact h3 _ v x hv (by rw [show o + P.cellsOf f.type + (j - P.cellsOf f.type) = o + j from by omega]; exact hx)
  | [], _ :: _, _, _, _, _, hlen, _ => by simp at hlen
  | _ :: _, [], _, _, _, _, hlen, _ => by simp at hlen
theorem cells_get {w : World} {a : Addr} {n : Nat} {cs : List Value} (h : w.cells? 0 a n = some cs) : cs.length = n ∧ ∀ i, i < n → w.cell? (a.add i) = cs[i]? := by
  unfold World.cells? at h
  rw [if_pos (Nat.zero_le _)] at h
  exact ⟨by simpa using mapM_some_length h, fun i hi => mapM_some_get h i i (by simp [hi])⟩
theorem cell_lt {w : World} {a : Addr} {v : Value} (h : w.cell? a = some v) : a.block < w.heap.size ∧ a.spot = none := by
  unfold World.cell? at h
  split at h
  · rename_i c t fr hc
    refine ⟨(Array.getElem?_eq_some_iff.1 hc).1, ?_⟩
    cases hs : a.spot with
    | none => rfl
    | some _ => rw [hs] at h; simp at h
  · cases h
theorem trod_rep : ∀ (n : Nat) (t : TypeId) (fuel : Nat) (cs : List Value) (x : DataW H × List MemPlace), pl P n t = true → DataW.trod enc P w 0 sp true fuel t cs = some x →
    cs.length = (dv x.1).cells.length ∧ ∀ (i : Nat) (v : V) (y : Value), (dv x.1).cells[i]? = some v → cs[i]? = some y → RepP w (fun b => b < w.heap.size) v y
  | 0, t, fuel, cs, x, hp, _ => by cases hp
  | n + 1, t, fuel, cs, x, hp, h => by
    unfold pl at hp
    split at hp
    · rename_i ht
      obtain ⟨b, rfl, rfl⟩ := DataW.trod_bool ht h
      refine ⟨rfl, fun i v y hv hy => ?_⟩
      cases i with
      | zero => simp [dv, V.cells] at hv hy; subst hv hy; exact .bool b
      | succ i => simp at hy
    · rename_i k ht
      obtain ⟨m, rfl, rfl, _⟩ := DataW.trod_int ht h
      refine ⟨rfl, fun i v y hv hy => ?_⟩
      cases i with
      | zero => simp [dv, V.cells] at hv hy; subst hv hy; exact .int k m
      | succ i => simp at hy
    · rename_i ht
      obtain ⟨s, rfl, rfl, _⟩ := DataW.trod_string ht h
      refine ⟨rfl, fun i v y hv hy => ?_⟩
      cases i with
      | zero =>
        simp [dv, V.cells] at hv hy
        subst hv hy
        have := RepP.str (w := w) (S := fun b => b < w.heap.size) s.data.toList
        simpa using this
      | succ i => simp at hy
    · rename_i e ht
      simp only [Bool.and_eq_true] at hp
      obtain ⟨hc0, hpe⟩ := hp
      have hc : 0 < P.cellsOf e := by simpa [Nat.blt_eq] using hc0
      rcases Go.Deep.open_slice ht h with ⟨rfl, rfl⟩ | ⟨a, len, cap, m, q, D, Pl, rfl, _, hlc, _, hm, rfl, hcell⟩
      · refine ⟨rfl, fun i v y hv hy => ?_⟩
        cases i with
        | zero => simp [dv, V.cells] at hv hy; subst hv hy; exact .emp none 0
        | succ i => simp at hy
      · refine ⟨rfl, fun i v y hv hy => ?_⟩
        cases i with
        | succ i => simp at hy
        | zero =>
          simp only [dv, V.cells, List.getElem?_cons_zero, Option.some.injEq] at hv hy
          subst hv hy
          rw [dvL_map, List.map_map]
          cases len with
          | zero => exact .emp (some a) cap
          | succ len =>
            have hle : len + 1 ≤ m := by rw [hm]; split <;> omega
            have key : ∀ i, i < len + 1 → (∃ cs' : List Value, (∀ j, j < P.cellsOf e → w.cell? ((a.add (i * P.cellsOf e)).add j) = cs'[j]?) ∧ cs'.length = P.cellsOf e ∧ cs'.length = (dv (D i)).cells.length ∧
                ∀ (j : Nat) (v : V) (y : Value), (dv (D i)).cells[j]? = some v → cs'[j]? = some y → RepP w (fun b => b < w.heap.size) v y) := by
              intro i hi
              obtain ⟨cs', h1, h2⟩ := hcell i (by omega)
              obtain ⟨h3, h4⟩ := cells_get h1
              obtain ⟨h5, h6⟩ := trod_rep n e q cs' _ hpe h2
              exact ⟨cs', h4, h3, h5, h6⟩
            obtain ⟨cs0, k1, k2, _, _⟩ := key 0 (by omega)
            have k3 := k1 0 hc
            rw [List.getElem?_eq_getElem (by omega)] at k3
            obtain ⟨hblt, hspot⟩ := cell_lt k3
            simp only [Nat.zero_mul, Addr.add_zero'] at hblt hspot
            have hb : a.block < w.heap.size := hblt
            have hs : a.spot = none := hspot
            obtain ⟨b, off, spot⟩ := a
            simp only at hb hs
            subst hs
            have e1 : len + 1 = ((List.range (len + 1)).map (dv ∘ D)).length := by simp
            have goal : RepP w (fun b => b < w.heap.size) (.sl .p ((List.range (len + 1)).map (dv ∘ D))) (.slice (some ⟨b, off, none⟩) ((List.range (len + 1)).map (dv ∘ D)).length cap) := by
              refine .sl _ b off cap (P.cellsOf e) (fun i j => (w.cell? ⟨b, off + i * P.cellsOf e + j, none⟩).getD default) hb (by omega) (fun row hrow => ?_) (fun i j row v hr hv => ?_) (fun i j row v hr hv => ?_)
              · obtain ⟨i, hi, rfl⟩ := List.mem_map.1 hrow
                obtain ⟨cs', _, g1, g2, _⟩ := key i (List.mem_range.1 hi)
                show (dv (D i)).cells.length = _
                omega
              · rw [List.getElem?_map] at hr
                have hi : i < len + 1 := by
                  have := (List.getElem?_eq_some_iff.1 (Option.map_eq_some_iff.1 hr).choose_spec.1).1
                  simpa using this
                rw [List.getElem?_range hi] at hr
                simp only [Option.map_some, Option.some.injEq, Function.comp] at hr
                subst hr
                obtain ⟨cs', g0, g1, g2, g3⟩ := key i hi
                have hj := (List.getElem?_eq_some_iff.1 hv).1
                have := g0 j (by omega)
                simp only [Addr.add_lit] at this
                rw [this, List.getElem?_eq_getElem (by omega)]
                rfl
              · rw [List.getElem?_map] at hr
                have hi : i < len + 1 := by
                  have := (List.getElem?_eq_some_iff.1 (Option.map_eq_some_iff.1 hr).choose_spec.1).1
                  simpa using this
                rw [List.getElem?_range hi] at hr
                simp only [Option.map_some, Option.some.injEq, Function.comp] at hr
                subst hr
                obtain ⟨cs', g0, g1, g2, g3⟩ := key i hi
                have hj := (List.getElem?_eq_some_iff.1 hv).1
                have := g0 j (by omega)
                simp only [Addr.add_lit] at this
                rw [this, List.getElem?_eq_getElem (by omega)]
                exact g3 j v _ hv (by rw [List.getElem?_eq_getElem (by omega)]; rfl)
            rw [← e1] at goal
            exact goal
    · rename_i fs ht
      simp only [Bool.and_eq_true, List.all_eq_true] at hp
      obtain ⟨hlay, hall⟩ := hp
      split at hlay
      · rename_i m hm
        have hme := Nat.eq_of_beq_eq_true hlay
        obtain ⟨xs, q, _, rfl, hlen, hxl, hseg⟩ := DataW.trod_struct ht h
        obtain ⟨_, g1, g2⟩ := fields_rep (P := P) (w := w) (S := fun b => b < w.heap.size) (cs := cs) fs.toList xs 0 m hm (by omega) (by simpa using hxl) (fun i f y hf hy => by
          have hf' : fs[i]? = some f := by simpa using hf
          have := hseg i f hf'
          rw [hy] at this
          exact trod_rep n f.type q _ y (hall f (List.mem_of_getElem? hf)) this)
        refine ⟨by simp only [dv, V.cells, g1]; omega, fun i v y hv hy => g2 i v y (by simpa [dv, V.cells] using hv) (by simpa using hy)⟩
      · cases hlay
    · rename_i len e ht
      simp only [Bool.and_eq_true] at hp
      obtain ⟨hlay, hpe⟩ := hp
      have hme := Nat.eq_of_beq_eq_true hlay
      obtain ⟨xs, q, _, rfl, hlen, hxl, hseg⟩ := DataW.trod_array ht h
      have hla := lay_arr (P := P) (e := e) len 0
      rw [Nat.zero_mul, Nat.zero_add] at hla
      obtain ⟨_, g1, g2⟩ := fields_rep (P := P) (w := w) (S := fun b => b < w.heap.size) (cs := cs) _ xs 0 _ hla (by omega) (by simpa using hxl) (fun i f y hf hy => by
        have hi : i < len := by have := (List.getElem?_eq_some_iff.1 hy).1; omega
        rw [List.getElem?_map, List.getElem?_range' hi] at hf
        simp only [Option.map_some, Option.some.injEq, Nat.zero_add, Nat.one_mul] at hf
        subst hf
        have := hseg i hi
        rw [hy] at this
        exact trod_rep n e q _ y hpe this)
      refine ⟨by simp only [dv, V.cells, g1]; omega, fun i v y hv hy => g2 i v y (by simpa [dv, V.cells] using hv) (by simpa using hy)⟩
    · cases hp
theorem arg_rep {n base : Nat} {t : TypeId} {v : Value} {d : DataW H} {ps : List MemPlace} (hp : pl P n t = true) (hok : Value.okWide P w .any base t v) (h : DataW.Trod enc P w 0 sp true t v d ps) : RepP w (fun b => b < w.heap.size) (dv d) v := by
  obtain ⟨fuel, h⟩ := h
  obtain ⟨h1, h2⟩ := trod_rep n t fuel _ _ hp h
  cases n with
  | zero => cases hp
  | succ n =>
    unfold pl at hp
    split at hp
    · rename_i ht
      obtain ⟨b, e, e2⟩ := DataW.trod_bool ht h
      injection e2 with e2 _
      subst e2
      cases v <;> simp [Value.okWide, ht, Cell.okWide, Cell.ok] at hok
      simp [Value.cells] at e
      subst e
      exact .bool _
    · rename_i k ht
      obtain ⟨m, e, e2, _⟩ := DataW.trod_int ht h
      injection e2 with e2 _
      subst e2
      cases v <;> simp [Value.okWide, ht, Cell.okWide, Cell.ok] at hok
      simp [Value.cells] at e
      obtain ⟨rfl, rfl⟩ := e
      exact .int _ _
    · rename_i ht
      obtain ⟨s, e, e2, _⟩ := DataW.trod_string ht h
      injection e2 with e2 _
      subst e2
      cases v <;> simp [Value.okWide, ht, Cell.okWide, Cell.ok] at hok
      simp [Value.cells] at e
      subst e
      exact h2 0 _ _ rfl rfl
    · rename_i e ht
      have hv : v.cells = #[v] := by
        cases v <;> first | rfl | (simp [Value.okWide, ht, Cell.okWide, Cell.ok] at hok)
      have hd : (dv d).cells = [dv d] := by
        rcases Go.Deep.open_slice ht h with ⟨_, e2⟩ | ⟨_, _, _, _, _, _, _, _, _, _, _, _, e2, _⟩ <;> (injection e2 with e2 _; subst e2; rfl)
      exact h2 0 _ _ (by rw [hd]; rfl) (by rw [hv]; rfl)
    · rename_i fs ht
      simp only [Value.okWide, ht] at hok
      obtain ⟨cs, rfl, _, _⟩ := hok
      obtain ⟨xs, q, _, e2, _⟩ := DataW.trod_struct ht h
      injection e2 with e2 _
      subst e2
      have := RepP.agg (w := w) (S := fun b => b < w.heap.size) (dvC (xs.map (·.1))) cs.toList (by
        have := h1
        simp only [dv, V.cells, Value.cells] at this
        exact this.symm) (fun i v x hv hx => h2 i v x (by simpa [dv, V.cells] using hv) (by simpa [Value.cells] using hx))
      simpa [dv] using this
    · rename_i len e ht
      simp only [Value.okWide, ht] at hok
      obtain ⟨cs, rfl, _, _⟩ := hok
      obtain ⟨xs, q, _, e2, _⟩ := DataW.trod_array ht h
      injection e2 with e2 _
      subst e2
      have := RepP.agg (w := w) (S := fun b => b < w.heap.size) (dvC (xs.map (·.1))) cs.toList (by
        have := h1
        simp only [dv, V.cells, Value.cells] at this
        exact this.symm) (fun i v x hv hx => h2 i v x (by simpa [dv, V.cells] using hv) (by simpa [Value.cells] using hx))
      simpa [dv] using this
    · cases hp
theorem args_rep {n base : Nat} : ∀ (ts : List TypeId) (vs : List Value) (ds : List (DataW H)) (ps : List MemPlace), ts.all (pl P n) = true → (∀ (j : Nat) t v, ts[j]? = some t → vs[j]? = some v → Value.okWide P w .any base t v) →
    DataW.TrodAll enc P w 0 sp true ts vs ds ps → Reps (RepP w (fun b => b < w.heap.size)) (ds.map dv) vs
  | [], [], [], _, _, _, _ => ⟨rfl, fun i v x h => by simp at h⟩
  | t :: ts, v :: vs, d :: ds, ps, hp, hok, h => by
    obtain ⟨p, q, h1, h2, _⟩ := h
    simp only [List.all_cons, Bool.and_eq_true] at hp
    have ih := args_rep ts vs ds q hp.2 (fun j t v ht hv => hok (j + 1) t v (by simpa using ht) (by simpa using hv)) h2
    refine ⟨by simpa using ih.1, fun i u x hu hx => ?_⟩
    cases i with
    | zero =>
      simp at hu hx
      subst hu hx
      exact arg_rep hp.1 (hok 0 t v rfl rfl) h1
    | succ i => exact ih.2 i u x (by simpa using hu) (by simpa using hx)
  | [], _ :: _, _, _, _, _, h => by simp [DataW.TrodAll] at h
  | [], [], _ :: _, _, _, _, h => by simp [DataW.TrodAll] at h
  | _ :: _, [], _, _, _, _, h => by simp [DataW.TrodAll] at h
  | _ :: _, _ :: _, [], _, _, _, h => by simp [DataW.TrodAll] at h
def wt (P : Program) {H : Type} : Nat → TypeId → DataW H → Prop
  | 0, _, _ => False
  | n + 1, t, d => match P.underlying t with
    | some .bool => ∃ b, d = .lit (.bool b)
    | some (.int k) => ∃ m, d = .lit (.int k m) ∧ (Lit.int k m).wf = true
    | some .string => ∃ l, d = .lit (.string l) ∧ l.length ≤ reachBytes
    | some (.slice e) => d = .nil ∨ ∃ elems spare, d = .slice elems spare ∧ elems.length * P.bytesOf e ≤ reachBytes ∧ ∀ x ∈ elems, wt P n e x
    | some (.struct fs) => ∃ parts, d = .agg parts ∧ parts.length = fs.size ∧ ∀ (i : Nat) (f : Field) (p : DataW H), fs[i]? = some f → parts[i]? = some p → wt P n f.type p
    | some (.array len e) => ∃ parts, d = .agg parts ∧ parts.length = len ∧ ∀ x ∈ parts, wt P n e x
    | _ => True
theorem weightsAll_mem {e : TypeId} : ∀ {l : List (DataW H)} {x : DataW H}, x ∈ l → ∀ n ∈ x.weights P e, n ∈ DataW.weightsAll P e l
  | d :: r, x, hx, n, hn => by
    simp only [DataW.weightsAll, List.mem_append]
    rcases List.mem_cons.1 hx with rfl | hx
    · exact .inl hn
    · exact .inr (weightsAll_mem hx n hn)
theorem trod_wt : ∀ (fuel : Nat) (t : TypeId) (cs : List Value) (x : DataW H × List MemPlace), DataW.trod enc P w 0 sp true fuel t cs = some x → (∀ n ∈ x.1.weights P t, n ≤ reachBytes) → wt P fuel t x.1
  | 0, t, cs, x, h, _ => by simp [DataW.trod] at h
  | fuel + 1, t, cs, x, h, hw => by
    unfold wt
    split
    · rename_i ht
      obtain ⟨b, _, rfl⟩ := DataW.trod_bool ht h
      exact ⟨b, rfl⟩
    · rename_i k ht
      obtain ⟨m, _, rfl, hm⟩ := DataW.trod_int ht h
      exact ⟨m, rfl, hm⟩
    · rename_i ht
      obtain ⟨s, _, rfl, _⟩ := DataW.trod_string ht h
      exact ⟨_, rfl, hw _ (by simp [DataW.weights])⟩
    · rename_i e ht
      rcases DataW.trod_slice ht h with ⟨_, rfl⟩ | ⟨a, len, cap, elems, rest, n, hn, _, rfl, _, _, _, hlen, hel, _, _⟩
      · exact .inl rfl
      · injection hn with hn
        subst hn
        refine .inr ⟨_, _, rfl, ?_, fun y hy => ?_⟩
        · have := hw ((elems.length + rest.length) * P.bytesOf e) (by simp [DataW.weights, ht])
          simp only [List.length_map]
          exact Nat.le_trans (Nat.mul_le_mul_right _ (Nat.le_add_right _ _)) this
        · obtain ⟨z, hz, rfl⟩ := List.mem_map.1 hy
          obtain ⟨i, hi, ez⟩ := List.getElem_of_mem hz
          have := hel i (by omega)
          rw [List.getElem?_eq_getElem hi, ez] at this
          obtain ⟨cs', h1, h2⟩ := Option.bind_eq_some_iff.1 this
          refine trod_wt fuel e cs' z h2 fun n hn => hw n ?_
          simp only [DataW.weights, ht, List.mem_cons, List.mem_append]
          exact .inr (.inl (weightsAll_mem hy n hn))
    · rename_i fs ht
      obtain ⟨xs, n, hn, rfl, _, hxl, hseg⟩ := DataW.trod_struct ht h
      injection hn with hn
      subst hn
      refine ⟨_, rfl, by simpa using hxl, fun i f p hf hp => ?_⟩
      rw [List.getElem?_map] at hp
      obtain ⟨z, hz, rfl⟩ := Option.map_eq_some_iff.1 hp
      have := hseg i f hf
      rw [hz] at this
      refine trod_wt fuel f.type _ z this fun n hn => hw n ?_
      simp only [DataW.weights, ht]
      exact DataW.weights_mem_each (j := i) (by rw [List.getElem?_map]; simp [hf]) (by rw [List.getElem?_map, hz]; rfl) n hn
    · rename_i len e ht
      obtain ⟨xs, n, hn, rfl, _, hxl, hseg⟩ := DataW.trod_array ht h
      injection hn with hn
      subst hn
      refine ⟨_, rfl, by simpa using hxl, fun y hy => ?_⟩
      obtain ⟨z, hz, rfl⟩ := List.mem_map.1 hy
      obtain ⟨i, hi, ez⟩ := List.getElem_of_mem hz
      have := hseg i (by omega)
      rw [List.getElem?_eq_getElem hi, ez] at this
      refine trod_wt fuel e _ z this fun n hn => hw n ?_
      simp only [DataW.weights, ht]
      exact weightsAll_mem hy n hn
    · trivial
theorem args_wt : ∀ (ts : List TypeId) (vs : List Value) (ds : List (DataW H)) (ps : List MemPlace), DataW.TrodAll enc P w 0 sp true ts vs ds ps → (∀ n ∈ DataW.weightsEach P ts ds, n ≤ reachBytes) →
    ds.length = ts.length ∧ ∀ (j : Nat) t d, ts[j]? = some t → ds[j]? = some d → ∃ n, wt P n t d
  | [], [], [], _, _, _ => ⟨rfl, fun j t d h => by simp at h⟩
  | t :: ts, v :: vs, d :: ds, ps, h, hw => by
    obtain ⟨p, q, ⟨fuel, h1⟩, h2, _⟩ := h
    have ih := args_wt ts vs ds q h2 (fun n hn => hw n (by simp only [DataW.weightsEach, List.mem_append]; exact .inr hn))
    refine ⟨by simpa using ih.1, fun j t' d' ht hd => ?_⟩
    cases j with
    | zero =>
      simp at ht hd
      subst ht hd
      exact ⟨fuel, trod_wt fuel t _ _ h1 fun n hn => hw n (by simp only [DataW.weightsEach, List.mem_append]; exact .inl hn)⟩
    | succ j => exact ih.2 j t' d' (by simpa using ht) (by simpa using hd)
  | [], _ :: _, _, _, h, _ => by simp [DataW.TrodAll] at h
  | [], [], _ :: _, _, h, _ => by simp [DataW.TrodAll] at h
  | _ :: _, [], _, _, h, _ => by simp [DataW.TrodAll] at h
  | _ :: _, _ :: _, [], _, h, _ => by simp [DataW.TrodAll] at h
end
section
variable {H : Type} {enc : TypeId × Value → H} {P : Program}
theorem below_all (hl : laidOutB P = true) {W W' : World} (hb : Go.RowKit.Below W.heap.size W W') : ∀ (ts : List TypeId) (vs : List Value) (ds : List (DataW H)) (ps : List MemPlace), (ts.all fun t => P.readableRec t && decide (t < P.types.size)) = true → (∀ x ∈ ps, x.block < W.heap.size) →
    DataW.TrodAll enc P W 0 (fun _ => true) true ts vs ds ps → DataW.TrodAll enc P W' 0 (fun b => decide (b < W.heap.size)) true ts vs ds ps
  | [], [], [], _, _, _, h => h
  | t :: ts, v :: vs, d :: ds, ps, hr, hlt, h => by
    obtain ⟨p, q, h1, h2, rfl⟩ := h
    simp only [List.all_cons, Bool.and_eq_true] at hr
    exact ⟨p, q, Go.RowKit.Below.trod hl hr.1.1 (of_decide_eq_true hr.1.2) h1 hb (fun x hx => hlt x (by simp [hx])), below_all hl hb ts vs ds q hr.2 (fun x hx => hlt x (by simp [hx])) h2, rfl⟩
  | [], _ :: _, _, _, _, _, h => by simp [DataW.TrodAll] at h
  | [], [], _ :: _, _, _, _, h => by simp [DataW.TrodAll] at h
  | _ :: _, [], _, _, _, _, h => by simp [DataW.TrodAll] at h
  | _ :: _, _ :: _, [], _, _, _, h => by simp [DataW.TrodAll] at h
end
theorem law_lift {C : Checked} {os : Os} {f : FuncId} {fn : Func} {s : ChangeSpec} {H : Type} {enc : TypeId × Value → H} {tb : TypeId} {n : Nat}
    (own : ownKnob C.prog.godebug = none) (started : os.Started) (noInit : C.prog.inits.idxOf? f = none) (hfn : C.prog.funcs[f]? = some fn)
    (witness : ∃ (w : World) (tape : Tape) (i : Input), w.os = os ∧ (w.forCall tape i).Shaped C.prog ∧ i.vars = [] ∧ Input.okWide C.prog (w.forCall tape i) .any w.heap.size f i ∧
      s.pre6 enc C.prog fn [] false (w.forCall tape i).memory i.args ∧ (({} : Assume)).holds C.prog (lone (Frame.enter C.prog f i.args .normal) [] (w.forCall tape i)))
    (hvars : s.vars = []) (hs : ∀ ds : List (DataW H), ds.length = fn.params.toList.length → (s.fn H (ds ++ [])).results = [.lit (.bool true)] ∧ (s.fn H (ds ++ [])).args = ds ∧ (s.fn H (ds ++ [])).vars = [])
    (hlaid : laidOutB C.prog = true) (hp : (fn.params.toList.all (pl C.prog n)) = true) (hr : (fn.params.toList.all fun t => C.prog.readableRec t && decide (t < C.prog.types.size)) = true)
    (hres : fn.resultTypes = #[tb]) (htb : C.prog.underlying tb = some .bool)
    (hc : ∀ ds : List (DataW H), ds.length = fn.params.toList.length → (∀ (j : Nat) t d, fn.params.toList[j]? = some t → ds[j]? = some d → ∃ n, wt C.prog n t d) → Fc C.prog f (ds.map dv) (.bool true)) :
    ReturnsInHanded {} C os f .any (s.pre6 enc C.prog fn [] false) (s.post enc C.prog fn false true false false) := by
  refine returnsInHanded_of_change_sized own started noInit hfn witness ?_
  intro W base args ds gs before hval hW _ hsz _
  have hW' := hW
  obtain ⟨p, q, hA, hV, hbe, hfz, hnd⟩ := hW
  rw [hvars] at hV
  have hg : gs = [] ∧ q = [] := by
    cases gs with
    | nil => exact ⟨rfl, by simpa [DataW.TrodVars] using hV⟩
    | cons g gs => simp [DataW.TrodVars] at hV
  obtain ⟨rfl, rfl⟩ := hg
  have hw : ∀ n ∈ DataW.weightsEach C.prog fn.params.toList ds, n ≤ reachBytes := by
    intro n hn
    have h1 := List.all_eq_true.1 hsz n
    have hlen : ds.length = fn.params.toList.length := by
      have : ∀ (ts : List TypeId) (vs : List Value) (ds : List (DataW H)) (ps : List MemPlace), DataW.TrodAll enc C.prog W 0 (fun _ => true) true ts vs ds ps → ds.length = ts.length := by
        intro ts
        induction ts with
        | nil => intro vs ds ps h; cases vs <;> cases ds <;> simp [DataW.TrodAll] at h ⊢
        | cons t ts ih =>
          intro vs ds ps h
          cases vs <;> cases ds <;> simp [DataW.TrodAll] at h ⊢
          obtain ⟨p, _, q, h2, _⟩ := h
          exact ih _ _ _ h2
      exact this _ _ _ _ hA
    have h2 : n ∈ DataW.weightsEach C.prog (fn.params.toList ++ s.plain.varTypes C.prog) (ds ++ []) := by
      have : ∀ (ts us : List TypeId) (ds : List (DataW H)), ds.length = ts.length → ∀ n ∈ DataW.weightsEach C.prog ts ds, n ∈ DataW.weightsEach C.prog (ts ++ us) ds := by
        intro ts
        induction ts with
        | nil => intro us ds h n hn; simp [DataW.weightsEach] at hn
        | cons t ts ih =>
          intro us ds h n hn
          cases ds with
          | nil => simp at h
          | cons d ds =>
            simp only [List.cons_append, DataW.weightsEach, List.mem_append] at hn ⊢
            rcases hn with hn | hn
            · exact .inl hn
            · exact .inr (ih us ds (by simpa using h) n hn)
      rw [List.append_nil]
      exact this _ _ _ hlen n hn
    exact of_decide_eq_true (h1 h2)
  obtain ⟨hdl, hwt⟩ := args_wt _ _ _ _ hA hw
  have hrep := args_rep (n := n) (base := base) _ _ _ _ hp (fun j t v ht hv => hval j t v (by simpa using ht) (by simpa using hv)) hA
  obtain ⟨_, hcall⟩ := (hc ds hdl hwt).out
  have hcw := callsIn_wide.1 (hcall W (fun b => b < W.heap.size) args.toList (fun b h => h) hrep)
  simp only [Array.toArray_toList] at hcw
  refine hcw.mono fun e W' ⟨x', S', he, hx, _, _, hgrow⟩ => ?_
  subst he
  cases hx
  have hb : Go.RowKit.Below W.heap.size W W' := ⟨hgrow.os, hgrow.tape, hgrow.output.1, hgrow.size, fun k hk => hgrow.same k hk⟩
  obtain ⟨s1, s2, s3⟩ := hs ds hdl
  refine ⟨_, rfl, ds, [], before, [], p, [], hW', ?_, ?_, ?_, ?_, fun h => by cases h⟩
  · rw [s1, hres]
    refine ⟨[], [], ⟨1, ?_⟩, rfl, rfl⟩
    unfold DataW.trod
    rw [htb]
    rfl
  · rw [s2]
    have hlt : ∀ x ∈ p, x.block < W.heap.size := fun x hx => hW'.lt x (by rw [hbe]; simp [hx])
    exact below_all hlaid hb _ _ _ _ hr hlt hA
  · rw [s3, hvars]; rfl
  · exact hb.frame _
end Hm
namespace Hm
open Go
section
variable {H : Type} {P : Program}
def wtE (P : Program) {H : Type} (n : Nat) : List TypeId → List (DataW H) → Prop
  | [], [] => True
  | t :: ts, d :: ds => wt P n t d ∧ wtE P n ts ds
  | _, _ => False
theorem wtE_of {n : Nat} : ∀ (ts : List TypeId) (ds : List (DataW H)), ds.length = ts.length → (∀ (i : Nat) (t : TypeId) (d : DataW H), ts[i]? = some t → ds[i]? = some d → wt P n t d) → wtE P n ts ds
  | [], [], _, _ => trivial
  | t :: ts, d :: ds, hl, h => ⟨h 0 t d rfl rfl, wtE_of ts ds (by simpa using hl) fun i t d h1 h2 => h (i + 1) t d (by simpa using h1) (by simpa using h2)⟩
  | [], _ :: _, hl, _ => by simp at hl
  | _ :: _, [], hl, _ => by simp at hl
theorem wt_st {n : Nat} {t : TypeId} {d : DataW H} {fs : Array Field} (ht : P.underlying t = some (.struct fs)) (h : wt P n t d) : ∃ parts m, d = .agg parts ∧ wtE P m (fs.toList.map (·.type)) parts := by
  cases n with
  | zero => exact h.elim
  | succ n =>
    simp only [wt, ht] at h
    obtain ⟨parts, rfl, hl, h⟩ := h
    refine ⟨parts, n, rfl, wtE_of _ _ (by simpa using hl) fun i t d h1 h2 => ?_⟩
    rw [List.getElem?_map] at h1
    obtain ⟨f, hf, rfl⟩ := Option.map_eq_some_iff.1 h1
    exact h i f d (by simpa using hf) h2
theorem wt_arr {n len : Nat} {t e : TypeId} {d : DataW H} (ht : P.underlying t = some (.array len e)) (h : wt P n t d) : ∃ parts m, d = .agg parts ∧ parts.length = len ∧ ∀ x ∈ parts, wt P m e x := by
  cases n with
  | zero => exact h.elim
  | succ n =>
    simp only [wt, ht] at h
    obtain ⟨parts, rfl, hl, h⟩ := h
    exact ⟨parts, n, rfl, hl, h⟩
theorem wt_int {n : Nat} {t : TypeId} {d : DataW H} (ht : P.underlying t = some (.int .i64)) (h : wt P n t d) : ∃ m, d = .lit (.int .i64 m) ∧ InR .i64 m := by
  cases n with
  | zero => exact h.elim
  | succ n =>
    simp only [wt, ht] at h
    obtain ⟨m, rfl, h⟩ := h
    refine ⟨m, rfl, ?_⟩
    simpa [Lit.wf, IntKind.min, IntKind.max, IntKind.signed, IntKind.bits, InR] using h
theorem wt_bool {n : Nat} {t : TypeId} {d : DataW H} (ht : P.underlying t = some .bool) (h : wt P n t d) : ∃ b, d = .lit (.bool b) := by
  cases n with
  | zero => exact h.elim
  | succ n => simpa only [wt, ht] using h
theorem wt_str {n : Nat} {t : TypeId} {d : DataW H} (ht : P.underlying t = some .string) (h : wt P n t d) : ∃ l, d = .lit (.string l) ∧ l.length ≤ 140737488351232 := by
  cases n with
  | zero => exact h.elim
  | succ n =>
    simp only [wt, ht] at h
    exact h
theorem ex_map {α : Type} {f : α → V} {Q : α → Prop} : ∀ (ds : List (DataW H)), (∀ d ∈ ds, ∃ a, dv d = f a ∧ Q a) → ∃ l : List α, dvL ds = l.map f ∧ l.length = ds.length ∧ ∀ a ∈ l, Q a
  | [], _ => ⟨[], rfl, rfl, fun a h => by cases h⟩
  | d :: ds, h => by
    obtain ⟨a, h1, h2⟩ := h d (by simp)
    obtain ⟨l, h3, h4, h5⟩ := ex_map ds fun x hx => h x (by simp [hx])
    refine ⟨a :: l, by simp only [dvL, List.map_cons, h1, h3], by simp [h4], fun b hb => ?_⟩
    rcases List.mem_cons.1 hb with rfl | hb
    · exact h2
    · exact h5 b hb
theorem wt_sl {α : Type} {f : α → V} {Q : α → Prop} {t e : TypeId} (ht : P.underlying t = some (.slice e)) (he : ∀ (n : Nat) (d : DataW H), wt P n e d → ∃ a, dv d = f a ∧ Q a) {n : Nat} {d : DataW H} (h : wt P n t d) :
    ∃ l : List α, dv d = .sl .p (l.map f) ∧ l.length * P.bytesOf e ≤ 140737488351232 ∧ ∀ a ∈ l, Q a := by
  cases n with
  | zero => exact h.elim
  | succ n =>
    simp only [wt, ht] at h
    rcases h with rfl | ⟨elems, spare, rfl, hl, h⟩
    · exact ⟨[], rfl, by simp, fun a h => by cases h⟩
    · obtain ⟨l, h1, h2, h3⟩ := ex_map elems fun x hx => he n x (h x hx)
      exact ⟨l, by simp only [dv, h1], by rw [h2]; exact hl, h3⟩
end
theorem in_Typ {H : Type} (n : Nat) (d : DataW H) (h : wt Go.Proofs.Tryz.prog n 111 d) : ∃ t : Typ, dv d = tyV t ∧ t.name.length ≤ 140737488351232 ∧ InR .i64 t.parent := by
  obtain ⟨parts, m, rfl, hp⟩ := wt_st Go.Proofs.Tryz.underlying111 h
  match parts, hp with
  | [d0, d1], hp =>
    obtain ⟨h0, h1, _⟩ := hp
    obtain ⟨s, rfl, hs⟩ := wt_str Go.Proofs.Tryz.underlying9 h0
    obtain ⟨k, rfl, hk⟩ := wt_int Go.Proofs.Tryz.underlying3 h1
    exact ⟨⟨s, k⟩, rfl, hs, hk⟩
theorem in_Obj {H : Type} (n : Nat) (d : DataW H) (h : wt Go.Proofs.Tryz.prog n 82 d) : ∃ t : Obj, dv d = obV t ∧ t.name.length ≤ 140737488351232 ∧ InR .i64 t.type := by
  obtain ⟨parts, m, rfl, hp⟩ := wt_st Go.Proofs.Tryz.underlying82 h
  match parts, hp with
  | [d0, d1], hp =>
    obtain ⟨h0, h1, _⟩ := hp
    obtain ⟨s, rfl, hs⟩ := wt_str Go.Proofs.Tryz.underlying9 h0
    obtain ⟨k, rfl, hk⟩ := wt_int Go.Proofs.Tryz.underlying3 h1
    exact ⟨⟨s, k⟩, rfl, hs, hk⟩
theorem by_Typ : Program.bytesOf Go.Proofs.Tryz.prog 111 = 24 := by kernel_rfl
theorem by_Obj : Program.bytesOf Go.Proofs.Tryz.prog 82 = 24 := by kernel_rfl
theorem in_Typs {H : Type} {n : Nat} {d : DataW H} (h : wt Go.Proofs.Tryz.prog n 22 d) : ∃ l : List Typ, dv d = .sl .p (l.map tyV) ∧ l.length ≤ 140737488355328 ∧ ∀ t ∈ l, t.name.length ≤ 140737488355328 := by
  obtain ⟨l, h1, h2, h3⟩ := wt_sl Go.Proofs.Tryz.underlying22 in_Typ h
  rw [by_Typ] at h2
  exact ⟨l, h1, by omega, fun t ht => by have := (h3 t ht).1; omega⟩
theorem in_Objs {H : Type} {n : Nat} {d : DataW H} (h : wt Go.Proofs.Tryz.prog n 23 d) : ∃ l : List Obj, dv d = .sl .p (l.map obV) ∧ l.length ≤ 140737488355328 ∧ ∀ t ∈ l, t.name.length ≤ 140737488355328 := by
  obtain ⟨l, h1, h2, h3⟩ := wt_sl Go.Proofs.Tryz.underlying23 in_Obj h
  rw [by_Obj] at h2
  exact ⟨l, h1, by omega, fun t ht => by have := (h3 t ht).1; omega⟩
theorem by_intD : Program.bytesOf Go.Proofs.Tryz.prog 3 = 8 := by kernel_rfl
theorem by_Pair : Program.bytesOf Go.Proofs.Tryz.prog 136 = 16 := by kernel_rfl
theorem by_Atom : Program.bytesOf Go.Proofs.Tryz.prog 60 = 32 := by kernel_rfl
theorem by_Lit : Program.bytesOf Go.Proofs.Tryz.prog 62 = 40 := by kernel_rfl
theorem by_Prd : Program.bytesOf Go.Proofs.Tryz.prog 113 = 40 := by kernel_rfl
theorem by_Sch : Program.bytesOf Go.Proofs.Tryz.prog 116 = 144 := by kernel_rfl
theorem by_Cn : Program.bytesOf Go.Proofs.Tryz.prog 64 = 88 := by kernel_rfl
theorem in_Int1 {H : Type} (n : Nat) (d : DataW H) (h : wt Go.Proofs.Tryz.prog n 3 d) : ∃ m, dv d = i64V m ∧ InR .i64 m := by
  obtain ⟨m, rfl, hm⟩ := wt_int Go.Proofs.Tryz.underlying3 h
  exact ⟨m, rfl, hm⟩
theorem in_Ints {H : Type} {n : Nat} {d : DataW H} (h : wt Go.Proofs.Tryz.prog n 30 d) : ∃ l : List Int, dv d = .sl .p (l.map i64V) ∧ l.length ≤ 17592186044416 ∧ ∀ c ∈ l, InR .i64 c := by
  obtain ⟨l, h1, h2, h3⟩ := wt_sl Go.Proofs.Tryz.underlying30 in_Int1 h
  rw [by_intD] at h2
  exact ⟨l, h1, by omega, h3⟩
theorem in_Pair {H : Type} (n : Nat) (d : DataW H) (h : wt Go.Proofs.Tryz.prog n 136 d) : ∃ p : Int × Int, dv d = pairV p ∧ True := by
  obtain ⟨parts, m, rfl, hl, hp⟩ := wt_arr Go.Proofs.Tryz.underlying136 h
  match parts, hl with
  | [d0, d1], _ =>
    obtain ⟨x, rfl, _⟩ := wt_int Go.Proofs.Tryz.underlying3 (hp d0 (by simp))
    obtain ⟨y, rfl, _⟩ := wt_int Go.Proofs.Tryz.underlying3 (hp d1 (by simp))
    exact ⟨(x, y), rfl, trivial⟩
theorem in_Pairs {H : Type} {n : Nat} {d : DataW H} (h : wt Go.Proofs.Tryz.prog n 114 d) : ∃ l : List (Int × Int), dv d = .sl .p (l.map pairV) ∧ l.length ≤ 17592186044416 := by
  obtain ⟨l, h1, h2, h3⟩ := wt_sl Go.Proofs.Tryz.underlying114 in_Pair h
  rw [by_Pair] at h2
  exact ⟨l, h1, by omega⟩
theorem in_Atom {H : Type} (n : Nat) (d : DataW H) (h : wt Go.Proofs.Tryz.prog n 60 d) : ∃ a : At, dv d = atV a ∧ AtOk a := by
  obtain ⟨parts, m, rfl, hp⟩ := wt_st Go.Proofs.Tryz.underlying60 h
  match parts, hp with
  | [d0, d1], hp =>
    obtain ⟨h0, h1, _⟩ := hp
    obtain ⟨k, rfl, hk⟩ := wt_int Go.Proofs.Tryz.underlying3 h0
    obtain ⟨l, e1, b1, r1⟩ := in_Ints h1
    refine ⟨⟨k, l⟩, ?_, ⟨b1, r1, hk⟩⟩
    simp only [dv, dvC, V.cells, e1, List.append_nil, atV, List.cons_append, List.nil_append]
theorem in_Atoms {H : Type} {n : Nat} {d : DataW H} (h : wt Go.Proofs.Tryz.prog n 26 d) : ∃ l : List At, dv d = .sl .p (l.map atV) ∧ l.length ≤ 4398046511104 ∧ ∀ a ∈ l, AtOk a := by
  obtain ⟨l, h1, h2, h3⟩ := wt_sl Go.Proofs.Tryz.underlying26 in_Atom h
  rw [by_Atom] at h2
  exact ⟨l, h1, by omega, h3⟩
theorem in_Lit {H : Type} (n : Nat) (d : DataW H) (h : wt Go.Proofs.Tryz.prog n 62 d) : ∃ x : Lit, dv d = litV x ∧ AtOk x.at_ := by
  obtain ⟨parts, m, rfl, hp⟩ := wt_st Go.Proofs.Tryz.underlying62 h
  match parts, hp with
  | [d0, d1], hp =>
    obtain ⟨h0, h1, _⟩ := hp
    obtain ⟨b, rfl⟩ := wt_bool Go.Proofs.Tryz.underlying4 h0
    obtain ⟨a, e1, o1⟩ := in_Atom _ _ h1
    refine ⟨⟨b, a⟩, ?_, o1⟩
    simp only [dv, dvC, V.cells, e1, atV, List.append_nil, litV, List.cons_append, List.nil_append]
theorem in_Lits {H : Type} {n : Nat} {d : DataW H} (h : wt Go.Proofs.Tryz.prog n 27 d) : ∃ l : List Lit, dv d = .sl .p (l.map litV) ∧ l.length ≤ 3518437208883 ∧ ∀ x ∈ l, AtOk x.at_ := by
  obtain ⟨l, h1, h2, h3⟩ := wt_sl Go.Proofs.Tryz.underlying27 in_Lit h
  rw [by_Lit] at h2
  exact ⟨l, h1, by omega, h3⟩
theorem in_Prd {H : Type} (n : Nat) (d : DataW H) (h : wt Go.Proofs.Tryz.prog n 113 d) : ∃ p : Prd, dv d = prdV p ∧ (p.name.length ≤ 140737488355328 ∧ p.types.length ≤ 17592186044416) := by
  obtain ⟨parts, m, rfl, hp⟩ := wt_st Go.Proofs.Tryz.underlying113 h
  match parts, hp with
  | [d0, d1], hp =>
    obtain ⟨h0, h1, _⟩ := hp
    obtain ⟨s, rfl, hs⟩ := wt_str Go.Proofs.Tryz.underlying9 h0
    obtain ⟨l, e1, b1, r1⟩ := in_Ints h1
    refine ⟨⟨s, l⟩, ?_, by simp only; omega, b1⟩
    simp only [dv, dvC, V.cells, e1, List.append_nil, prdV, List.cons_append, List.nil_append]
theorem in_Prds {H : Type} {n : Nat} {d : DataW H} (h : wt Go.Proofs.Tryz.prog n 24 d) : ∃ l : List Prd, dv d = .sl .p (l.map prdV) ∧ l.length ≤ 140737488355328 ∧ ∀ p ∈ l, p.name.length ≤ 140737488355328 ∧ p.types.length ≤ 17592186044416 := by
  obtain ⟨l, h1, h2, h3⟩ := wt_sl Go.Proofs.Tryz.underlying24 in_Prd h
  rw [by_Prd] at h2
  exact ⟨l, h1, by omega, h3⟩
theorem in_Sch {H : Type} (n : Nat) (d : DataW H) (h : wt Go.Proofs.Tryz.prog n 116 d) : ∃ s : Sch, dv d = schV s ∧ SchOk s := by
  obtain ⟨parts, m, rfl, hp⟩ := wt_st Go.Proofs.Tryz.underlying116 h
  match parts, hp with
  | [d0, d1, d2, d3, d4, d5, d6], hp =>
    obtain ⟨h0, h1, h2, h3, h4, h5, h6, _⟩ := hp
    obtain ⟨s, rfl, hs⟩ := wt_str Go.Proofs.Tryz.underlying9 h0
    obtain ⟨l1, e1, b1, r1⟩ := in_Ints h1
    obtain ⟨l2, e2, b2⟩ := in_Pairs h2
    obtain ⟨l3, e3, b3, r3⟩ := in_Lits h3
    obtain ⟨l4, e4, b4, r4⟩ := in_Atoms h4
    obtain ⟨l5, e5, b5, r5⟩ := in_Atoms h5
    obtain ⟨k, rfl, hk⟩ := wt_int Go.Proofs.Tryz.underlying3 h6
    refine ⟨⟨s, l1, l2, l3, l4, l5, k⟩, ?_, ⟨by simp only; omega, b1, b2, b3, b4, b5, r3, r4, r5⟩⟩
    simp only [dv, dvC, V.cells, e1, e2, e3, e4, e5, List.append_nil, schV, List.cons_append, List.nil_append]
theorem in_Schs {H : Type} {n : Nat} {d : DataW H} (h : wt Go.Proofs.Tryz.prog n 25 d) : ∃ l : List Sch, dv d = .sl .p (l.map schV) ∧ l.length ≤ 140737488355328 ∧ ∀ s ∈ l, SchOk s := by
  obtain ⟨l, h1, h2, h3⟩ := wt_sl Go.Proofs.Tryz.underlying25 in_Sch h
  rw [by_Sch] at h2
  exact ⟨l, h1, by omega, h3⟩
theorem in_Dom {H : Type} {n : Nat} {d : DataW H} (h : wt Go.Proofs.Tryz.prog n 29 d) : ∃ x : Dom, dv d = domV x ∧ DoOk x := by
  obtain ⟨parts, m, rfl, hp⟩ := wt_st Go.Proofs.Tryz.underlying29 h
  match parts, hp with
  | [d0, d1, d2, d3, d4, d5], hp =>
    obtain ⟨h0, h1, h2, h3, h4, h5, _⟩ := hp
    obtain ⟨l0, e0, b0⟩ := in_Typs h0
    obtain ⟨l1, e1, b1⟩ := in_Objs h1
    obtain ⟨l2, e2, b2⟩ := in_Prds h2
    obtain ⟨l3, e3, b3⟩ := in_Schs h3
    obtain ⟨l4, e4, b4⟩ := in_Atoms h4
    obtain ⟨l5, e5, b5⟩ := in_Lits h5
    refine ⟨⟨l0, l1, l2, l3, l4, l5⟩, ?_, ⟨b0, b1, b2, b3, b4, b5⟩⟩
    simp only [dv, dvC, V.cells, e0, e1, e2, e3, e4, e5, List.append_nil, domV, List.cons_append, List.nil_append]
theorem in_Cn {H : Type} (n : Nat) (d : DataW H) (h : wt Go.Proofs.Tryz.prog n 64 d) : ∃ x : Cn, dv d = cnV x ∧ CnOk x := by
  obtain ⟨parts, m, rfl, hp⟩ := wt_st Go.Proofs.Tryz.underlying64 h
  match parts, hp with
  | [d0, d1, d2, d3, d4, d5], hp =>
    obtain ⟨h0, h1, h2, h3, h4, h5, _⟩ := hp
    obtain ⟨k, rfl, hk⟩ := wt_int Go.Proofs.Tryz.underlying3 h0
    obtain ⟨l, e1, b1, r1⟩ := in_Ints h1
    obtain ⟨a, e2, o2⟩ := in_Atom _ _ h2
    obtain ⟨x, rfl, hx⟩ := wt_int Go.Proofs.Tryz.underlying3 h3
    obtain ⟨y, rfl, hy⟩ := wt_int Go.Proofs.Tryz.underlying3 h4
    obtain ⟨z, rfl, hz⟩ := wt_int Go.Proofs.Tryz.underlying3 h5
    refine ⟨⟨k, l, a, x, y, z⟩, ?_, ⟨b1, r1, o2, hx, hy, hz, hk⟩⟩
    simp only [dv, dvC, V.cells, e1, e2, atV, List.append_nil, cnV, List.cons_append, List.nil_append]
theorem in_Cnd {H : Type} {n : Nat} {d : DataW H} (h : wt Go.Proofs.Tryz.prog n 33 d) : ∃ x : Cnd, dv d = cndV x ∧ CndOk x := by
  obtain ⟨parts, m, rfl, hp⟩ := wt_st Go.Proofs.Tryz.underlying33 h
  match parts, hp with
  | [d0, d1], hp =>
    obtain ⟨h0, h1, _⟩ := hp
    obtain ⟨l0, e0, b0, _⟩ := in_Ints h0
    obtain ⟨l1, e1, b1, o1⟩ := wt_sl Go.Proofs.Tryz.underlying31 in_Cn h1
    rw [by_Cn] at b1
    refine ⟨⟨l0, l1⟩, ?_, ⟨b0, by simp only; omega, o1⟩⟩
    simp only [dv, dvC, V.cells, e0, e1, List.append_nil, cndV, List.cons_append, List.nil_append]
structure RC (B N : Nat) (s : Cs × Bool) : Prop where
  len : s.1.length ≤ N
  l40 : s.2 = false → s.1.length ≤ 40
  ca : ∀ l ∈ s.1, CaOk B l
theorem RC.mono {B C N M : Nat} {s : Cs × Bool} (h : RC B N s) (hB : B ≤ C) (hN : N ≤ M) : RC C M s := ⟨by have := h.len; omega, h.l40, fun l hm => (h.ca l hm).mono hB⟩
theorem RC.some (B : Nat) (b : Bool) : RC B 100 (someL b, false) := by
  have := CsOk.some B b
  exact ⟨by have := this.len; simp only; omega, fun _ => this.len, this.ca⟩
def RPartsOk : List (Cs × Bool) → Nat → Prop
  | [], _ => True
  | q :: ps, S => ∃ B S', B + S' ≤ S ∧ RC B 100 q ∧ RPartsOk ps S'
theorem RPartsOk.take : ∀ {ps : List (Cs × Bool)} {S : Nat} (k : Nat), RPartsOk ps S → RPartsOk (ps.take k) S
  | [], _, k, _ => by simp [RPartsOk]
  | q :: ps, S, 0, _ => trivial
  | q :: ps, S, k + 1, ⟨B, S', h1, h2, h3⟩ => ⟨B, S', h1, h2, RPartsOk.take k h3⟩
theorem RPartsOk.all : ∀ {ps : List (Cs × Bool)} {S : Nat}, RPartsOk ps S → ∀ p ∈ ps, RC S 100 p
  | [], _, _, p, hp => by simp at hp
  | q :: ps, S, ⟨B, S', h1, h2, h3⟩, p, hp => by
    rcases List.mem_cons.1 hp with rfl | hp
    · exact h2.mono (by omega) (Nat.le_refl _)
    · exact (RPartsOk.all h3 p hp).mono (by omega) (Nat.le_refl _)
end Hm
end
