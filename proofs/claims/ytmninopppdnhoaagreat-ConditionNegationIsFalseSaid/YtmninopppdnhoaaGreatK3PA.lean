/- Part K3PA of the proof. -/
import Derived.Test.YtmninopppdnhoaaGreatKPB
import Derived.Test.YtmninopppdnhoaaGreatK3A
set_option linter.unusedVariables false
set_option linter.unusedSimpArgs false
section
namespace Hm
open Go
theorem arity_none {d n ps} (ok : NOk d n ps) (hk : n.kind = 1 ∨ n.kind = 2 ∨ n.kind = 3) : n.ch = [] := by
  have h := ok.ar
  unfold arityI at h
  rw [if_neg (by omega), if_neg (by omega)] at h
  have h := h (by omega)
  cases hc : n.ch with
  | nil => rfl
  | cons _ _ => rw [hc] at h; simp at h; omega
end Hm
end
section
namespace Hm
open Go
set_option maxRecDepth 100000
set_option maxHeartbeats 4000000
theorem argsFault_code (d : Dom) (c : Cnd) (args : List Int) : (argsFault d c args).code = 0 ↔ argsFault d c args = okF := by
  unfold argsFault
  split
  · simp [okF]
  · split
    · rename_i f hf
      exact ⟨fun h => absurd h (argBadC_code hf), fun h => absurd (congrArg Flt.code h) (argBadC_code hf)⟩
    · simp [okF]
theorem groundFault_code (d : Dom) (l : List At) : (groundFault d l).code = 0 ↔ groundFault d l = okF := by
  unfold groundFault
  split
  · rename_i h; exact ⟨fun h1 => absurd h1 h, fun h1 => absurd (congrArg Flt.code h1) h⟩
  · simp [okF]
end Hm
end
section
namespace Hm
open Go
theorem ST.low2 {d l m a b ps ch} (h : ST d l m a b ps ch) : ∀ i, a ≤ i → i < b → ∀ n, l[i]? = some n → ∀ k ∈ n.ch, (a : Int) ≤ k ∧ k < i := by
  induction h with
  | @node a i ps n hn ok h ih =>
    intro j h1 h2 n' hn' k hk
    by_cases e : j = i
    · subst e
      rw [hn] at hn'
      cases hn'
      obtain ⟨_, _, h3, h4, h5, _⟩ := h.kids rfl k hk
      exact ⟨h5, h4⟩
    · exact ih j h1 (by omega) n' hn' k hk
  | nil => intro i h1 h2; omega
  | @cons a b c ps ch h1 h2 ih1 ih2 =>
    intro i h3 h4 n' hn' k hk
    have l1 := h1.le.1
    by_cases e : i < b
    · exact ih1 i h3 e n' hn' k hk
    · have := ih2 i (by omega) h4 n' hn' k hk
      omega
theorem st_shape {d : Dom} {l : List Cn} {N : Nat} (hlow : lowTo (treeC l) N) {m a b ps ch} (h : ST d l m a b ps ch) : b ≤ N →
    (∀ i, a ≤ i → i < b → ∃ n ps', l[i]? = some n ∧ NOk d n ps' ∧ ∃ e, chn (treeC l) i n.ch.reverse = some e) ∧ (m = true → (sz (treeC l) (b - 1) : Int) = b - a) ∧ (m = false → chn (treeC l) b ch.reverse = some a ∧ (sumN (sz (treeC l)) ch : Int) = b - a) := by
  induction h with
  | @node a i ps n hn ok h ih =>
    intro hb
    obtain ⟨i1, _, i3⟩ := ih (by omega)
    obtain ⟨i4, i5⟩ := i3 rfl
    refine ⟨fun j h1 h2 => ?_, fun _ => ?_, fun h => (by cases h)⟩
    · by_cases e : j = i
      · subst e
        exact ⟨n, ps, hn, ok, a, i4⟩
      · exact i1 j h1 (by omega)
    · rw [show i + 1 - 1 = i from rfl, sz_eq (fun j hj => hlow j (by omega)), treeC_ch hn]
      have := h.le.1
      omega
  | @nil a ps => exact fun _ => ⟨fun i h1 h2 => (by omega), fun h => (by cases h), fun _ => (by simp [chn, sumN])⟩
  | @cons a b c ps ch h1 h2 ih1 ih2 =>
    intro hc
    have l1 := h1.le.2 rfl
    have l2 := h2.le.1
    obtain ⟨i1, i2, _⟩ := ih1 (by omega)
    obtain ⟨j1, _, j3⟩ := ih2 hc
    obtain ⟨j4, j5⟩ := j3 rfl
    have i2 := i2 rfl
    refine ⟨fun i h3 h4 => ?_, fun h => (by cases h), fun _ => ⟨?_, ?_⟩⟩
    · by_cases e : i < b
      · exact i1 i h3 e
      · exact j1 i (by omega) h4
    · rw [List.reverse_cons, chn_snoc, j4]
      show (if (b : Int) - 1 < 0 ∨ (b : Int) - 1 ≠ (b : Int) - 1 then none else some ((b : Int) - sz (treeC l) ((b : Int) - 1).toNat)) = some (a : Int)
      rw [if_neg (by omega), show ((b : Int) - 1).toNat = b - 1 from by omega]
      congr 1
      omega
    · simp only [sumN]
      rw [show ((b : Int) - 1).toNat = b - 1 from by omega]
      omega
theorem st_scope {d : Dom} {l : List Cn} {m a b ps ch} (h : ST d l m a b ps ch) : ∃ S : Nat → List Int, (m = true → S (b - 1) = ps) ∧ (m = false → ∀ k ∈ ch, S k.toNat = ps) ∧
    ∀ i, a ≤ i → i < b → ∀ n, l[i]? = some n → NOk d n (S i) ∧ ∀ k ∈ n.ch, S k.toNat = S i ++ ownC n := by
  induction h with
  | @node a i ps n hn ok h ih =>
    obtain ⟨S, _, s2, s3⟩ := ih
    have s2 := s2 rfl
    refine ⟨fun j => if j = i then ps else S j, fun _ => by simp, fun h => (by cases h), fun j h1 h2 n' hn' => ?_⟩
    by_cases e : j = i
    · subst e
      rw [hn] at hn'
      cases hn'
      simp only [if_true]
      refine ⟨ok, fun k hk => ?_⟩
      obtain ⟨_, _, h3, h4, _⟩ := h.kids rfl k hk
      rw [if_neg (by omega)]
      exact s2 k hk
    · simp only [if_neg e]
      obtain ⟨q1, q2⟩ := s3 j h1 (by omega) n' hn'
      refine ⟨q1, fun k hk => ?_⟩
      have := h.low2 j h1 (by omega) n' hn' k hk
      rw [if_neg (by omega)]
      exact q2 k hk
  | nil => exact ⟨fun _ => [], fun h => (by cases h), fun _ k hk => (by simp at hk), fun i h1 h2 => (by omega)⟩
  | @cons a b c ps ch h1 h2 ih1 ih2 =>
    obtain ⟨S1, a1, _, a3⟩ := ih1
    obtain ⟨S2, _, b2, b3⟩ := ih2
    have a1 := a1 rfl
    have b2 := b2 rfl
    have l1 := h1.le.2 rfl
    refine ⟨fun j => if j < b then S1 j else S2 j, fun h => (by cases h), fun _ k hk => ?_, fun i h3 h4 n hn => ?_⟩
    · rcases List.mem_cons.1 hk with rfl | hk
      · simp only
        rw [if_pos (by omega), show ((b : Int) - 1).toNat = b - 1 from by omega]
        exact a1
      · obtain ⟨_, _, g1, g2, g3, _⟩ := h2.kids rfl k hk
        simp only
        rw [if_neg (by omega)]
        exact b2 k hk
    · by_cases e : i < b
      · obtain ⟨q1, q2⟩ := a3 i h3 e n hn
        simp only [if_pos e]
        refine ⟨q1, fun k hk => ?_⟩
        have := h1.low2 i h3 e n hn k hk
        rw [if_pos (by omega)]
        exact q2 k hk
      · obtain ⟨q1, q2⟩ := b3 i (by omega) h4 n hn
        simp only [if_neg e]
        refine ⟨q1, fun k hk => ?_⟩
        have := h2.low2 i (by omega) h4 n hn k hk
        rw [if_neg (by omega)]
        exact q2 k hk
theorem cndV_to {d : Dom} {c : Cnd} (h : CndV d c) : condFault d c = okF := by
  obtain ⟨hd, hp, h30, ht⟩ := h
  have h0 := ht.le.2 rfl
  have hlow := ht.lowTo
  obtain ⟨s1, s2, _⟩ := st_shape hlow ht (Nat.le_refl _)
  have s2 := s2 rfl
  have hbad : ∀ j, j < c.nodes.length → cnBad c.nodes j = none := fun j hj => by
    obtain ⟨n, ps', hn, ok, e, he⟩ := s1 j (by omega) hj
    unfold cnBad
    rw [hn]
    simp only
    have h0 := ok.k0
    have h8 := ok.k8
    rw [if_neg (by omega), if_neg (fun h => h.2 (ok.ar h.1)), he]
    rfl
  have hsz : sz (treeC c.nodes) (c.nodes.length - 1) = c.nodes.length := by omega
  have hsh : shapeF c.nodes = okF := by
    rw [sh_all (by omega) hbad, if_neg (by simp [hsz])]
  obtain ⟨S, r1, _, r3⟩ := st_scope ht
  have r1 := r1 rfl
  have hsc : ∀ m i, i + m + 1 = c.nodes.length → scopeC c i = S i := by
    intro m
    induction m using Nat.strongRecOn with
    | ind m ih =>
      intro i hi
      by_cases e : i + 1 = c.nodes.length
      · have : i = c.nodes.length - 1 := by omega
        rw [this, scope_root h0, r1]
      · obtain ⟨p, hpp⟩ := parent_some hbad hsz (i := i) (by omega)
        obtain ⟨n, hn, hmem⟩ := parentC_mem hpp
        have hpg := parentC_gt hpp
        rw [scopeC_eq c i (by omega), hpp]
        simp only [hn]
        have := (r3 p (by omega) hpg.2 n hn).2 i hmem
        simp only [Int.toNat_natCast] at this
        rw [this, ih (c.nodes.length - 1 - p) (by omega) p (by omega)]
        rfl
  have hcode : ∀ j, j < c.nodes.length → ∃ n, c.nodes[j]? = some n ∧ NOk d n (scopeC c j) := fun j hj => by
    obtain ⟨n, hn⟩ := get_some hj
    refine ⟨n, hn, ?_⟩
    rw [hsc (c.nodes.length - 1 - j) j (by omega)]
    exact (r3 j (by omega) hj n hn).1
  rw [cf_rest hd hp hsh, scan0_none (fun j hj => by
    obtain ⟨n, hn, ok⟩ := hcode j hj
    exact nodeCode_none hn ok.qu), scan0_none (fun j hj => by
    obtain ⟨n, hn, ok⟩ := hcode j hj
    exact nodeCode_none hn ok.lf)]
theorem Lies.self (l : List Cn) : Lies l 0 l := fun j n hj => by rw [Nat.zero_add]; exact hj
theorem quantK_dual (k : Int) : quantK (dualI k) = quantK k := by
  unfold quantK dualI
  repeat' split
  all_goals simp_all
theorem NOk.dual {d : Dom} {n : Cn} {ps : List Int} (ok : NOk d n ps) (is : List Int) (h : is.length = n.ch.length) (h5 : 5 ≤ n.kind) : NOk d ⟨dualI n.kind, is, n.at_, n.left, n.right, n.type⟩ ps := by
  have h8 := ok.k8
  have hd : 5 ≤ dualI n.kind ∧ dualI n.kind ≤ 8 := by unfold dualI; (repeat' split) <;> omega
  have ha : arityI (dualI n.kind) = arityI n.kind := by unfold arityI dualI; (repeat' split) <;> omega
  refine ⟨by simp only; omega, by simp only; omega, fun h0 => ?_, ?_, leaf_not (by simp only; omega) (by simp only; omega)⟩
  · simp only at h0 ⊢
    rw [ha] at h0 ⊢
    rw [h]
    exact ok.ar h0
  · have := ok.qu
    unfold quCode at this ⊢
    simp only [quantK_dual]
    exact this
theorem NOk.z6 {d : Dom} {ps : List Int} : NOk d (zCn 6 []) ps := ⟨by decide, by decide, fun h => absurd h (by decide), by unfold quCode; rw [if_pos (by decide)], leaf_not (by decide) (by decide)⟩
theorem st_one {d : Dom} {l : List Cn} {a b : Nat} {ps : List Int} {k : Int} (h : ST d l false a b ps [k]) : ST d l true a b ps [] ∧ k = (b : Int) - 1 := by
  cases h with
  | cons h1 h2 => cases h2; exact ⟨h1, rfl⟩
theorem own_not {n : Cn} (h : quantK n.kind = false) : ownC n = [] := by unfold ownC; rw [h]; rfl
theorem ng_st {d : Dom} {l : List Cn} {m : Bool} {a b : Nat} {ps ch : List Int} (h : ST d l m a b ps ch) :
    (m = true → ∀ q neg l', Lies l' q (ng l q (b - 1) neg) → ST d l' true q (q + (ng l q (b - 1) neg).length) ps []) ∧
    (m = false → ∀ q neg l', Lies l' q (ngL (fun b k => ng l b k.toNat neg) q ch).1 → ST d l' false q (q + (ngL (fun b k => ng l b k.toNat neg) q ch).1.length) ps (ngL (fun b k => ng l b k.toNat neg) q ch).2) := by
  induction h with
  | @node a i ps n hn ok h ih =>
    refine ⟨fun _ q neg l' hl => ?_, fun h => (by cases h)⟩
    have hst : ST d l true a (i + 1) ps [] := .node hn ok h
    rw [show i + 1 - 1 = i from rfl, ng_eq hst hn q neg] at hl ⊢
    by_cases h4 : n.kind = 4
    · rw [if_pos h4] at hl ⊢
      obtain ⟨k, hc⟩ := arity_one ok (.inl h4)
      have e0 : ch0 n = k.toNat := by unfold ch0; rw [hc]; rfl
      have := ih.2 rfl q (!neg) l'
      rw [hc, own_not (by unfold quantK; simp [h4]), List.append_nil] at this
      simp only [ngL, List.append_nil] at this
      rw [e0] at hl ⊢
      exact (st_one (this hl)).1
    · rw [if_neg h4] at hl ⊢
      have hk := ih.2 rfl q neg l' hl.left
      have hlen := ngL_len (fun b k => ng l b k.toNat neg) n.ch q
      have hr := hl.right
      have hch : n.kind = 1 ∨ n.kind = 2 ∨ n.kind = 3 → n.ch = [] := fun h => arity_none ok h
      have k0 := ok.k0
      rw [List.length_append, ← Nat.add_assoc]
      cases neg with
      | false =>
        have hN : ∀ P b, ngN n P false b = [⟨n.kind, P, n.at_, n.left, n.right, n.type⟩] := fun P b => by unfold ngN; rw [if_pos rfl]
        rw [hN] at hr ⊢
        have hg := hr 0 _ rfl
        exact .node hg (ok.same _ hlen) hk
      | true =>
        by_cases k1 : n.kind = 1
        · have hN : ∀ P b, ngN n P true b = [zCn 6 []] := fun P b => by unfold ngN; rw [if_neg (by simp), if_pos k1]
          rw [hN] at hr ⊢
          have hg := hr 0 _ rfl
          rw [hch (.inl k1)] at hg ⊢
          simp only [ngL, List.length_nil, Nat.add_zero] at hg ⊢
          exact .node hg .z6 .nil
        · by_cases k23 : n.kind = 2 ∨ n.kind = 3
          · have hN : ∀ P b, ngN n P true b = [⟨n.kind, P, n.at_, n.left, n.right, n.type⟩, zCn 4 [(b : Int)]] := fun P b => by unfold ngN; rw [if_neg (by simp), if_neg k1, if_pos k23]
            rw [hN] at hr ⊢
            have hg := hr 0 _ rfl
            have hg1 := hr 1 _ rfl
            rw [hch (.inr k23)] at hg hg1 ⊢
            simp only [ngL, List.length_nil, Nat.add_zero] at hg hg1 ⊢
            have h1 : ST d l' true q (q + 1) ps [] := .node hg (ok.same [] (by rw [hch (.inr k23)])) (by
              have : ownC (⟨n.kind, [], n.at_, n.left, n.right, n.type⟩ : Cn) = [] := own_not (by unfold quantK; simp; omega)
              rw [this, List.append_nil]
              exact .nil)
            refine .node hg1 .z4 ?_
            have h2 : ownC (zCn 4 [((q : Nat) : Int)]) = [] := own_not (show quantK 4 = false by decide)
            rw [h2, List.append_nil]
            have := ST.cons h1 (.nil (a := q + 1) (ps := ps) (d := d) (l := l'))
            rwa [show ((q + 1 : Nat) : Int) - 1 = q from by omega] at this
          · have hN : ∀ P b, ngN n P true b = [⟨dualI n.kind, P, n.at_, n.left, n.right, n.type⟩] := fun P b => by unfold ngN; rw [if_neg (by simp), if_neg k1, if_neg k23]
            rw [hN] at hr ⊢
            have hg := hr 0 _ rfl
            refine .node hg (ok.dual _ hlen (by omega)) ?_
            have : ownC (⟨dualI n.kind, (ngL (fun b k => ng l b k.toNat true) q n.ch).2, n.at_, n.left, n.right, n.type⟩ : Cn) = ownC n := by unfold ownC; simp only [quantK_dual]
            rw [this]
            exact hk
  | nil => exact ⟨(fun h => by cases h), fun _ q neg l' _ => by simp only [ngL, List.length_nil, Nat.add_zero]; exact .nil⟩
  | @cons a b c ps ch h1 h2 ih1 ih2 =>
    refine ⟨(fun h => by cases h), fun _ q neg l' hl => ?_⟩
    have hb := h1.le.2 rfl
    simp only [ngL] at hl ⊢
    rw [show ((b : Int) - 1).toNat = b - 1 from by omega] at hl ⊢
    have e1 := ih1.1 rfl q neg l' hl.left
    have e2 := ih2.2 rfl _ neg l' hl.right
    rw [List.length_append, ← Nat.add_assoc]
    exact .cons e1 e2
theorem map_one {α β : Type} {x : List α} {f g : α → β} {k : α} (h : x.map f = [k].map g) : ∃ k', x = [k'] ∧ f k' = g k := by
  match x, h with
  | [k'], h => simp at h; exact ⟨k', rfl, h⟩
  | [], h => cases h
  | _ :: _ :: _, h => simp at h
theorem all_map_ne {x y : List Int} {f g : Int → Bool} {neg : Bool} (h : x.map f = y.map fun k => (g k != neg)) : x.all f = (if neg = true then !(y.any g) else y.all g) := by
  have h1 : x.all f = (x.map f).all id := by rw [List.all_map]; rfl
  rw [h1, h, List.all_map]
  cases neg
  · simp [Function.comp_def]
  · rw [if_pos rfl, ← List.not_any_eq_all_not.symm]
    simp [Function.comp_def]
theorem any_map_ne {x y : List Int} {f g : Int → Bool} {neg : Bool} (h : x.map f = y.map fun k => (g k != neg)) : x.any f = (if neg = true then !(y.all g) else y.any g) := by
  have h1 : x.any f = (x.map f).any id := by rw [List.any_map]; rfl
  rw [h1, h, List.any_map]
  cases neg
  · simp [Function.comp_def]
  · rw [if_pos rfl, List.not_all_eq_any_not]
    simp [Function.comp_def]
theorem ng_tru {d : Dom} {l : List Cn} {atoms : List At} {m : Bool} {a b : Nat} {ps ch : List Int} (h : ST d l m a b ps ch) :
    (m = true → ∀ q neg l', Lies l' q (ng l q (b - 1) neg) → ∀ args, tru d l' atoms (q + (ng l q (b - 1) neg).length - 1) args = (tru d l atoms (b - 1) args != neg)) ∧
    (m = false → ∀ q neg l', Lies l' q (ngL (fun b k => ng l b k.toNat neg) q ch).1 → ∀ args, (ngL (fun b k => ng l b k.toNat neg) q ch).2.map (fun k => tru d l' atoms k.toNat args) = ch.map fun k => (tru d l atoms k.toNat args != neg)) := by
  induction h with
  | @node a i ps n hn ok h ih =>
    refine ⟨fun _ q neg l' hl args => ?_, fun h => (by cases h)⟩
    have hst : ST d l true a (i + 1) ps [] := .node hn ok h
    have hst' := (ng_st hst).1 rfl q neg l' hl
    rw [show i + 1 - 1 = i from rfl] at hl hst' ⊢
    have htl := tru_eq (atoms := atoms) hst hn
    have hne := ng_eq hst hn q neg
    rw [hne] at hl hst' ⊢
    clear hne
    by_cases h4 : n.kind = 4
    · rw [if_pos h4] at hl ⊢
      obtain ⟨k, hc⟩ := arity_one ok (.inl h4)
      have e0 : ch0 n = k.toNat := by unfold ch0; rw [hc]; rfl
      have := ih.2 rfl q (!neg) l'
      rw [hc] at this
      simp only [ngL, List.append_nil, List.map_cons, List.map_nil, List.cons.injEq, and_true] at this
      rw [e0] at hl ⊢
      have := this hl args
      rw [show (((q + (ng l q k.toNat (!neg)).length : Nat) : Int) - 1).toNat = q + (ng l q k.toNat (!neg)).length - 1 from by omega] at this
      rw [this, htl, if_neg (by omega), if_neg (by omega), if_pos h4, e0]
      cases tru d l atoms k.toNat args <;> cases neg <;> rfl
    · rw [if_neg h4] at hl hst' ⊢
      have hk := ih.2 rfl q neg l' hl.left
      have hr := hl.right
      have hch : n.kind = 1 ∨ n.kind = 2 ∨ n.kind = 3 → n.ch = [] := fun h => arity_none ok h
      have k0 := ok.k0
      have k8 := ok.k8
      rw [List.length_append, ← Nat.add_assoc] at hst' ⊢
      rw [htl args]
      clear htl
      generalize ngL (fun b k => ng l b k.toNat neg) q n.ch = P at *
      cases neg with
      | false =>
        have hN : ∀ P b, ngN n P false b = [⟨n.kind, P, n.at_, n.left, n.right, n.type⟩] := fun P b => by unfold ngN; rw [if_pos rfl]
        rw [hN] at hr hst' ⊢
        have hg := hr 0 _ rfl
        simp only [List.length_singleton, Nat.add_sub_cancel, Nat.add_zero] at hg hst' ⊢
        rw [tru_eq hst' hg args]
        simp only [Bool.bne_false, if_neg h4]
        split
        · rfl
        · split
          · rfl
          · split
            · have := all_map_ne (hk args)
              simpa using this
            · split
              · have := any_map_ne (hk args)
                simpa using this
              · split
                · rename_i k7
                  obtain ⟨k, hc⟩ := arity_one ok (.inr (.inl k7))
                  refine any_congrB fun o _ => ?_
                  have := hk (args ++ [o])
                  rw [hc] at this
                  obtain ⟨k', e1, e2⟩ := map_one this
                  unfold ch0
                  simp only [e1, hc, List.headD_cons]
                  simpa using e2
                · split
                  · rename_i k8
                    obtain ⟨k, hc⟩ := arity_one ok (.inr (.inr k8))
                    refine all_congrB fun o _ => ?_
                    have := hk (args ++ [o])
                    rw [hc] at this
                    obtain ⟨k', e1, e2⟩ := map_one this
                    unfold ch0
                    simp only [e1, hc, List.headD_cons]
                    simpa using e2
                  · rfl
      | true =>
        by_cases k1 : n.kind = 1
        · have hN : ∀ P b, ngN n P true b = [zCn 6 []] := fun P b => by unfold ngN; rw [if_neg (by simp), if_pos k1]
          rw [hN] at hr hst' ⊢
          have hg := hr 0 _ rfl
          simp only [List.length_singleton, Nat.add_sub_cancel, Nat.add_zero] at hg hst' ⊢
          rw [tru_eq hst' hg args]
          simp [zCn, k1]
        · by_cases k23 : n.kind = 2 ∨ n.kind = 3
          · have hN : ∀ P b, ngN n P true b = [⟨n.kind, P, n.at_, n.left, n.right, n.type⟩, zCn 4 [(b : Int)]] := fun P b => by unfold ngN; rw [if_neg (by simp), if_neg k1, if_pos k23]
            rw [hN] at hr hst' ⊢
            have hg := hr 0 _ rfl
            have hg1 := hr 1 _ rfl
            simp only [List.length_cons, List.length_nil, Nat.add_zero] at hg hg1 hst' ⊢
            have hst2 : ST d l' true q (q + P.1.length + 1 + 1) ps [] := hst'
            obtain ⟨j, nz, ej, _, hnz, _, hkz⟩ := hst2.root
            obtain rfl : j = q + P.1.length + 1 := by omega
            rw [hg1] at hnz
            cases hnz
            have h1 := (st_one hkz).1
            rw [show q + P.1.length + 2 - 1 = q + P.1.length + 1 from by omega, tru_eq hst2 hg1 args]
            have ez : (zCn 4 [((q + P.1.length : Nat) : Int)]).kind = 4 := rfl
            have ec : ch0 (zCn 4 [((q + P.1.length : Nat) : Int)]) = q + P.1.length := Int.toNat_natCast _
            rw [if_neg (by rw [ez]; decide), if_neg (by rw [ez]; decide), if_pos ez, ec, tru_eq h1 hg args]
            rcases k23 with k2 | k3
            · rw [if_pos k2, if_pos k2]
              simp
            · rw [if_neg (by simp only; omega), if_pos k3, if_neg (by omega), if_pos k3]
              simp
          · have hN : ∀ P b, ngN n P true b = [⟨dualI n.kind, P, n.at_, n.left, n.right, n.type⟩] := fun P b => by unfold ngN; rw [if_neg (by simp), if_neg k1, if_neg k23]
            rw [hN] at hr hst' ⊢
            have hg := hr 0 _ rfl
            simp only [List.length_singleton, Nat.add_sub_cancel, Nat.add_zero] at hg hst' ⊢
            rw [tru_eq hst' hg args]
            have hA := all_map_ne (hk args)
            have hO := any_map_ne (hk args)
            rw [if_pos rfl] at hA hO
            simp only [if_neg h4]
            have hcase : n.kind = 5 ∨ n.kind = 6 ∨ n.kind = 7 ∨ n.kind = 8 := by omega
            rcases hcase with e | e | e | e
            · simp only [e, dualI]
              simp [hO]
            · simp only [e, dualI]
              simp [hA]
            · obtain ⟨k, hc⟩ := arity_one ok (.inr (.inl e))
              simp only [e, dualI]
              simp
              refine (all_congrB (q := fun o => !(tru d l atoms (ch0 n) (args ++ [o]))) fun o _ => ?_).trans (by rw [← List.not_any_eq_all_not])
              have := hk (args ++ [o])
              rw [hc] at this
              obtain ⟨k', e1, e2⟩ := map_one this
              unfold ch0
              simp only [e1, hc, List.headD_cons]
              simpa using e2
            · obtain ⟨k, hc⟩ := arity_one ok (.inr (.inr e))
              simp only [e, dualI]
              simp
              refine (any_congrB (q := fun o => !(tru d l atoms (ch0 n) (args ++ [o]))) fun o _ => ?_).trans (by rw [← List.not_all_eq_any_not])
              have := hk (args ++ [o])
              rw [hc] at this
              obtain ⟨k', e1, e2⟩ := map_one this
              unfold ch0
              simp only [e1, hc, List.headD_cons]
              simpa using e2
  | nil => exact ⟨(fun h => by cases h), fun _ q neg l' _ args => rfl⟩
  | @cons a b c ps ch h1 h2 ih1 ih2 =>
    refine ⟨(fun h => by cases h), fun _ q neg l' hl args => ?_⟩
    have hb := h1.le.2 rfl
    simp only [ngL] at hl ⊢
    rw [show ((b : Int) - 1).toNat = b - 1 from by omega] at hl ⊢
    have e1 := ih1.1 rfl q neg l' hl.left args
    have e2 := ih2.2 rfl _ neg l' hl.right args
    simp only [List.map_cons]
    rw [e2, show ((b : Int) - 1).toNat = b - 1 from by omega, show (((q + (ng l q (b - 1) neg).length : Nat) : Int) - 1).toNat = q + (ng l q (b - 1) neg).length - 1 from by omega, e1]
theorem negC_valid {d : Dom} {c : Cnd} (h : CndV d c) (hl : (negC c).nodes.length ≤ 30) : CndV d (negC c) := by
  refine ⟨h.dom, h.par, hl, ?_⟩
  have := (ng_st h.tree).1 rfl 0 true (negC c).nodes (Lies.self _)
  rwa [Nat.zero_add] at this
theorem negC_tru {d : Dom} {c : Cnd} (h : CndV d c) (atoms : List At) (args : List Int) : tru d (negC c).nodes atoms ((negC c).nodes.length - 1) args = !(tru d c.nodes atoms (c.nodes.length - 1) args) := by
  have := (ng_tru (atoms := atoms) h.tree).1 rfl 0 true (negC c).nodes (Lies.self _) args
  rw [Nat.zero_add] at this
  rw [show (negC c).nodes.length - 1 = (ng c.nodes 0 (c.nodes.length - 1) true).length - 1 from rfl, this]
  simp
theorem ngL_ok {g : Nat → Int → List Cn} : ∀ (r : List Int) (b : Nat), b + (ngL g b r).1.length ≤ 2000 → (∀ k ∈ r, ∀ b', b' + (g b' k).length ≤ 2000 → ∀ n ∈ g b' k, CnOk n) → (∀ n ∈ (ngL g b r).1, CnOk n) ∧ ∀ x ∈ (ngL g b r).2, InR .i64 x
  | [], b, _, _ => ⟨by simp [ngL], by simp [ngL]⟩
  | k :: r, b, hb, h => by
    simp only [ngL, List.length_append] at hb ⊢
    obtain ⟨h1, h2⟩ := ngL_ok r (b + (g b k).length) (by omega) fun k' hk => h k' (by simp [hk])
    refine ⟨fun n hn => ?_, fun x hx => ?_⟩
    · rcases List.mem_append.1 hn with hn | hn
      · exact h k (by simp) b (by omega) n hn
      · exact h1 n hn
    · rcases List.mem_cons.1 hx with rfl | hx
      · simp only [InR]
        omega
      · exact h2 x hx
theorem dualI_rng {k : Int} (h : InR .i64 k) : InR .i64 (dualI k) := by
  unfold dualI
  simp only [InR] at *
  repeat' split
  all_goals omega
theorem ng_ok {d : Dom} {l : List Cn} (ho : ∀ n ∈ l, CnOk n) : ∀ (i a : Nat) (ps : List Int) (q : Nat) (neg : Bool), ST d l true a (i + 1) ps [] → q + (ng l q i neg).length ≤ 2000 → ∀ n ∈ ng l q i neg, CnOk n := by
  intro i
  induction i using Nat.strongRecOn with
  | ind i ih =>
    intro a ps q neg hst hq
    obtain ⟨j, n, e, haj, hn, ok, hk⟩ := hst.root
    obtain rfl : i = j := by omega
    have hkid := hk.kids rfl
    have hno := ho n (mem_get hn)
    rw [ng_eq hst hn q neg] at hq ⊢
    by_cases h4 : n.kind = 4
    · rw [if_pos h4] at hq ⊢
      obtain ⟨k, hc⟩ := arity_one ok (.inl h4)
      obtain ⟨a', _, x0, x1, _, hs⟩ := hkid k (by rw [hc]; simp)
      have e0 : ch0 n = k.toNat := by unfold ch0; rw [hc]; rfl
      rw [e0] at hq ⊢
      exact ih k.toNat (by omega) a' _ q (!neg) hs hq
    · rw [if_neg h4] at hq ⊢
      have hlen := ngL_len (fun b k => ng l b k.toNat neg) n.ch q
      simp only [List.length_append] at hq
      obtain ⟨h1, h2⟩ := ngL_ok (g := fun b k => ng l b k.toNat neg) n.ch q (by omega) fun k hm b' hb => by
        obtain ⟨a', _, x0, x1, _, hs⟩ := hkid k hm
        exact ih k.toNat (by omega) a' _ b' neg hs hb
      generalize ngL (fun b k => ng l b k.toNat neg) q n.ch = PK at *
      have hself : ∀ kk, InR .i64 kk → CnOk ⟨kk, PK.2, n.at_, n.left, n.right, n.type⟩ := fun kk hkk => ⟨by have := hno.ch; simp only; omega, h2, hno.at_, hno.l, hno.r, hno.t, hkk⟩
      have hz : ∀ kk ch, InR .i64 kk → ch.length ≤ 5 → (∀ x ∈ ch, InR .i64 x) → CnOk (zCn kk ch) := fun kk ch h1 h2 h3 => ⟨by unfold zCn; simp only; omega, h3, ⟨by simp [zCn], by simp [zCn], by simp [zCn, InR]⟩, by simp [zCn, InR], by simp [zCn, InR], by simp [zCn, InR], h1⟩
      intro m hm
      rcases List.mem_append.1 hm with hm | hm
      · exact h1 m hm
      · unfold ngN at hm
        split at hm
        · rw [List.mem_singleton.1 hm]; exact hself _ hno.k
        · split at hm
          · rw [List.mem_singleton.1 hm]; exact hz _ _ (by simp [InR]) (by simp) (by simp)
          · split at hm
            · rcases List.mem_cons.1 hm with rfl | hm
              · exact hself _ hno.k
              · rw [List.mem_singleton.1 hm]
                refine hz _ _ (by simp [InR]) (by simp) fun x hx => ?_
                rw [List.mem_singleton.1 hx]
                simp only [InR]
                omega
            · rw [List.mem_singleton.1 hm]; exact hself _ (dualI_rng hno.k)
theorem negC_ok {d : Dom} {c : Cnd} (ho : CndOk c) (h : CndV d c) : CndOk (negC c) := by
  have h0 := h.tree.le.2 rfl
  have h30 := h.len
  have ht := h.tree
  rw [show c.nodes.length = c.nodes.length - 1 + 1 from by omega] at ht
  have hgl := ng_len1 ht 0 true
  have hl : (negC c).nodes = ng c.nodes 0 (c.nodes.length - 1) true := rfl
  refine ⟨ho.types, ?_, ?_⟩
  · rw [hl]; omega
  · rw [hl]; exact ng_ok ho.nodes _ 0 _ 0 true ht (by omega)
end Hm
end
