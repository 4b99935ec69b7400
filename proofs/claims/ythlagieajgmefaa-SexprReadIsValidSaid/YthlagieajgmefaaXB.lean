/- The library's strings.Builder: its copy check and its String, as calls that change named blocks. -/
import Derived.Shelf.Strings.Builder1
import Derived.Test.YthlagieajgmefaaXA
import Derived.Shelf.Small.Strs
import Derived.Lib.IndexLaws
section
/- The library's strings.Builder: its copy check and its String, as calls that change named blocks. -/
namespace Go.Proofs
open Go.Shelf Go.RowKit
variable {P : Program} {ρ : Ren}
set_option maxHeartbeats 1000000 in
set_option maxRecDepth 100000 in
/-- String of a builder that holds bytes: the world but for the mark on its row. -/
theorem Builder_String_row (L : Lays.n169 P ρ) (X : Builder.Extra P ρ) (b g cap : Nat) (p : Value) (cur : Array Value) (l : List UInt8) (w : World) (h0 : l ≠ []) (hbk : w.heap[b]? = some (.cells #[p, .slice (some ⟨g, 0, none⟩) l.length cap] (ρ.t 72) (0, 0)))
    (hg : w.heap[g]? = some (.cells cur (ρ.t 5) (0, 0))) (hc : cap ≠ 0) (hle : l.length ≤ cur.size) (h63 : l.length ≤ 9223372036854775807) (hcell : ∀ (j : Nat) (x : UInt8), l[j]? = some x → w.cell? ⟨g, j, none⟩ = some (.int .u8 x.toNat)) :
    Calls P (ρ.f 169) #[.pointer (some ⟨b, 0, none⟩)] w fun e w' => e = .returned (.string ⟨l.toArray⟩) ∧ w' = w.drew.freeze ⟨g, 0, none⟩ l.length := by
  have c1 : w.drew.cell? ⟨b, 1, none⟩ = some (.slice (some ⟨g, 0, none⟩) l.length cap) := by
    have : w.drew.heap[b]? = some (.cells #[p, .slice (some ⟨g, 0, none⟩) l.length cap] (ρ.t 72) (0, 0)) := hbk
    rw [Lib.cell_of_heap this]; rfl
  have hSD : (Builtin.unsafeSliceData_ #[(ρ.t 37)] (ρ.t 127) #[.slice (some ⟨g, 0, none⟩) l.length cap]).run P w.drew = .ok (.pointer (some ⟨g, 0, none⟩)) w.drew :=
    Lib.run_unsafeSliceData_row _ _ _ _ _ _ hc
  have hUS : (Builtin.unsafeString_ #[(ρ.t 127), (ρ.t 3)] (ρ.t 9) #[.pointer (some ⟨g, 0, none⟩), .int .i64 l.length]).run P w.drew = .ok (.string ⟨l.toArray⟩) (w.drew.freeze ⟨g, 0, none⟩ l.length) := by
    refine Lib.run_unsafeString_row w.drew (ρ.t 127) (ρ.t 3) (ρ.t 9) (ρ.t 5) L.t127 X.cellsByte g cur.size (by have hg' : w.drew.heap[g]? = some (.cells cur (ρ.t 5) (0, 0)) := hg; simp [World.shape?, hg']) l h0 hle h63 ?_
    intro j x hx
    have := hcell j x hx
    by_cases hj : j = 0
    · subst hj
      simpa [Addr.add] using this
    · simpa [Addr.add, hj] using this
  have mixed := L.mixed
  have t72 := L.t72; have a72 := L.a72; have z72 := L.z72; have v72 := L.v72; have u72 := run_underlying L.t72
  have t70 := L.t70; have a70 := L.a70; have z70 := L.z70; have v70 := L.v70; have u70 := run_underlying L.t70
  have t37 := L.t37; have a37 := L.a37; have z37 := L.z37; have v37 := L.v37; have u37 := run_underlying L.t37
  have t127 := L.t127; have a127 := L.a127; have z127 := L.z127; have v127 := L.v127; have u127 := run_underlying L.t127
  have t3 := L.t3; have a3 := L.a3; have z3 := L.z3; have v3 := L.v3; have u3 := run_underlying L.t3
  have t9 := L.t9; have a9 := L.a9; have z9 := L.z9; have v9 := L.v9; have u9 := run_underlying L.t9
  have t5 := X.t5; have a5 := X.a5; have z5 := X.z5; have v5 := X.v5; have u5 := run_underlying X.t5
  go_enter L.f169, Body.n169_ntmps ρ
  go_wp2
  go_region_o
  all_goals (go_wp2; go_ret; exact ⟨rfl, rfl⟩)
end Go.Proofs
namespace Hm
open Go
set_option maxRecDepth 100000
set_option linter.unusedVariables false
set_option linter.unusedSimpArgs false
def u8V (c : UInt8) : V := .int .u8 c.toNat
theorem ups_id {σ : Store} {nm : Nat} {b : Blk} (h : σ nm = b) : ups σ nm b = σ := by
  funext k
  unfold ups
  cases hb : Nat.beq k nm with
  | true => have := Nat.eq_of_beq_eq_true hb; subst this; exact h.symm
  | false => rfl
theorem setCell_row (w : World) (b j : Nat) (c : Array Value) (e : TypeId) (fr : Nat × Nat) (v : Value) (hb : w.heap[b]? = some (.cells c e fr)) : w.setCell ⟨b, j, none⟩ v = w.setRow b (c.setIfInBounds j v) := by
  unfold World.setCell World.setRow
  congr 1
  apply Array.ext_getElem?
  intro k
  simp only [Array.getElem?_modify]
  by_cases hk : b = k
  · subst hk
    simp [hb]
  · simp [hk]
theorem freeze_facts (w : World) (b n : Nat) (c : Array Value) (e : TypeId) (h0 : n ≠ 0) (hb : w.heap[b]? = some (.cells c e (0, 0))) :
    (w.drew.freeze ⟨b, 0, none⟩ n).heap.size = w.heap.size ∧ (w.drew.freeze ⟨b, 0, none⟩ n).os = w.os ∧ (w.drew.freeze ⟨b, 0, none⟩ n).tape = w.tape ∧ (w.drew.freeze ⟨b, 0, none⟩ n).output = w.output ∧
      (∀ k, k ≠ b → (w.drew.freeze ⟨b, 0, none⟩ n).heap[k]? = w.heap[k]?) ∧ (w.drew.freeze ⟨b, 0, none⟩ n).heap[b]? = some (.cells c e (0, 0 + n)) := by
  unfold World.freeze
  rw [if_neg h0]
  refine ⟨(by show (w.heap.modify b _).size = _; exact Array.size_modify), rfl, rfl, rfl, fun k hk => ?_, ?_⟩
  · show (w.heap.modify b _)[k]? = _
    rw [Array.getElem?_modify, if_neg (fun e => hk e.symm)]
  · show (w.heap.modify b _)[b]? = _
    rw [Array.getElem?_modify, if_pos rfl, hb]
    rfl
theorem ct_copyCheck {G : Type} {P : Program} {H : HT G} {ρ : Shelf.Ren} (L : Go.Proofs.Lays.n240 P ρ) (X : Go.Proofs.Builder.X72 P ρ) (nm : Nat) (p buf : V) {pn : List Nat} {σ : Store} {g : G} (hty : nm / 1099511627776 = ρ.t 72 + 1)
    (hσ : σ nm = .box (.agg [p, buf])) (hp : p = .nilptr ∨ p = .bptr nm 0) (hpn : ∀ nm', nm' ∉ pn → σ nm' = .unused) :
    CT P H (ρ.f 240) [.bptr nm 0] pn σ g fun v σ' g' => v = .tup [] ∧ σ' = ups σ nm (.box (.agg [.bptr nm 0, buf])) ∧ g' = g := by
  refine ⟨by simp only [callable, L.f240]; rfl, fun J lc hst hM hH w S F θ xs hs hargs => ?_⟩
  obtain ⟨hlen, hrep⟩ := hargs
  match xs, hlen with
  | [x], _ =>
  have hx := hrep 0 _ x rfl rfl
  have hn : σ nm ≠ .unused := by rw [hσ]; intro h; cases h
  obtain ⟨b, m, hθ, rfl⟩ : ∃ b m, θ nm = some (b, m) ∧ x = .pointer (some ⟨b, 0, none⟩) := by
    cases hx with
    | pure h => cases h
    | bptr _ _ _ _ _ h => exact h _ hσ
  have hblk := hs.hblk nm
  rw [hσ] at hblk
  obtain ⟨b', c, e, hθ', hb, ⟨hsz, hte⟩, hcell⟩ := hblk
  rw [hθ] at hθ'
  injection hθ' with hθ'
  injection hθ' with e1 e2
  subst e1
  have hte' : e = ρ.t 72 := by
    rcases hte with h | h
    · exact absurd (hty.symm.trans h) (Nat.succ_ne_zero _)
    · exact Nat.succ.inj (h.symm.trans hty)
  subst hte'
  have hsz2 : c.size = 2 := hsz
  obtain ⟨y0, hy0, hr0⟩ := hcell 0 p rfl
  obtain ⟨y1, hy1, hr1⟩ := hcell 1 buf rfl
  have hc0 : w.cell? ⟨b, 0, none⟩ = some y0 := by simp [World.cell?, hb, hy0]
  rcases hp with rfl | rfl
  · -- fresh
    have hy : y0 = .pointer none := by
      cases hr0 with
      | pure h => cases h; rfl
    subst hy
    have hcall := (callsIn_wide (n := 0)).2 (Go.Proofs.Any.Builder_copyCheck_fresh L X b w hc0 (by simp [World.shape?, hb, hsz2]) (by simp [World.frozen?, hb]))
    refine hcall.mono fun en w' he' => ?_
    obtain ⟨rfl, rfl⟩ := he'
    rw [setCell_row w b 0 c (ρ.t 72) (0, 0) _ hb]
    have hl : (σ nm).live := live_box hσ
    have hcs : (c.setIfInBounds 0 (Value.pointer (some ⟨b, 0, none⟩))).size = c.size := by simp
    have hfr := Fr.write hs nm b m c (c.setIfInBounds 0 (Value.pointer (some ⟨b, 0, none⟩))) (ρ.t 72) (.box (.agg [.bptr nm 0, buf])) hl hθ hb hcs (by rw [hσ]; exact ⟨_, rfl⟩)
    have hst2 := St.write hst hs nm b m (c.setIfInBounds 0 (Value.pointer (some ⟨b, 0, none⟩))) (.box (.agg [.bptr nm 0, buf])) hl hθ hfr (by
      refine ⟨b, _, ρ.t 72, by rw [hθ]; exact congrArg (fun q => some (b, q)) e2, setRow_heap w b c _ _ _ hb, ⟨by rw [hcs]; exact hsz, hte⟩, fun j v hj => ?_⟩
      match j, hj with
      | 0, hj =>
        cases hj
        refine ⟨.pointer (some ⟨b, 0, none⟩), ?_, .bptr nm 0 _ rfl (by rw [upt_self]; intro h; cases h) fun row _ => ⟨b, m, hθ, rfl⟩⟩
        rw [Array.getElem?_setIfInBounds_self_of_lt (by omega)]
      | 1, hj =>
        cases hj
        refine ⟨y1, ?_, hr1.fr hfr hs⟩
        rw [Array.getElem?_setIfInBounds_ne (by omega)]
        exact hy1)
    exact ⟨.tup [], _, _, g, S, F, θ, rfl, ⟨rfl, rfl, rfl⟩, hst2, .pure (.tup [] [] rfl fun i v x h1 h2 => by simp at h1), hfr, fun nm' hnm => by
      have h5 : nm' ≠ nm := fun h => by rw [h] at hnm; exact hn (hpn nm hnm)
      rw [upt_ne σ _ h5]
      exact hpn nm' hnm⟩
  · have hy : y0 = .pointer (some ⟨b, 0, none⟩) := by
      cases hr0 with
      | pure h => cases h
      | bptr _ _ _ _ _ h =>
        obtain ⟨b2, m2, h1, h2⟩ := h _ hσ
        rw [hθ] at h1
        injection h1 with h1
        injection h1 with h1 _
        subst h1
        exact h2
    subst hy
    have hcall := (callsIn_wide (n := 0)).2 (Go.Proofs.Any.Builder_copyCheck_used L X b w hc0)
    refine hcall.mono fun en w' he' => ?_
    obtain ⟨rfl, rfl⟩ := he'
    exact ⟨.tup [], _, σ, g, S, F, θ, rfl, ⟨rfl, (ups_id hσ).symm, rfl⟩, hs, .pure (.tup [] [] rfl fun i v x h1 h2 => by simp at h1), Fr.refl _ _ _ _ _, hpn⟩
theorem ct_String {G : Type} {P : Program} {H : HT G} {ρ : Shelf.Ren} (L : Go.Proofs.Lays.n169 P ρ) (X : Go.Proofs.Builder.Extra P ρ) (nm vn : Nat) (p : V) (s : List UInt8) {pn : List Nat} {σ : Store} {g : G} (hne : s ≠ []) (h63 : s.length ≤ 9223372036854775807)
    (hty : nm / 1099511627776 = ρ.t 72 + 1) (htv : vn / 1099511627776 = ρ.t 5 + 1) (hwd : wd vn = 1) (hσ : σ nm = .box (.agg [p, .sl (.own vn) (s.map u8V)])) (hv : σ vn = .vec s.length) (hpn : ∀ nm', nm' ∉ pn → σ nm' = .unused) :
    CT P H (ρ.f 169) [.bptr nm 0] pn σ g fun v σ' g' => v = .str s ∧ σ' = ups (ups σ vn .dead) nm .dead ∧ g' = g := by
  refine ⟨by simp only [callable, L.f169]; rfl, fun J lc hst hM hH w S F θ xs hs hargs => ?_⟩
  obtain ⟨hlen, hrep⟩ := hargs
  match xs, hlen with
  | [x], _ =>
  have hx := hrep 0 _ x rfl rfl
  have hn : σ nm ≠ .unused := by rw [hσ]; intro h; cases h
  have hnv : nm ≠ vn := fun h => by rw [h, hv] at hσ; cases hσ
  obtain ⟨b, m, hθ, rfl⟩ : ∃ b m, θ nm = some (b, m) ∧ x = .pointer (some ⟨b, 0, none⟩) := by
    cases hx with
    | pure h => cases h
    | bptr _ _ _ _ _ h => exact h _ hσ
  have hblk := hs.hblk nm
  rw [hσ] at hblk
  obtain ⟨b', c, e, hθ', hb, ⟨hsz, hte⟩, hcell⟩ := hblk
  rw [hθ] at hθ'
  injection hθ' with hθ'
  injection hθ' with e1 e2
  subst e1
  have hte' : e = ρ.t 72 := by
    rcases hte with h | h
    · exact absurd (hty.symm.trans h) (Nat.succ_ne_zero _)
    · exact Nat.succ.inj (h.symm.trans hty)
  subst hte'
  have hsz2 : c.size = 2 := hsz
  obtain ⟨y0, hy0, hr0⟩ := hcell 0 p rfl
  obtain ⟨y1, hy1, hr1⟩ := hcell 1 _ rfl
  have hrow : c = #[y0, y1] := by
    apply Array.ext_getElem?
    intro k
    match k with
    | 0 => rw [hy0]; rfl
    | 1 => rw [hy1]; rfl
    | k + 2 => rw [Array.getElem?_eq_none (by omega), Array.getElem?_eq_none (by simp)]
  generalize hL : s.map u8V = L at hr1
  cases hr1 with
  | pure h => cases h
  | ownemp _ a hn0 => exact absurd (List.map_eq_nil_iff.1 hL) hne
  | own _ _ b2 off cap m2 ys hn2 hb2 hcap2 hw2 hc2 hr2 hf2 =>
    subst hL
    obtain ⟨hk1, hk2⟩ := hf2 _ hv
    obtain ⟨hθ2, rfl, hco⟩ := hk2 (by simp)
    have hblk2 := hs.hblk vn
    rw [hv] at hblk2
    rcases hblk2 with ⟨h1, _⟩ | ⟨b3, m3, cur, e3, hθ3, hb3, hm3, hk3, ht3⟩
    · rw [hθ2] at h1; cases h1
    rw [hθ2] at hθ3
    injection hθ3 with hθ3
    injection hθ3 with q1 q2
    subst q1 q2
    have hte3 : e3 = ρ.t 5 := by
      rcases ht3 with h | h
      · exact absurd (htv.symm.trans h) (Nat.succ_ne_zero _)
      · exact Nat.succ.inj (h.symm.trans htv)
    subst hte3
    rw [hwd] at hm3
    subst hm3
    have hsl : (s.map u8V).length = s.length := by simp
    have hpos : 0 < s.length := List.length_pos_iff.2 hne
    rw [hsl] at hy1 hcap2
    have hcell2 : ∀ (j : Nat) (x : UInt8), s[j]? = some x → w.cell? ⟨b2, j, none⟩ = some (.int .u8 x.toNat) := by
      intro j x hj
      have h1 := hc2 j 0 (u8V x) (u8V x) (by rw [List.getElem?_map, hj]; rfl) rfl
      have h2 : RepP w S (.int .u8 x.toNat) (ys j 0) := hr2 j 0 (u8V x) (u8V x) (by rw [List.getElem?_map, hj]; rfl) rfl
      generalize ys j 0 = y at h1 h2
      cases h2
      have h3 : (0 + j * 1 + 0 : Nat) = j := by omega
      rw [h3] at h1
      exact h1
    have hcall := (callsIn_wide (n := 0)).2 (Go.Proofs.Builder_String_row L X b b2 cap y0 cur s w hne (by rw [hb, hrow, hsl]) hb3 (by omega) (by omega) h63 hcell2)
    refine hcall.mono fun en w' he' => ?_
    obtain ⟨rfl, rfl⟩ := he'
    have hlv := live_vec hv
    have hlb := live_box hσ
    obtain ⟨f1, f2, f3, f4, f5, f6⟩ := freeze_facts w b2 s.length cur (ρ.t 5) (by omega) hb3
    generalize w.drew.freeze ⟨b2, 0, none⟩ s.length = w' at f1 f2 f3 f4 f5 f6 ⊢
    have hs1 := St.freeze hst hs vn hlv
    have hfr1 : Fr w S F θ σ w _ F θ (ups σ vn .dead) := Fr.freeze vn hlv
    have hlb1 : (ups σ vn .dead nm).live := by rw [upt_ne σ _ hnv]; exact hlb
    have hs2 := St.freeze hst hs1 nm hlb1
    have hfr2 := hfr1.trans hs1 (Fr.freeze nm hlb1)
    have hs2l : ∀ k, (ups (ups σ vn .dead) nm .dead k).live → k ≠ nm ∧ k ≠ vn ∧ (σ k).live := fun k hk => by
      by_cases e1 : k = nm
      · subst e1; rw [upt_self] at hk; exact hk.elim
      · rw [upt_ne _ _ e1] at hk
        by_cases e2 : k = vn
        · subst e2; rw [upt_self] at hk; exact hk.elim
        · rw [upt_ne _ _ e2] at hk; exact ⟨e1, e2, hk⟩
    have hnl : ¬ LiveB θ (ups (ups σ vn .dead) nm .dead) b2 := fun ⟨k, mk, h1, h2⟩ => by
      obtain ⟨_, h3, h4⟩ := hs2l k h1
      exact h3 (hs.hinj k vn b2 mk 1 h4 hlv h2 hθ2)
    have hLb2 : LiveB θ σ b2 := ⟨vn, 1, hlv, hθ2⟩
    have hfr : Fr w S F θ σ w' (fun q => (S q ∨ ∃ m, θ vn = some (q, m)) ∨ ∃ m, θ nm = some (q, m)) F θ (ups (ups σ vn .dead) nm .dead) := { hfr2 with
      size := by omega
      os := f2
      tape := f3
      output := f4
      same := fun k hk hl hF => f5 k fun e => hl (by rw [e]; exact hLb2)
      sized := fun k c0 e0 fr h => by
        by_cases ek : k = b2
        · subst ek
          rw [hb3] at h
          injection h with h
          injection h with h1 h2 h3
          subst h1 h2 h3
          exact ⟨cur, _, f6, rfl, .inr ⟨.inl (.inr ⟨1, hθ2⟩), hnl⟩⟩
        · exact ⟨c0, fr, by rw [f5 k ek]; exact h, rfl, .inl rfl⟩
      vecs := fun k q b0 m0 h1 h2 j hj => by
        by_cases ek : b0 = b2
        · subst ek
          simp [World.cell?, f6, hb3]
        · exact cell_of_heap (f5 b0 ek) }
    refine ⟨.str s, .string ⟨s.toArray⟩, ups (ups σ vn .dead) nm .dead, g, _, F, θ, rfl, ⟨rfl, rfl, rfl⟩, ⟨fun q hq => by rw [f1]; exact hs2.hS q hq, fun k => ?_, fun k k' b0 m0 m1 h1 h2 h3 h4 => hs.hinj k k' b0 m0 m1 (hs2l k h1).2.2 (hs2l k' h2).2.2 h3 h4, hs2.hliveS, fun q hq => by rw [f1]; exact hs2.hF q hq, ?_⟩, .pure (.str s), hfr, fun k hk => ?_⟩
    · by_cases e1 : k = nm
      · subst e1; rw [upt_self]; trivial
      · by_cases e2 : k = vn
        · subst e2; rw [upt_ne _ _ e1, upt_self]; trivial
        · exact BlkOk.later hs hfr k (by rw [upt_ne _ _ e1, upt_ne _ _ e2]) rfl fun b0 m0 h1 h2 => f5 b0 fun e => e2 (hs.hinj k vn b0 m0 1 h1 hlv h2 (by rw [e]; exact hθ2))
    · exact hst g w S F w' _ hs.hJ hs.hS (fun q hq => (hs.hF q hq).1) (fun q hq => f5 q fun e => by
        subst e
        rcases hq with hq | hq
        · exact hs.hliveS q hLb2 hq
        · exact (hs.hF q hq).2.2 hLb2) hfr.smono hfr.size f2 f3 f4 (fun q hq => ⟨by rw [f1]; exact hs2.hS q hq, fun hf => (hs2.hF q hf).2.1 hq⟩) hfr.sizedS
    · have h5 : k ≠ nm := fun h => by rw [h] at hk; exact hn (hpn nm hk)
      have h6 : k ≠ vn := fun h => by rw [h] at hk; have := hpn vn hk; rw [this] at hv; cases hv
      rw [upt_ne _ _ h5, upt_ne _ _ h6]
      exact hpn k hk
end Hm
end

section
/- Contracts: bytes of symbols, symbols, shapes of nodes. -/
namespace Go.Proofs
open Go.Shelf
def Try.ix_ren : Go.Shelf.Ren := ⟨fun | 137 => 34 | 217 => 36 | 266 => 37 | _ => 0, fun | 3 => 3 | 5 => 5 | 9 => 9 | _ => 0, fun x => x⟩
theorem Try.ix_lays : Lays.n137 Try.prog Try.ix_ren :=
  { mixed := by kernel_rfl,
    f137 := Try.func34.trans (congrArg some (by kernel_rfl)),
    f217 := Try.func36.trans (congrArg some (by kernel_rfl)),
    f266 := Try.func37.trans (congrArg some (by kernel_rfl)),
    t3 := Try.underlying3, a3 := Try.isAgg3, z3 := Try.sizeOf3, v3 := Try.zeroValue3,
    t5 := Try.underlying5, a5 := Try.isAgg5, z5 := Try.sizeOf5, v5 := Try.zeroValue5,
    t9 := Try.underlying9, a9 := Try.isAgg9, z9 := Try.sizeOf9, v9 := Try.zeroValue9 }
end Go.Proofs
namespace Hm
open Go
set_option maxRecDepth 100000
set_option maxHeartbeats 4000000
set_option linter.unusedSimpArgs false
set_option linter.unusedVariables false
theorem u8leX (c : UInt8) : c.toNat ≤ 255 := by have := c.toNat_lt; omega
theorem ix_mem (s : List UInt8) (c : UInt8) : decide (Lib.indexByte s c ≥ 0) = decide (c ∈ s) := by
  have h1 := Lib.indexByte_ge s c
  rw [decide_eq_decide]
  constructor
  · intro h
    have := (Lib.indexByte_some (o := (Lib.indexByte s c).toNat) (l := s) (c := c) (by omega)).1
    exact List.mem_of_getElem? this
  · intro h
    obtain ⟨k, hk⟩ := List.getElem?_of_mem h
    by_cases e : Lib.indexByte s c = -1
    · exact absurd hk (Lib.indexByte_none e k)
    · omega
theorem f_strings_IndexByte (s : List UInt8) (c : UInt8) : Fc Go.Proofs.Try.prog 34 [.str s, .int .u8 c.toNat] (.int .i64 (Lib.indexByte s c)) := ⟨⟨by kernel_rfl, fun w S xs hS hxs => by
  obtain ⟨hl, hr⟩ := hxs
  match xs, hl with
  | [x, y], _ =>
    have h0 := hr 0 _ x rfl rfl
    have h1 := hr 1 _ y rfl rfl
    cases h0
    cases h1
    refine ((callsIn_wide (n := 0)).2 (Go.Proofs.Any.strings_IndexByte Go.Proofs.Try.ix_lays ⟨s.toArray⟩ (c.toNat : Int) w)).mono fun e w' he => ?_
    obtain ⟨rfl, rfl⟩ := he
    refine ⟨_, S, rfl, ?_, fun b h => .inl h, hS, ⟨Nat.le_refl _, rfl, rfl, rfl, fun _ _ => rfl⟩⟩
    have e1 : ((c.toNat : Int).toNat.toUInt8) = c := by simp
    rw [e1]
    exact .int _ _⟩⟩
def c_sexpr_isSymbolByte : Cmd :=
  (.seq
   (.ops [
   .op (some 2) none (.mov (.c (.bool false)))])
   (.cut
   (.seq
   (.ops [
   .op (some 3) none (.mov (.t 0)),
   .op (some 4) none (.bin .geq false [] (.t 3) (.c (.int .u8 (97)))),
   .op (some 5) none (.mov (.t 4)),
   .op (some 6) (some (5, true)) (.mov (.t 0)),
   .op (some 7) (some (5, true)) (.bin .leq false [] (.t 6) (.c (.int .u8 (122)))),
   .op (some 8) none (.pick (.t 5) (.t 7) (.c (.bool false))),
   .op (some 9) none (.mov (.t 8)),
   .op (some 10) (some (9, false)) (.mov (.t 0)),
   .op (some 11) (some (9, false)) (.bin .geq false [] (.t 10) (.c (.int .u8 (65)))),
   .op (some 12) (some (9, false)) (.mov (.t 11)),
   .op (some 13) (some (12, true)) (.mov (.t 0)),
   .op (some 14) (some (12, true)) (.bin .leq false [] (.t 13) (.c (.int .u8 (90)))),
   .op (some 15) (some (9, false)) (.pick (.t 12) (.t 14) (.c (.bool false))),
   .op (some 16) none (.pick (.t 9) (.c (.bool true)) (.t 15)),
   .op (some 17) none (.mov (.t 16)),
   .op (some 18) (some (17, false)) (.mov (.t 0)),
   .op (some 19) (some (17, false)) (.bin .geq false [] (.t 18) (.c (.int .u8 (48)))),
   .op (some 20) (some (17, false)) (.mov (.t 19)),
   .op (some 21) (some (20, true)) (.mov (.t 0)),
   .op (some 22) (some (20, true)) (.bin .leq false [] (.t 21) (.c (.int .u8 (57)))),
   .op (some 23) (some (17, false)) (.pick (.t 20) (.t 22) (.c (.bool false))),
   .op (some 24) none (.pick (.t 17) (.c (.bool true)) (.t 23)),
   .op (some 25) none (.mov (.t 24)),
   .op (some 26) (some (25, false)) (.mov (.t 0)),
   .op (some 27) (some (25, false)) (.call .f (.c (.fn 34 [])) [.c (.str [45, 95, 63, 58, 61, 60, 62, 43, 42, 47, 46]), .t 26]),
   .op (some 28) (some (25, false)) (.bin .geq false [] (.t 27) (.c (.int .i64 (0)))),
   .op (some 29) none (.pick (.t 25) (.c (.bool true)) (.t 28)),
   .op (some 2) none (.mov (.t 29))])
   .ret)))
def r_sexpr_isSymbolByte : List RVar := [.tmp 2]
def n_sexpr_isSymbolByte : Nat := 30
theorem k_sexpr_isSymbolByte : chkFn Go.Proofs.Try.prog 32 n_sexpr_isSymbolByte r_sexpr_isSymbolByte c_sexpr_isSymbolByte = true := by kernel_rfl
theorem f_sexpr_isSymbolByte (c : UInt8) : Fc Go.Proofs.Try.prog 32 [.int .u8 c.toNat] (.bool (symB c)) := by
  have hI := f_strings_IndexByte others c
  have hm := ix_mem others c
  generalize Lib.indexByte others c = ix at *
  have he : symB c = ((decide (97 ≤ c.toNat) && decide (c.toNat ≤ 122)) || (decide (65 ≤ c.toNat) && decide (c.toNat ≤ 90)) || (decide (48 ≤ c.toNat) && decide (c.toNat ≤ 57)) || decide (ix ≥ 0)) := by rw [hm]; rfl
  rw [he]
  clear hm he
  generalize c.toNat = n at *
  refine Fn.step mixed k_sexpr_isSymbolByte ?_
  repeat' (first | refine i_len rfl ?_ | refine i_s rfl ?_ | refine i_lenm rfl rfl rfl ?_ | refine c_seq ?_ | refine c_cut0 ?_ | refine c_ops ?_ | refine i_nil ?_ | refine e_seq ?_ | refine e_block ?_ | refine c_block ?_ | refine c_skip ?_ | refine c_ret ?_ | refine c_exit ?_ | refine e_exit rfl ?_ | refine i_s0 rfl ?_ | refine c_leaf ?_ | refine i_gt rfl ?_ | refine i_gf rfl ?_ | refine i_gd rfl ?_ | refine c_t rfl ?_ | refine c_f rfl ?_ | refine i_conv rfl (by simp only [InR, List.length_map]; omega) ?_ | refine i_add rfl rfl (by simp only [InR, List.length_map]; omega) ?_ | refine i_sub rfl rfl (by simp only [InR, List.length_map]; omega) ?_ | refine i_ixm rfl rfl (by assumption) ?_ | refine i_iai rfl rfl (by omega) (by assumption) rfl ?_ | refine i_iam rfl rfl (by assumption) rfl ?_ | refine i_tk rfl rfl (by omega) ?_ | refine i_stb rfl ?_ | refine i_alloc rfl ?_ | refine i_box rfl rfl ?_ | refine i_nv rfl ?_ | refine c_node ?_ ?_ | refine i_g rfl (fun h => ?_) (fun h => ?_) | refine c_cond rfl (fun h => ?_) (fun h => ?_) | refine i_f rfl rfl (hI) rfl ?_)
  all_goals first
    | (refine e_ret ⟨rfl, _, rfl, congrArg V.bool ?_⟩; first | rfl | (clear hI; simp at *; omega) | (clear hI; simp at *; grind))
    | (exfalso; clear hI; simp at *; omega)
def c_sexpr_IsSymbol : Cmd :=
  (.seq
   (.ops [
   .op (some 2) none (.mov (.c (.bool false)))])
   (.cut
   (.seq
   (.seq
   (.ops [
   .op (some 4) none (.mov (.t 0)),
   .op (some 5) none (.len true (.t 4)),
   .op (some 6) none (.mov (.c (.int .i64 (0))))])
   (.cut
   (.block 0
   (.loop
   (.seq
   (.ops [
   .op (some 7) none (.bin .lss false [] (.t 6) (.t 5))])
   (.cut
   (.seq
   (.cond (.t 7)
   .skip
   (.exit 0))
   (.cut
   (.seq
   (.block 1
   (.seq
   (.ops [
   .op (some 8) none (.mov (.t 6)),
   .op (some 3) none (.mov (.t 8))])
   (.cut
   (.seq
   (.ops [
   .op (some 9) none (.mov (.t 0)),
   .op (some 10) none (.mov (.t 3)),
   .op (some 11) none (.index (.t 9) (.t 10)),
   .op (some 12) none (.call .f (.c (.fn 32 [])) [.t 11]),
   .op (some 13) none (.not (.t 12))])
   (.cut
   (.cond (.t 13)
   (.seq
   (.ops [
   .op (some 2) none (.mov (.c (.bool false)))])
   .ret)
   .skip))))))
   (.cut
   (.ops [
   .op (some 14) none (.bin .add false [] (.t 6) (.c (.int .i64 (1)))),
   .op (some 6) none (.mov (.t 14))])))))))))))
   (.cut
   (.seq
   (.ops [
   .op (some 15) none (.mov (.t 0)),
   .op (some 16) none (.len true (.t 15)),
   .op (some 17) none (.bin .geq false [] (.t 16) (.c (.int .i64 (1)))),
   .op (some 18) none (.mov (.t 17)),
   .op (some 19) (some (18, true)) (.mov (.t 0)),
   .op (some 20) (some (18, true)) (.len true (.t 19)),
   .op (some 21) (some (18, true)) (.bin .leq false [] (.t 20) (.c (.int .i64 (12)))),
   .op (some 22) none (.pick (.t 18) (.t 21) (.c (.bool false))),
   .op (some 2) none (.mov (.t 22))])
   .ret)))))
def r_sexpr_IsSymbol : List RVar := [.tmp 2]
def n_sexpr_IsSymbol : Nat := 23
theorem k_sexpr_IsSymbol : chkFn Go.Proofs.Try.prog 31 n_sexpr_IsSymbol r_sexpr_IsSymbol c_sexpr_IsSymbol = true := by kernel_rfl
theorem symbolB_all {s : List UInt8} (h : ∀ j, j < s.length → ∀ c, s[j]? = some c → symB c = true) : symbolB s = (decide (1 ≤ s.length) && decide (s.length ≤ 12)) := by
  have : s.all symB = true := by
    rw [List.all_eq_true]
    intro x hx
    obtain ⟨i, hi, e⟩ := List.getElem_of_mem hx
    exact h i hi x (by rw [← e]; exact List.getElem?_eq_getElem hi)
  unfold symbolB
  rw [this, Bool.true_and]
theorem symbolB_bad {s : List UInt8} {c : UInt8} (hc : c ∈ s) (h : symB c = false) : symbolB s = false := by
  have : s.all symB = false := by
    rw [List.all_eq_false]
    exact ⟨c, hc, by simp [h]⟩
  unfold symbolB
  rw [this, Bool.false_and]
theorem f_sexpr_IsSymbol (s : List UInt8) (hl : s.length ≤ 140737488355328) : Fc Go.Proofs.Try.prog 31 [.str s] (.bool (symbolB s)) := by
  refine Fn.step mixed k_sexpr_IsSymbol ?_
  repeat (first | refine i_len rfl ?_ | refine i_s rfl ?_ | refine i_lenm rfl rfl rfl ?_ | refine c_seq ?_ | refine c_cut0 ?_ | refine c_ops ?_ | refine i_nil ?_ | refine e_seq ?_ | refine e_block ?_ | refine c_block ?_ | refine c_skip ?_ | refine c_ret ?_ | refine c_exit ?_ | refine e_exit rfl ?_ | refine i_s0 rfl ?_ | refine c_leaf ?_ | refine i_gt rfl ?_ | refine i_gf rfl ?_ | refine i_gd rfl ?_ | refine c_t rfl ?_ | refine c_f rfl ?_ | refine i_conv rfl (by simp only [InR, List.length_map]; omega) ?_ | refine i_add rfl rfl (by simp only [InR, List.length_map]; omega) ?_ | refine i_sub rfl rfl (by simp only [InR, List.length_map]; omega) ?_ | refine i_ixm rfl rfl (by assumption) ?_ | refine i_iai rfl rfl (by omega) (by assumption) rfl ?_ | refine i_iam rfl rfl (by assumption) rfl ?_ | refine i_tk rfl rfl (by omega) ?_ | refine i_stb rfl ?_ | refine i_alloc rfl ?_ | refine i_box rfl rfl ?_ | refine i_nv rfl ?_)
  refine c_for s.length (fun k => [(0, .str s), (5, .int .i64 s.length), (6, .int .i64 k)]) (fun _ => []) (fun k => ∀ j, j < k → ∀ c, s[j]? = some c → symB c = true) all_zero ⟨by repeat (first | exact trivial | refine ⟨rfl, ?_⟩), by repeat (first | exact trivial | refine ⟨rfl, ?_⟩), rfl⟩ fun k hk hi => ?_
  repeat (first | refine i_len rfl ?_ | refine i_s rfl ?_ | refine i_lenm rfl rfl rfl ?_ | refine c_seq ?_ | refine c_cut0 ?_ | refine c_ops ?_ | refine i_nil ?_ | refine e_seq ?_ | refine e_block ?_ | refine c_block ?_ | refine c_skip ?_ | refine c_ret ?_ | refine c_exit ?_ | refine e_exit rfl ?_ | refine i_s0 rfl ?_ | refine c_leaf ?_ | refine i_gt rfl ?_ | refine i_gf rfl ?_ | refine i_gd rfl ?_ | refine c_t rfl ?_ | refine c_f rfl ?_ | refine i_conv rfl (by simp only [InR, List.length_map]; omega) ?_ | refine i_add rfl rfl (by simp only [InR, List.length_map]; omega) ?_ | refine i_sub rfl rfl (by simp only [InR, List.length_map]; omega) ?_ | refine i_ixm rfl rfl (by assumption) ?_ | refine i_iai rfl rfl (by omega) (by assumption) rfl ?_ | refine i_iam rfl rfl (by assumption) rfl ?_ | refine i_tk rfl rfl (by omega) ?_ | refine i_stb rfl ?_ | refine i_alloc rfl ?_ | refine i_box rfl rfl ?_ | refine i_nv rfl ?_)
  refine c_cond rfl (fun h => ?_) (fun h => ?_)
  · have hlt : k < s.length := by simpa using h
    obtain ⟨c, hc⟩ := get_some hlt
    have hF := f_sexpr_isSymbolByte c
    cases hs : symB c with
    | true =>
      rw [hs] at hF
      have next := all_succ hi fun c' hc' => by
        rw [hc] at hc'; injection hc' with hc'; rw [← hc']; exact hs
      clear hi h
      repeat' (first | refine i_len rfl ?_ | refine i_s rfl ?_ | refine i_lenm rfl rfl rfl ?_ | refine c_seq ?_ | refine c_cut0 ?_ | refine c_ops ?_ | refine i_nil ?_ | refine e_seq ?_ | refine e_block ?_ | refine c_block ?_ | refine c_skip ?_ | refine c_ret ?_ | refine c_exit ?_ | refine e_exit rfl ?_ | refine i_s0 rfl ?_ | refine c_leaf ?_ | refine i_gt rfl ?_ | refine i_gf rfl ?_ | refine i_gd rfl ?_ | refine c_t rfl ?_ | refine c_f rfl ?_ | refine i_conv rfl (by simp only [InR, List.length_map]; omega) ?_ | refine i_add rfl rfl (by simp only [InR, List.length_map]; omega) ?_ | refine i_sub rfl rfl (by simp only [InR, List.length_map]; omega) ?_ | refine i_ixm rfl rfl (by assumption) ?_ | refine i_iai rfl rfl (by omega) (by assumption) rfl ?_ | refine i_iam rfl rfl (by assumption) rfl ?_ | refine i_tk rfl rfl (by omega) ?_ | refine i_stb rfl ?_ | refine i_alloc rfl ?_ | refine i_box rfl rfl ?_ | refine i_nv rfl ?_ | refine c_node ?_ ?_ | refine i_g rfl (fun h => ?_) (fun h => ?_) | refine c_cond rfl (fun h => ?_) (fun h => ?_) | refine i_f rfl rfl (hF) rfl ?_)
      exact e_for hlt next ⟨by repeat (first | exact trivial | refine ⟨rfl, ?_⟩), by repeat (first | exact trivial | refine ⟨rfl, ?_⟩), rfl⟩
    | false =>
      rw [hs] at hF
      have hb := symbolB_bad (mem_get hc) hs
      clear hi h
      repeat' (first | refine i_len rfl ?_ | refine i_s rfl ?_ | refine i_lenm rfl rfl rfl ?_ | refine c_seq ?_ | refine c_cut0 ?_ | refine c_ops ?_ | refine i_nil ?_ | refine e_seq ?_ | refine e_block ?_ | refine c_block ?_ | refine c_skip ?_ | refine c_ret ?_ | refine c_exit ?_ | refine e_exit rfl ?_ | refine i_s0 rfl ?_ | refine c_leaf ?_ | refine i_gt rfl ?_ | refine i_gf rfl ?_ | refine i_gd rfl ?_ | refine c_t rfl ?_ | refine c_f rfl ?_ | refine i_conv rfl (by simp only [InR, List.length_map]; omega) ?_ | refine i_add rfl rfl (by simp only [InR, List.length_map]; omega) ?_ | refine i_sub rfl rfl (by simp only [InR, List.length_map]; omega) ?_ | refine i_ixm rfl rfl (by assumption) ?_ | refine i_iai rfl rfl (by omega) (by assumption) rfl ?_ | refine i_iam rfl rfl (by assumption) rfl ?_ | refine i_tk rfl rfl (by omega) ?_ | refine i_stb rfl ?_ | refine i_alloc rfl ?_ | refine i_box rfl rfl ?_ | refine i_nv rfl ?_ | refine c_node ?_ ?_ | refine i_g rfl (fun h => ?_) (fun h => ?_) | refine c_cond rfl (fun h => ?_) (fun h => ?_) | refine i_f rfl rfl (hF) rfl ?_)
      exact e_ret ⟨rfl, _, rfl, congrArg V.bool hb⟩
  · have hge : k = s.length := by have : ¬ k < s.length := by simpa using h
                                  omega
    subst hge
    rw [symbolB_all hi]
    clear hi h
    repeat' (first | refine i_len rfl ?_ | refine i_s rfl ?_ | refine i_lenm rfl rfl rfl ?_ | refine c_seq ?_ | refine c_cut0 ?_ | refine c_ops ?_ | refine i_nil ?_ | refine e_seq ?_ | refine e_block ?_ | refine c_block ?_ | refine c_skip ?_ | refine c_ret ?_ | refine c_exit ?_ | refine e_exit rfl ?_ | refine i_s0 rfl ?_ | refine c_leaf ?_ | refine i_gt rfl ?_ | refine i_gf rfl ?_ | refine i_gd rfl ?_ | refine c_t rfl ?_ | refine c_f rfl ?_ | refine i_conv rfl (by simp only [InR, List.length_map]; omega) ?_ | refine i_add rfl rfl (by simp only [InR, List.length_map]; omega) ?_ | refine i_sub rfl rfl (by simp only [InR, List.length_map]; omega) ?_ | refine i_ixm rfl rfl (by assumption) ?_ | refine i_iai rfl rfl (by omega) (by assumption) rfl ?_ | refine i_iam rfl rfl (by assumption) rfl ?_ | refine i_tk rfl rfl (by omega) ?_ | refine i_stb rfl ?_ | refine i_alloc rfl ?_ | refine i_box rfl rfl ?_ | refine i_nv rfl ?_ | refine c_node ?_ ?_ | refine i_g rfl (fun h => ?_) (fun h => ?_) | refine c_cond rfl (fun h => ?_) (fun h => ?_))
    all_goals refine e_ret ⟨rfl, _, rfl, congrArg V.bool ?_⟩
    all_goals first
      | (have h9 := of_decide_eq_true h; rw [decide_eq_true (show 1 ≤ s.length by omega), Bool.true_and]; exact decide_eq_decide.2 (by omega))
      | (have h9 := of_decide_eq_false h; rw [decide_eq_false (show ¬ 1 ≤ s.length by omega)]; rfl)
def c_R1_SymbolByte : Cmd :=
  (.seq
   (.ops [
   .op (some 2) none (.mov (.c (.bool false)))])
   (.cut
   (.seq
   (.ops [
   .op (some 6) none (.mov (.t 0)),
   .op (some 7) none (.conv .i64 (.t 6)),
   .op (some 3) none (.mov (.t 7))])
   (.cut
   (.seq
   (.seq
   (.ops [
   .op (some 8) none (.mov (.t 3)),
   .op (some 9) none (.call .f (.c (.fn 18 [])) [.t 8, .c (.int .i64 (97)), .c (.int .i64 (122))]),
   .op (some 10) none (.mov (.t 9)),
   .op (some 11) (some (10, false)) (.mov (.t 3)),
   .op (some 12) (some (10, false)) (.call .f (.c (.fn 18 [])) [.t 11, .c (.int .i64 (65)), .c (.int .i64 (90))]),
   .op (some 13) none (.pick (.t 10) (.c (.bool true)) (.t 12)),
   .op (some 14) none (.mov (.t 13)),
   .op (some 15) (some (14, false)) (.mov (.t 3)),
   .op (some 16) (some (14, false)) (.call .f (.c (.fn 18 [])) [.t 15, .c (.int .i64 (48)), .c (.int .i64 (57))]),
   .op (some 17) none (.pick (.t 14) (.c (.bool true)) (.t 16))])
   (.cut
   (.cond (.t 17)
   (.seq
   (.ops [
   .op (some 2) none (.mov (.c (.bool true)))])
   .ret)
   .skip)))
   (.cut
   (.seq
   (.ops [
   .op (some 4) none (.mov (.c (.str [45, 95, 63, 58, 61, 60, 62, 43, 42, 47, 46])))])
   (.cut
   (.seq
   (.seq
   (.ops [
   .op (some 5) none (.mov (.c (.int .i64 (0))))])
   (.cut
   (.block 0
   (.loop
   (.seq
   (.seq
   (.ops [
   .op (some 18) none (.mov (.t 5)),
   .op (some 19) none (.mov (.t 4)),
   .op (some 20) none (.len true (.t 19)),
   .op (some 21) none (.bin .lss false [] (.t 18) (.t 20))])
   (.cut
   (.cond (.t 21)
   .skip
   (.exit 0))))
   (.cut
   (.seq
   (.block 1
   (.seq
   (.ops [
   .op (some 24) none (.mov (.t 4)),
   .op (some 25) none (.mov (.t 5)),
   .op (some 26) none (.index (.t 24) (.t 25)),
   .op (some 27) none (.mov (.t 0)),
   .op (some 28) none (.bin .eql false [.i] (.t 26) (.t 27))])
   (.cut
   (.cond (.t 28)
   (.seq
   (.ops [
   .op (some 2) none (.mov (.c (.bool true)))])
   .ret)
   .skip))))
   (.cut
   (.ops [
   .op (some 22) none (.mov (.t 5)),
   .op (some 23) none (.bin .add false [] (.t 22) (.c (.int .i64 (1)))),
   .op (some 5) none (.mov (.t 23))])))))))))
   (.cut
   (.seq
   (.ops [
   .op (some 2) none (.mov (.c (.bool false)))])
   .ret)))))))))))
def r_R1_SymbolByte : List RVar := [.tmp 2]
def n_R1_SymbolByte : Nat := 29
theorem k_R1_SymbolByte : chkFn Go.Proofs.Try.prog 29 n_R1_SymbolByte r_R1_SymbolByte c_R1_SymbolByte = true := by kernel_rfl
theorem and_dec (n lo hi : Nat) : (decide (lo ≤ n) && decide (n ≤ hi)) = (decide ((lo : Int) ≤ (n : Int)) && decide ((n : Int) ≤ (hi : Int))) := by
  congr 1 <;> exact decide_eq_decide.2 (by omega)
theorem others_get (k : Nat) (h : k < 11) : ∃ c, others[k]? = some c := get_some h
theorem f_R1_SymbolByte (c : UInt8) : Fc Go.Proofs.Try.prog 29 [.int .u8 c.toNat] (.bool (symB c)) := by
  have h1 := f_R1_In c.toNat 97 122
  have h2 := f_R1_In c.toNat 65 90
  have h3 := f_R1_In c.toNat 48 57
  have hu := u8leX c
  have hs : symB c = ((decide ((97 : Int) ≤ c.toNat) && decide ((c.toNat : Int) ≤ 122)) || (decide ((65 : Int) ≤ c.toNat) && decide ((c.toNat : Int) ≤ 90)) || (decide ((48 : Int) ≤ c.toNat) && decide ((c.toNat : Int) ≤ 57)) || decide (c ∈ others)) := by
    unfold symB
    rw [and_dec _ 97 122, and_dec _ 65 90, and_dec _ 48 57]
    rfl
  rw [hs]
  generalize (decide ((97 : Int) ≤ c.toNat) && decide ((c.toNat : Int) ≤ 122)) = b1 at *
  generalize (decide ((65 : Int) ≤ c.toNat) && decide ((c.toNat : Int) ≤ 90)) = b2 at *
  generalize (decide ((48 : Int) ≤ c.toNat) && decide ((c.toNat : Int) ≤ 57)) = b3 at *
  clear hs
  cases hb : (b1 || b2 || b3) with
  | true =>
    rw [Bool.true_or]
    refine Fn.step mixed k_R1_SymbolByte ?_
    repeat' (first | refine i_len rfl ?_ | refine i_s rfl ?_ | refine i_lenm rfl rfl rfl ?_ | refine c_seq ?_ | refine c_cut0 ?_ | refine c_ops ?_ | refine i_nil ?_ | refine e_seq ?_ | refine e_block ?_ | refine c_block ?_ | refine c_skip ?_ | refine c_ret ?_ | refine c_exit ?_ | refine e_exit rfl ?_ | refine i_s0 rfl ?_ | refine c_leaf ?_ | refine i_gt rfl ?_ | refine i_gf rfl ?_ | refine i_gd rfl ?_ | refine c_t rfl ?_ | refine c_f rfl ?_ | refine i_conv rfl (by simp only [InR, List.length_map]; omega) ?_ | refine i_add rfl rfl (by simp only [InR, List.length_map]; omega) ?_ | refine i_sub rfl rfl (by simp only [InR, List.length_map]; omega) ?_ | refine i_ixm rfl rfl (by assumption) ?_ | refine i_iai rfl rfl (by omega) (by assumption) rfl ?_ | refine i_iam rfl rfl (by assumption) rfl ?_ | refine i_tk rfl rfl (by omega) ?_ | refine i_stb rfl ?_ | refine i_alloc rfl ?_ | refine i_box rfl rfl ?_ | refine i_nv rfl ?_ | refine c_node ?_ ?_ | refine i_g rfl (fun h => ?_) (fun h => ?_) | refine c_cond rfl (fun h => ?_) (fun h => ?_) | refine i_f rfl rfl (h1) rfl ?_ | refine i_f rfl rfl (h2) rfl ?_ | refine i_f rfl rfl (h3) rfl ?_)
    all_goals first
      | exact e_ret ⟨rfl, _, rfl, rfl⟩
      | (exfalso; clear h1 h2 h3; simp_all; done)
  | false =>
    simp only [Bool.or_eq_false_iff] at hb
    obtain ⟨⟨rfl, rfl⟩, rfl⟩ := hb
    rw [Bool.false_or]
    refine Fn.step mixed k_R1_SymbolByte ?_
    repeat' (first | refine i_len rfl ?_ | refine i_s rfl ?_ | refine i_lenm rfl rfl rfl ?_ | refine c_seq ?_ | refine c_cut0 ?_ | refine c_ops ?_ | refine i_nil ?_ | refine e_seq ?_ | refine e_block ?_ | refine c_block ?_ | refine c_skip ?_ | refine c_ret ?_ | refine c_exit ?_ | refine e_exit rfl ?_ | refine i_s0 rfl ?_ | refine c_leaf ?_ | refine i_gt rfl ?_ | refine i_gf rfl ?_ | refine i_gd rfl ?_ | refine c_t rfl ?_ | refine c_f rfl ?_ | refine i_conv rfl (by simp only [InR, List.length_map]; omega) ?_ | refine i_add rfl rfl (by simp only [InR, List.length_map]; omega) ?_ | refine i_sub rfl rfl (by simp only [InR, List.length_map]; omega) ?_ | refine i_ixm rfl rfl (by assumption) ?_ | refine i_iai rfl rfl (by omega) (by assumption) rfl ?_ | refine i_iam rfl rfl (by assumption) rfl ?_ | refine i_tk rfl rfl (by omega) ?_ | refine i_stb rfl ?_ | refine i_alloc rfl ?_ | refine i_box rfl rfl ?_ | refine i_nv rfl ?_ | refine c_node ?_ ?_ | refine i_g rfl (fun h => ?_) (fun h => ?_) | refine c_cond rfl (fun h => ?_) (fun h => ?_) | refine i_f rfl rfl (h1) rfl ?_ | refine i_f rfl rfl (h2) rfl ?_ | refine i_f rfl rfl (h3) rfl ?_)
    refine c_for 11 (fun k => [(0, .int .u8 c.toNat), (4, .str others), (5, .int .i64 k)]) (fun _ => []) (fun k => ∀ j, j < k → ∀ d, others[j]? = some d → d ≠ c) all_zero ⟨by repeat (first | exact trivial | refine ⟨rfl, ?_⟩), by repeat (first | exact trivial | refine ⟨rfl, ?_⟩), rfl⟩ fun k hk hi => ?_
    clear h1 h2 h3
    repeat (first | refine i_len rfl ?_ | refine i_s rfl ?_ | refine i_lenm rfl rfl rfl ?_ | refine c_seq ?_ | refine c_cut0 ?_ | refine c_ops ?_ | refine i_nil ?_ | refine e_seq ?_ | refine e_block ?_ | refine c_block ?_ | refine c_skip ?_ | refine c_ret ?_ | refine c_exit ?_ | refine e_exit rfl ?_ | refine i_s0 rfl ?_ | refine c_leaf ?_ | refine i_gt rfl ?_ | refine i_gf rfl ?_ | refine i_gd rfl ?_ | refine c_t rfl ?_ | refine c_f rfl ?_ | refine i_conv rfl (by simp only [InR, List.length_map]; omega) ?_ | refine i_add rfl rfl (by simp only [InR, List.length_map]; omega) ?_ | refine i_sub rfl rfl (by simp only [InR, List.length_map]; omega) ?_ | refine i_ixm rfl rfl (by assumption) ?_ | refine i_iai rfl rfl (by omega) (by assumption) rfl ?_ | refine i_iam rfl rfl (by assumption) rfl ?_ | refine i_tk rfl rfl (by omega) ?_ | refine i_stb rfl ?_ | refine i_alloc rfl ?_ | refine i_box rfl rfl ?_ | refine i_nv rfl ?_)
    refine c_cond rfl (fun h => ?_) (fun h => ?_)
    · have hlt : k < 11 := by have : (k : Int) < 11 := by simpa [others] using h
                              omega
      obtain ⟨d, hd⟩ := others_get k hlt
      clear h
      repeat' (first | refine i_len rfl ?_ | refine i_s rfl ?_ | refine i_lenm rfl rfl rfl ?_ | refine c_seq ?_ | refine c_cut0 ?_ | refine c_ops ?_ | refine i_nil ?_ | refine e_seq ?_ | refine e_block ?_ | refine c_block ?_ | refine c_skip ?_ | refine c_ret ?_ | refine c_exit ?_ | refine e_exit rfl ?_ | refine i_s0 rfl ?_ | refine c_leaf ?_ | refine i_gt rfl ?_ | refine i_gf rfl ?_ | refine i_gd rfl ?_ | refine c_t rfl ?_ | refine c_f rfl ?_ | refine i_conv rfl (by simp only [InR, List.length_map]; omega) ?_ | refine i_add rfl rfl (by simp only [InR, List.length_map]; omega) ?_ | refine i_sub rfl rfl (by simp only [InR, List.length_map]; omega) ?_ | refine i_ixm rfl rfl (by assumption) ?_ | refine i_iai rfl rfl (by omega) (by assumption) rfl ?_ | refine i_iam rfl rfl (by assumption) rfl ?_ | refine i_tk rfl rfl (by omega) ?_ | refine i_stb rfl ?_ | refine i_alloc rfl ?_ | refine i_box rfl rfl ?_ | refine i_nv rfl ?_ | refine c_node ?_ ?_ | refine i_g rfl (fun h => ?_) (fun h => ?_) | refine c_cond rfl (fun h => ?_) (fun h => ?_))
      · refine e_ret ⟨rfl, _, rfl, congrArg V.bool ?_⟩
        have e0 : (d.toNat : Int) = c.toNat := by simpa using h
        have e : d = c := UInt8.toNat_inj.1 (by omega)
        subst e
        exact decide_eq_true (mem_get hd)
      · refine e_for hlt (all_succ hi fun d' hd' e => ?_) ⟨by repeat (first | exact trivial | refine ⟨rfl, ?_⟩), by repeat (first | exact trivial | refine ⟨rfl, ?_⟩), rfl⟩
        rw [hd] at hd'
        injection hd' with hd'
        subst hd' e
        simp at h
    · have hge : k = 11 := by have : ¬ (k : Int) < 11 := by simpa [others] using h
                              omega
      subst hge
      clear h
      repeat' (first | refine i_len rfl ?_ | refine i_s rfl ?_ | refine i_lenm rfl rfl rfl ?_ | refine c_seq ?_ | refine c_cut0 ?_ | refine c_ops ?_ | refine i_nil ?_ | refine e_seq ?_ | refine e_block ?_ | refine c_block ?_ | refine c_skip ?_ | refine c_ret ?_ | refine c_exit ?_ | refine e_exit rfl ?_ | refine i_s0 rfl ?_ | refine c_leaf ?_ | refine i_gt rfl ?_ | refine i_gf rfl ?_ | refine i_gd rfl ?_ | refine c_t rfl ?_ | refine c_f rfl ?_ | refine i_conv rfl (by simp only [InR, List.length_map]; omega) ?_ | refine i_add rfl rfl (by simp only [InR, List.length_map]; omega) ?_ | refine i_sub rfl rfl (by simp only [InR, List.length_map]; omega) ?_ | refine i_ixm rfl rfl (by assumption) ?_ | refine i_iai rfl rfl (by omega) (by assumption) rfl ?_ | refine i_iam rfl rfl (by assumption) rfl ?_ | refine i_tk rfl rfl (by omega) ?_ | refine i_stb rfl ?_ | refine i_alloc rfl ?_ | refine i_box rfl rfl ?_ | refine i_nv rfl ?_ | refine c_node ?_ ?_ | refine i_g rfl (fun h => ?_) (fun h => ?_) | refine c_cond rfl (fun h => ?_) (fun h => ?_))
      refine e_ret ⟨rfl, _, rfl, congrArg V.bool ?_⟩
      refine decide_eq_false fun hm => ?_
      obtain ⟨i, hi2, e⟩ := List.getElem_of_mem hm
      exact hi i hi2 c (by rw [← e]; exact List.getElem?_eq_getElem hi2) rfl
def c_R1_Symbol : Cmd :=
  (.seq
   (.ops [
   .op (some 2) none (.mov (.c (.bool false)))])
   (.cut
   (.seq
   (.seq
   (.ops [
   .op (some 3) none (.mov (.c (.int .i64 (0))))])
   (.cut
   (.block 0
   (.loop
   (.seq
   (.seq
   (.ops [
   .op (some 4) none (.mov (.t 3)),
   .op (some 5) none (.mov (.t 0)),
   .op (some 6) none (.len true (.t 5)),
   .op (some 7) none (.bin .lss false [] (.t 4) (.t 6))])
   (.cut
   (.cond (.t 7)
   .skip
   (.exit 0))))
   (.cut
   (.seq
   (.block 1
   (.seq
   (.ops [
   .op (some 10) none (.mov (.t 0)),
   .op (some 11) none (.mov (.t 3)),
   .op (some 12) none (.index (.t 10) (.t 11)),
   .op (some 13) none (.call .f (.c (.fn 29 [])) [.t 12]),
   .op (some 14) none (.not (.t 13))])
   (.cut
   (.cond (.t 14)
   (.seq
   (.ops [
   .op (some 2) none (.mov (.c (.bool false)))])
   .ret)
   .skip))))
   (.cut
   (.ops [
   .op (some 8) none (.mov (.t 3)),
   .op (some 9) none (.bin .add false [] (.t 8) (.c (.int .i64 (1)))),
   .op (some 3) none (.mov (.t 9))])))))))))
   (.cut
   (.seq
   (.ops [
   .op (some 15) none (.mov (.t 0)),
   .op (some 16) none (.len true (.t 15)),
   .op (some 17) none (.call .f (.c (.fn 18 [])) [.t 16, .c (.int .i64 (1)), .c (.int .i64 (12))]),
   .op (some 2) none (.mov (.t 17))])
   .ret)))))
def r_R1_Symbol : List RVar := [.tmp 2]
def n_R1_Symbol : Nat := 18
theorem k_R1_Symbol : chkFn Go.Proofs.Try.prog 19 n_R1_Symbol r_R1_Symbol c_R1_Symbol = true := by kernel_rfl
theorem f_R1_Symbol (s : List UInt8) (hl : s.length ≤ 140737488355328) : Fc Go.Proofs.Try.prog 19 [.str s] (.bool (symbolB s)) := by
  have hI := f_R1_In s.length 1 12
  refine Fn.step mixed k_R1_Symbol ?_
  repeat (first | refine i_len rfl ?_ | refine i_s rfl ?_ | refine i_lenm rfl rfl rfl ?_ | refine c_seq ?_ | refine c_cut0 ?_ | refine c_ops ?_ | refine i_nil ?_ | refine e_seq ?_ | refine e_block ?_ | refine c_block ?_ | refine c_skip ?_ | refine c_ret ?_ | refine c_exit ?_ | refine e_exit rfl ?_ | refine i_s0 rfl ?_ | refine c_leaf ?_ | refine i_gt rfl ?_ | refine i_gf rfl ?_ | refine i_gd rfl ?_ | refine c_t rfl ?_ | refine c_f rfl ?_ | refine i_conv rfl (by simp only [InR, List.length_map]; omega) ?_ | refine i_add rfl rfl (by simp only [InR, List.length_map]; omega) ?_ | refine i_sub rfl rfl (by simp only [InR, List.length_map]; omega) ?_ | refine i_ixm rfl rfl (by assumption) ?_ | refine i_iai rfl rfl (by omega) (by assumption) rfl ?_ | refine i_iam rfl rfl (by assumption) rfl ?_ | refine i_tk rfl rfl (by omega) ?_ | refine i_stb rfl ?_ | refine i_alloc rfl ?_ | refine i_box rfl rfl ?_ | refine i_nv rfl ?_)
  refine c_for s.length (fun k => [(0, .str s), (3, .int .i64 k)]) (fun _ => []) (fun k => ∀ j, j < k → ∀ c, s[j]? = some c → symB c = true) all_zero ⟨by repeat (first | exact trivial | refine ⟨rfl, ?_⟩), by repeat (first | exact trivial | refine ⟨rfl, ?_⟩), rfl⟩ fun k hk hi => ?_
  repeat (first | refine i_len rfl ?_ | refine i_s rfl ?_ | refine i_lenm rfl rfl rfl ?_ | refine c_seq ?_ | refine c_cut0 ?_ | refine c_ops ?_ | refine i_nil ?_ | refine e_seq ?_ | refine e_block ?_ | refine c_block ?_ | refine c_skip ?_ | refine c_ret ?_ | refine c_exit ?_ | refine e_exit rfl ?_ | refine i_s0 rfl ?_ | refine c_leaf ?_ | refine i_gt rfl ?_ | refine i_gf rfl ?_ | refine i_gd rfl ?_ | refine c_t rfl ?_ | refine c_f rfl ?_ | refine i_conv rfl (by simp only [InR, List.length_map]; omega) ?_ | refine i_add rfl rfl (by simp only [InR, List.length_map]; omega) ?_ | refine i_sub rfl rfl (by simp only [InR, List.length_map]; omega) ?_ | refine i_ixm rfl rfl (by assumption) ?_ | refine i_iai rfl rfl (by omega) (by assumption) rfl ?_ | refine i_iam rfl rfl (by assumption) rfl ?_ | refine i_tk rfl rfl (by omega) ?_ | refine i_stb rfl ?_ | refine i_alloc rfl ?_ | refine i_box rfl rfl ?_ | refine i_nv rfl ?_)
  refine c_cond rfl (fun h => ?_) (fun h => ?_)
  · have hlt : k < s.length := by simpa using h
    obtain ⟨c, hc⟩ := get_some hlt
    have hF := f_R1_SymbolByte c
    cases hs : symB c with
    | true =>
      rw [hs] at hF
      have next := all_succ hi fun c' hc' => by
        rw [hc] at hc'; injection hc' with hc'; rw [← hc']; exact hs
      clear hi h hI
      repeat' (first | refine i_len rfl ?_ | refine i_s rfl ?_ | refine i_lenm rfl rfl rfl ?_ | refine c_seq ?_ | refine c_cut0 ?_ | refine c_ops ?_ | refine i_nil ?_ | refine e_seq ?_ | refine e_block ?_ | refine c_block ?_ | refine c_skip ?_ | refine c_ret ?_ | refine c_exit ?_ | refine e_exit rfl ?_ | refine i_s0 rfl ?_ | refine c_leaf ?_ | refine i_gt rfl ?_ | refine i_gf rfl ?_ | refine i_gd rfl ?_ | refine c_t rfl ?_ | refine c_f rfl ?_ | refine i_conv rfl (by simp only [InR, List.length_map]; omega) ?_ | refine i_add rfl rfl (by simp only [InR, List.length_map]; omega) ?_ | refine i_sub rfl rfl (by simp only [InR, List.length_map]; omega) ?_ | refine i_ixm rfl rfl (by assumption) ?_ | refine i_iai rfl rfl (by omega) (by assumption) rfl ?_ | refine i_iam rfl rfl (by assumption) rfl ?_ | refine i_tk rfl rfl (by omega) ?_ | refine i_stb rfl ?_ | refine i_alloc rfl ?_ | refine i_box rfl rfl ?_ | refine i_nv rfl ?_ | refine c_node ?_ ?_ | refine i_g rfl (fun h => ?_) (fun h => ?_) | refine c_cond rfl (fun h => ?_) (fun h => ?_) | refine i_f rfl rfl (hF) rfl ?_)
      exact e_for hlt next ⟨by repeat (first | exact trivial | refine ⟨rfl, ?_⟩), by repeat (first | exact trivial | refine ⟨rfl, ?_⟩), rfl⟩
    | false =>
      rw [hs] at hF
      have hb := symbolB_bad (mem_get hc) hs
      clear hi h hI
      repeat' (first | refine i_len rfl ?_ | refine i_s rfl ?_ | refine i_lenm rfl rfl rfl ?_ | refine c_seq ?_ | refine c_cut0 ?_ | refine c_ops ?_ | refine i_nil ?_ | refine e_seq ?_ | refine e_block ?_ | refine c_block ?_ | refine c_skip ?_ | refine c_ret ?_ | refine c_exit ?_ | refine e_exit rfl ?_ | refine i_s0 rfl ?_ | refine c_leaf ?_ | refine i_gt rfl ?_ | refine i_gf rfl ?_ | refine i_gd rfl ?_ | refine c_t rfl ?_ | refine c_f rfl ?_ | refine i_conv rfl (by simp only [InR, List.length_map]; omega) ?_ | refine i_add rfl rfl (by simp only [InR, List.length_map]; omega) ?_ | refine i_sub rfl rfl (by simp only [InR, List.length_map]; omega) ?_ | refine i_ixm rfl rfl (by assumption) ?_ | refine i_iai rfl rfl (by omega) (by assumption) rfl ?_ | refine i_iam rfl rfl (by assumption) rfl ?_ | refine i_tk rfl rfl (by omega) ?_ | refine i_stb rfl ?_ | refine i_alloc rfl ?_ | refine i_box rfl rfl ?_ | refine i_nv rfl ?_ | refine c_node ?_ ?_ | refine i_g rfl (fun h => ?_) (fun h => ?_) | refine c_cond rfl (fun h => ?_) (fun h => ?_) | refine i_f rfl rfl (hF) rfl ?_)
      exact e_ret ⟨rfl, _, rfl, congrArg V.bool hb⟩
  · have hge : k = s.length := by have : ¬ k < s.length := by simpa using h
                                  omega
    subst hge
    rw [symbolB_all hi]
    clear hi h
    repeat' (first | refine i_len rfl ?_ | refine i_s rfl ?_ | refine i_lenm rfl rfl rfl ?_ | refine c_seq ?_ | refine c_cut0 ?_ | refine c_ops ?_ | refine i_nil ?_ | refine e_seq ?_ | refine e_block ?_ | refine c_block ?_ | refine c_skip ?_ | refine c_ret ?_ | refine c_exit ?_ | refine e_exit rfl ?_ | refine i_s0 rfl ?_ | refine c_leaf ?_ | refine i_gt rfl ?_ | refine i_gf rfl ?_ | refine i_gd rfl ?_ | refine c_t rfl ?_ | refine c_f rfl ?_ | refine i_conv rfl (by simp only [InR, List.length_map]; omega) ?_ | refine i_add rfl rfl (by simp only [InR, List.length_map]; omega) ?_ | refine i_sub rfl rfl (by simp only [InR, List.length_map]; omega) ?_ | refine i_ixm rfl rfl (by assumption) ?_ | refine i_iai rfl rfl (by omega) (by assumption) rfl ?_ | refine i_iam rfl rfl (by assumption) rfl ?_ | refine i_tk rfl rfl (by omega) ?_ | refine i_stb rfl ?_ | refine i_alloc rfl ?_ | refine i_box rfl rfl ?_ | refine i_nv rfl ?_ | refine c_node ?_ ?_ | refine i_g rfl (fun h => ?_) (fun h => ?_) | refine c_cond rfl (fun h => ?_) (fun h => ?_) | refine i_f rfl rfl (hI) rfl ?_)
    refine e_ret ⟨rfl, _, rfl, congrArg V.bool ?_⟩
    congr 1 <;> exact decide_eq_decide.2 (by omega)
def c_sexpr_shape : Cmd :=
  (.seq
   (.ops [
   .op (some 1) none (.box 1664066 2 (.t 0)),
   .op (some 2) none (.mov (.c (.int .i64 (0))))])
   (.cut
   (.seq
   (.block 0
   (.seq
   (.ops [
   .op (some 4) none (.faddr 0 (.t 1)),
   .op (some 5) none (.load false 1 (.t 4)),
   .op (some 6) none (.bin .eql false [.s] (.t 5) (.c (.str []))),
   .op (some 3) none (.mov (.t 6))])
   (.cut
   (.cond (.t 3)
   (.seq
   (.ops [
   .op (some 2) none (.mov (.c (.int .i64 (0))))])
   .ret)
   (.seq
   (.ops [
   .op (some 8) none (.faddr 0 (.t 1)),
   .op (some 9) none (.load false 1 (.t 8)),
   .op (some 10) none (.call .f (.c (.fn 31 [])) [.t 9]),
   .op (some 11) none (.not (.t 10)),
   .op (some 7) none (.mov (.t 11))])
   (.cut
   (.cond (.t 7)
   (.seq
   (.ops [
   .op (some 2) none (.mov (.c (.int .i64 (12))))])
   .ret)
   (.seq
   (.ops [
   .op (some 13) none (.faddr 1 (.t 1)),
   .op (some 14) none (.load false 1 (.t 13)),
   .op (some 15) none (.len false (.t 14)),
   .op (some 16) none (.bin .gtr false [] (.t 15) (.c (.int .i64 (0)))),
   .op (some 12) none (.mov (.t 16))])
   (.cut
   (.cond (.t 12)
   (.seq
   (.ops [
   .op (some 2) none (.mov (.c (.int .i64 (5))))])
   .ret)
   .skip))))))))))
   (.cut
   (.seq
   (.ops [
   .op (some 2) none (.mov (.c (.int .i64 (0))))])
   .ret)))))
def r_sexpr_shape : List RVar := [.tmp 2]
def n_sexpr_shape : Nat := 17
theorem k_sexpr_shape : chkFn Go.Proofs.Try.prog 26 n_sexpr_shape r_sexpr_shape c_sexpr_shape = true := by kernel_rfl
theorem str_nil (s : List UInt8) : (s == []) = decide (s = []) := by cases s <;> rfl
theorem f_sexpr_shape (n : Sx) (h1 : n.sym.length ≤ 140737488355328) (h2 : n.ch.length ≤ 140737488355328) : Fc Go.Proofs.Try.prog 26 [sxV n] (.int .i64 (shapeC n)) := by
  have hS := f_sexpr_IsSymbol n.sym h1
  unfold shapeC
  refine Fn.step mixed k_sexpr_shape ?_
  generalize hb : symbolB n.sym = b at *
  by_cases c1 : n.sym = []
  · rw [if_pos c1]
    repeat' (first | refine i_len rfl ?_ | refine i_s rfl ?_ | refine i_lenm rfl rfl rfl ?_ | refine c_seq ?_ | refine c_cut0 ?_ | refine c_ops ?_ | refine i_nil ?_ | refine e_seq ?_ | refine e_block ?_ | refine c_block ?_ | refine c_skip ?_ | refine c_ret ?_ | refine c_exit ?_ | refine e_exit rfl ?_ | refine i_s0 rfl ?_ | refine c_leaf ?_ | refine i_gt rfl ?_ | refine i_gf rfl ?_ | refine i_gd rfl ?_ | refine c_t rfl ?_ | refine c_f rfl ?_ | refine i_conv rfl (by simp only [InR, List.length_map]; omega) ?_ | refine i_add rfl rfl (by simp only [InR, List.length_map]; omega) ?_ | refine i_sub rfl rfl (by simp only [InR, List.length_map]; omega) ?_ | refine i_ixm rfl rfl (by assumption) ?_ | refine i_iai rfl rfl (by omega) (by assumption) rfl ?_ | refine i_iam rfl rfl (by assumption) rfl ?_ | refine i_tk rfl rfl (by omega) ?_ | refine i_stb rfl ?_ | refine i_alloc rfl ?_ | refine i_box rfl rfl ?_ | refine i_nv rfl ?_ | refine c_node ?_ ?_ | refine i_g rfl (fun h => ?_) (fun h => ?_) | refine c_cond rfl (fun h => ?_) (fun h => ?_) | refine i_f rfl rfl (hS) rfl ?_)
    all_goals first
      | exact e_ret ⟨rfl, _, rfl, rfl⟩
      | (exfalso; clear hS; simp_all; done)
  · rw [if_neg c1]
    have c1' : (n.sym == []) = false := by simpa using c1
    cases b with
    | false =>
      rw [if_pos rfl]
      repeat' (first | refine i_len rfl ?_ | refine i_s rfl ?_ | refine i_lenm rfl rfl rfl ?_ | refine c_seq ?_ | refine c_cut0 ?_ | refine c_ops ?_ | refine i_nil ?_ | refine e_seq ?_ | refine e_block ?_ | refine c_block ?_ | refine c_skip ?_ | refine c_ret ?_ | refine c_exit ?_ | refine e_exit rfl ?_ | refine i_s0 rfl ?_ | refine c_leaf ?_ | refine i_gt rfl ?_ | refine i_gf rfl ?_ | refine i_gd rfl ?_ | refine c_t rfl ?_ | refine c_f rfl ?_ | refine i_conv rfl (by simp only [InR, List.length_map]; omega) ?_ | refine i_add rfl rfl (by simp only [InR, List.length_map]; omega) ?_ | refine i_sub rfl rfl (by simp only [InR, List.length_map]; omega) ?_ | refine i_ixm rfl rfl (by assumption) ?_ | refine i_iai rfl rfl (by omega) (by assumption) rfl ?_ | refine i_iam rfl rfl (by assumption) rfl ?_ | refine i_tk rfl rfl (by omega) ?_ | refine i_stb rfl ?_ | refine i_alloc rfl ?_ | refine i_box rfl rfl ?_ | refine i_nv rfl ?_ | refine c_node ?_ ?_ | refine i_g rfl (fun h => ?_) (fun h => ?_) | refine c_cond rfl (fun h => ?_) (fun h => ?_) | refine i_f rfl rfl (hS) rfl ?_)
      all_goals first
        | exact e_ret ⟨rfl, _, rfl, rfl⟩
        | (exfalso; clear hS; simp_all; done)
    | true =>
      rw [if_neg (by simp)]
      by_cases c2 : n.ch ≠ []
      · have hp := List.length_pos_iff.2 c2
        rw [if_pos c2]
        repeat' (first | refine i_len rfl ?_ | refine i_s rfl ?_ | refine i_lenm rfl rfl rfl ?_ | refine c_seq ?_ | refine c_cut0 ?_ | refine c_ops ?_ | refine i_nil ?_ | refine e_seq ?_ | refine e_block ?_ | refine c_block ?_ | refine c_skip ?_ | refine c_ret ?_ | refine c_exit ?_ | refine e_exit rfl ?_ | refine i_s0 rfl ?_ | refine c_leaf ?_ | refine i_gt rfl ?_ | refine i_gf rfl ?_ | refine i_gd rfl ?_ | refine c_t rfl ?_ | refine c_f rfl ?_ | refine i_conv rfl (by simp only [InR, List.length_map]; omega) ?_ | refine i_add rfl rfl (by simp only [InR, List.length_map]; omega) ?_ | refine i_sub rfl rfl (by simp only [InR, List.length_map]; omega) ?_ | refine i_ixm rfl rfl (by assumption) ?_ | refine i_iai rfl rfl (by omega) (by assumption) rfl ?_ | refine i_iam rfl rfl (by assumption) rfl ?_ | refine i_tk rfl rfl (by omega) ?_ | refine i_stb rfl ?_ | refine i_alloc rfl ?_ | refine i_box rfl rfl ?_ | refine i_nv rfl ?_ | refine c_node ?_ ?_ | refine i_g rfl (fun h => ?_) (fun h => ?_) | refine c_cond rfl (fun h => ?_) (fun h => ?_) | refine i_f rfl rfl (hS) rfl ?_)
        all_goals first
          | exact e_ret ⟨rfl, _, rfl, rfl⟩
          | (exfalso; clear hS; simp_all; done)
          | (exfalso; clear hS; simp at *; omega)
      · rw [if_neg c2]
        have c3 : n.ch = [] := by simpa using c2
        repeat' (first | refine i_len rfl ?_ | refine i_s rfl ?_ | refine i_lenm rfl rfl rfl ?_ | refine c_seq ?_ | refine c_cut0 ?_ | refine c_ops ?_ | refine i_nil ?_ | refine e_seq ?_ | refine e_block ?_ | refine c_block ?_ | refine c_skip ?_ | refine c_ret ?_ | refine c_exit ?_ | refine e_exit rfl ?_ | refine i_s0 rfl ?_ | refine c_leaf ?_ | refine i_gt rfl ?_ | refine i_gf rfl ?_ | refine i_gd rfl ?_ | refine c_t rfl ?_ | refine c_f rfl ?_ | refine i_conv rfl (by simp only [InR, List.length_map]; omega) ?_ | refine i_add rfl rfl (by simp only [InR, List.length_map]; omega) ?_ | refine i_sub rfl rfl (by simp only [InR, List.length_map]; omega) ?_ | refine i_ixm rfl rfl (by assumption) ?_ | refine i_iai rfl rfl (by omega) (by assumption) rfl ?_ | refine i_iam rfl rfl (by assumption) rfl ?_ | refine i_tk rfl rfl (by omega) ?_ | refine i_stb rfl ?_ | refine i_alloc rfl ?_ | refine i_box rfl rfl ?_ | refine i_nv rfl ?_ | refine c_node ?_ ?_ | refine i_g rfl (fun h => ?_) (fun h => ?_) | refine c_cond rfl (fun h => ?_) (fun h => ?_) | refine i_f rfl rfl (hS) rfl ?_)
        all_goals first
          | exact e_ret ⟨rfl, _, rfl, rfl⟩
          | (exfalso; clear hS; simp_all; done)
end Hm
end

section
/- Contracts: the reference's numbers of nodes and depths. -/
namespace Hm
open Go
set_option maxRecDepth 100000
set_option maxHeartbeats 4000000
set_option linter.unusedSimpArgs false
set_option linter.unusedVariables false
def c_R1_SexprSize : Cmd :=
  (.seq
   (.ops [
   .op (some 4) none (.mov (.c (.int .i64 (0))))])
   (.cut
   (.seq
   (.ops [
   .op (some 5) none (.mov (.c (.int .i64 (1))))])
   (.cut
   (.seq
   (.seq
   (.ops [
   .op (some 6) none (.mov (.c (.int .i64 (0))))])
   (.cut
   (.block 0
   (.loop
   (.seq
   (.seq
   (.ops [
   .op (some 7) none (.mov (.t 6)),
   .op (some 8) none (.mov (.t 0)),
   .op (some 9) none (.mov (.t 1)),
   .op (some 10) none (.iaddr 2 (.t 8) (.t 9)),
   .op (some 11) none (.faddr 1 (.t 10)),
   .op (some 12) none (.load false 1 (.t 11)),
   .op (some 13) none (.len false (.t 12)),
   .op (some 14) none (.bin .lss false [] (.t 7) (.t 13))])
   (.cut
   (.cond (.t 14)
   .skip
   (.exit 0))))
   (.cut
   (.seq
   (.block 1
   (.ops [
   .op (some 17) none (.mov (.t 5)),
   .op (some 18) none (.mov (.t 0)),
   .op (some 19) none (.mov (.t 0)),
   .op (some 20) none (.mov (.t 1)),
   .op (some 21) none (.iaddr 2 (.t 19) (.t 20)),
   .op (some 22) none (.faddr 1 (.t 21)),
   .op (some 23) none (.load false 1 (.t 22)),
   .op (some 24) none (.mov (.t 6)),
   .op (some 25) none (.iaddr 1 (.t 23) (.t 24)),
   .op (some 26) none (.load false 1 (.t 25)),
   .op (some 27) none (.call .f (.c (.fn 20 [])) [.t 18, .t 26]),
   .op (some 28) none (.bin .add false [] (.t 17) (.t 27)),
   .op (some 5) none (.mov (.t 28))]))
   (.cut
   (.ops [
   .op (some 15) none (.mov (.t 6)),
   .op (some 16) none (.bin .add false [] (.t 15) (.c (.int .i64 (1)))),
   .op (some 6) none (.mov (.t 16))])))))))))
   (.cut
   (.seq
   (.ops [
   .op (some 29) none (.mov (.t 5)),
   .op (some 4) none (.mov (.t 29))])
   .ret)))))))
def r_R1_SexprSize : List RVar := [.tmp 4]
def n_R1_SexprSize : Nat := 30
theorem k_R1_SexprSize : chkFn Go.Proofs.Try.prog 20 n_R1_SexprSize r_R1_SexprSize c_R1_SexprSize = true := by kernel_rfl
theorem f_R1_SexprSize (l : List Sx) (hl : l.length ≤ 300) (ho : SxsOk l) : ∀ (i : Nat), i < l.length → chTo l (i + 1) → Fc Go.Proofs.Try.prog 20 [.sl .p (l.map sxV), .int .i64 i] (.int .i64 (sz l i)) := by
  intro i
  induction i using Nat.strongRecOn with
  | ind i ih =>
    intro hi hch
    obtain ⟨n, hn⟩ := get_some hi
    have hlow := hch.low
    have hle := sz_leC i (i + 1) hch (by omega)
    rw [sz_eq hlow, chL_get hn] at hle ⊢
    have hcl := (ho.e n (mem_get hn)).2
    refine Fn.step mixed k_R1_SexprSize ?_
    repeat (first | refine i_len rfl ?_ | refine i_s rfl ?_ | refine i_lenm rfl rfl rfl ?_ | refine c_seq ?_ | refine c_cut0 ?_ | refine c_ops ?_ | refine i_nil ?_ | refine e_seq ?_ | refine e_block ?_ | refine c_block ?_ | refine c_skip ?_ | refine c_ret ?_ | refine c_exit ?_ | refine e_exit rfl ?_ | refine i_s0 rfl ?_ | refine c_leaf ?_ | refine i_gt rfl ?_ | refine i_gf rfl ?_ | refine i_gd rfl ?_ | refine c_t rfl ?_ | refine c_f rfl ?_ | refine i_conv rfl (by simp only [InR, List.length_map]; omega) ?_ | refine i_add rfl rfl (by simp only [InR, List.length_map]; omega) ?_ | refine i_sub rfl rfl (by simp only [InR, List.length_map]; omega) ?_ | refine i_ixm rfl rfl (by assumption) ?_ | refine i_iai rfl rfl (by omega) (by assumption) rfl ?_ | refine i_iam rfl rfl (by assumption) rfl ?_ | refine i_tk rfl rfl (by omega) ?_ | refine i_stb rfl ?_ | refine i_alloc rfl ?_ | refine i_box rfl rfl ?_ | refine i_nv rfl ?_)
    refine c_for n.ch.length (fun k => [(0, .sl .p (l.map sxV)), (1, .int .i64 i), (5, .int .i64 ((1 + sumN (sz l) (n.ch.take k) : Nat) : Int)), (6, .int .i64 k)]) (fun _ => []) (fun _ => True) trivial ⟨by repeat (first | exact trivial | refine ⟨rfl, ?_⟩), by repeat (first | exact trivial | refine ⟨rfl, ?_⟩), rfl⟩ fun k hk _ => ?_
    have htk := sumN_take (sz l) n.ch k
    repeat (first | refine i_len rfl ?_ | refine i_s rfl ?_ | refine i_lenm rfl rfl rfl ?_ | refine c_seq ?_ | refine c_cut0 ?_ | refine c_ops ?_ | refine i_nil ?_ | refine e_seq ?_ | refine e_block ?_ | refine c_block ?_ | refine c_skip ?_ | refine c_ret ?_ | refine c_exit ?_ | refine e_exit rfl ?_ | refine i_s0 rfl ?_ | refine c_leaf ?_ | refine i_gt rfl ?_ | refine i_gf rfl ?_ | refine i_gd rfl ?_ | refine c_t rfl ?_ | refine c_f rfl ?_ | refine i_conv rfl (by simp only [InR, List.length_map]; omega) ?_ | refine i_add rfl rfl (by simp only [InR, List.length_map]; omega) ?_ | refine i_sub rfl rfl (by simp only [InR, List.length_map]; omega) ?_ | refine i_ixm rfl rfl (by assumption) ?_ | refine i_iai rfl rfl (by omega) (by assumption) rfl ?_ | refine i_iam rfl rfl (by assumption) rfl ?_ | refine i_tk rfl rfl (by omega) ?_ | refine i_stb rfl ?_ | refine i_alloc rfl ?_ | refine i_box rfl rfl ?_ | refine i_nv rfl ?_)
    refine c_cond rfl (fun h => ?_) (fun h => ?_)
    · have hlt : k < n.ch.length := by simpa using h
      obtain ⟨c, hc⟩ := get_some hlt
      have hcr := hlow i (by omega) c (by rw [chL_get hn]; exact mem_get hc)
      have hR := ih c.toNat (by omega) (by omega) (hch.mono (by omega))
      rw [show ((c.toNat : Nat) : Int) = c from by omega] at hR
      have hm := sumN_mem (f := sz l) (mem_get hc)
      have e : 1 + sumN (sz l) (n.ch.take (k + 1)) = (1 + sumN (sz l) (n.ch.take k)) + sz l c.toNat := by rw [take_succ_get hc, sumN_snoc]; omega
      clear h ih hlow hch
      repeat' (first | refine i_len rfl ?_ | refine i_s rfl ?_ | refine i_lenm rfl rfl rfl ?_ | refine c_seq ?_ | refine c_cut0 ?_ | refine c_ops ?_ | refine i_nil ?_ | refine e_seq ?_ | refine e_block ?_ | refine c_block ?_ | refine c_skip ?_ | refine c_ret ?_ | refine c_exit ?_ | refine e_exit rfl ?_ | refine i_s0 rfl ?_ | refine c_leaf ?_ | refine i_gt rfl ?_ | refine i_gf rfl ?_ | refine i_gd rfl ?_ | refine c_t rfl ?_ | refine c_f rfl ?_ | refine i_conv rfl (by simp only [InR, List.length_map]; omega) ?_ | refine i_add rfl rfl (by simp only [InR, List.length_map]; omega) ?_ | refine i_sub rfl rfl (by simp only [InR, List.length_map]; omega) ?_ | refine i_ixm rfl rfl (by assumption) ?_ | refine i_iai rfl rfl (by omega) (by assumption) rfl ?_ | refine i_iam rfl rfl (by assumption) rfl ?_ | refine i_tk rfl rfl (by omega) ?_ | refine i_stb rfl ?_ | refine i_alloc rfl ?_ | refine i_box rfl rfl ?_ | refine i_nv rfl ?_ | refine c_node ?_ ?_ | refine i_g rfl (fun h => ?_) (fun h => ?_) | refine c_cond rfl (fun h => ?_) (fun h => ?_) | refine i_f rfl rfl (hR) rfl ?_)
      refine e_for hlt trivial ⟨⟨rfl, rfl, ?_, rfl, trivial⟩, trivial, rfl⟩
      rw [e]; rfl
    · have hge : k = n.ch.length := by have : ¬ k < n.ch.length := by simpa using h
                                       omega
      subst hge
      rw [List.take_length]
      clear h ih
      repeat' (first | refine i_len rfl ?_ | refine i_s rfl ?_ | refine i_lenm rfl rfl rfl ?_ | refine c_seq ?_ | refine c_cut0 ?_ | refine c_ops ?_ | refine i_nil ?_ | refine e_seq ?_ | refine e_block ?_ | refine c_block ?_ | refine c_skip ?_ | refine c_ret ?_ | refine c_exit ?_ | refine e_exit rfl ?_ | refine i_s0 rfl ?_ | refine c_leaf ?_ | refine i_gt rfl ?_ | refine i_gf rfl ?_ | refine i_gd rfl ?_ | refine c_t rfl ?_ | refine c_f rfl ?_ | refine i_conv rfl (by simp only [InR, List.length_map]; omega) ?_ | refine i_add rfl rfl (by simp only [InR, List.length_map]; omega) ?_ | refine i_sub rfl rfl (by simp only [InR, List.length_map]; omega) ?_ | refine i_ixm rfl rfl (by assumption) ?_ | refine i_iai rfl rfl (by omega) (by assumption) rfl ?_ | refine i_iam rfl rfl (by assumption) rfl ?_ | refine i_tk rfl rfl (by omega) ?_ | refine i_stb rfl ?_ | refine i_alloc rfl ?_ | refine i_box rfl rfl ?_ | refine i_nv rfl ?_ | refine c_node ?_ ?_ | refine i_g rfl (fun h => ?_) (fun h => ?_) | refine c_cond rfl (fun h => ?_) (fun h => ?_))
      exact e_ret ⟨rfl, _, rfl, rfl⟩
def c_R1_SexprDepth : Cmd :=
  (.seq
   (.ops [
   .op (some 4) none (.mov (.c (.int .i64 (0))))])
   (.cut
   (.seq
   (.ops [
   .op (some 5) none (.mov (.c (.int .i64 (0))))])
   (.cut
   (.seq
   (.seq
   (.ops [
   .op (some 6) none (.mov (.c (.int .i64 (0))))])
   (.cut
   (.block 0
   (.loop
   (.seq
   (.seq
   (.ops [
   .op (some 8) none (.mov (.t 6)),
   .op (some 9) none (.mov (.t 0)),
   .op (some 10) none (.mov (.t 1)),
   .op (some 11) none (.iaddr 2 (.t 9) (.t 10)),
   .op (some 12) none (.faddr 1 (.t 11)),
   .op (some 13) none (.load false 1 (.t 12)),
   .op (some 14) none (.len false (.t 13)),
   .op (some 15) none (.bin .lss false [] (.t 8) (.t 14))])
   (.cut
   (.cond (.t 15)
   .skip
   (.exit 0))))
   (.cut
   (.seq
   (.block 1
   (.seq
   (.ops [
   .op (some 18) none (.mov (.t 0)),
   .op (some 19) none (.mov (.t 0)),
   .op (some 20) none (.mov (.t 1)),
   .op (some 21) none (.iaddr 2 (.t 19) (.t 20)),
   .op (some 22) none (.faddr 1 (.t 21)),
   .op (some 23) none (.load false 1 (.t 22)),
   .op (some 24) none (.mov (.t 6)),
   .op (some 25) none (.iaddr 1 (.t 23) (.t 24)),
   .op (some 26) none (.load false 1 (.t 25)),
   .op (some 27) none (.call .f (.c (.fn 21 [])) [.t 18, .t 26]),
   .op (some 7) none (.mov (.t 27))])
   (.cut
   (.seq
   (.ops [
   .op (some 28) none (.mov (.t 7)),
   .op (some 29) none (.mov (.t 5)),
   .op (some 30) none (.bin .gtr false [] (.t 28) (.t 29))])
   (.cut
   (.cond (.t 30)
   (.ops [
   .op (some 31) none (.mov (.t 7)),
   .op (some 5) none (.mov (.t 31))])
   .skip))))))
   (.cut
   (.ops [
   .op (some 16) none (.mov (.t 6)),
   .op (some 17) none (.bin .add false [] (.t 16) (.c (.int .i64 (1)))),
   .op (some 6) none (.mov (.t 17))])))))))))
   (.cut
   (.seq
   (.ops [
   .op (some 32) none (.mov (.t 5)),
   .op (some 33) none (.bin .add false [] (.t 32) (.c (.int .i64 (1)))),
   .op (some 4) none (.mov (.t 33))])
   .ret)))))))
def r_R1_SexprDepth : List RVar := [.tmp 4]
def n_R1_SexprDepth : Nat := 34
theorem k_R1_SexprDepth : chkFn Go.Proofs.Try.prog 21 n_R1_SexprDepth r_R1_SexprDepth c_R1_SexprDepth = true := by kernel_rfl
theorem f_R1_SexprDepth (l : List Sx) (hl : l.length ≤ 300) (ho : SxsOk l) : ∀ (i : Nat), i < l.length → chTo l (i + 1) → Fc Go.Proofs.Try.prog 21 [.sl .p (l.map sxV), .int .i64 i] (.int .i64 (dp l i)) := by
  intro i
  induction i using Nat.strongRecOn with
  | ind i ih =>
    intro hi hch
    obtain ⟨n, hn⟩ := get_some hi
    have hlow := hch.low
    have hle := sz_leC i (i + 1) hch (by omega)
    have hd := dp_le i (i + 1) hlow (by omega)
    rw [dp_eq hlow, chL_get hn] at hd ⊢
    have hcl := (ho.e n (mem_get hn)).2
    refine Fn.step mixed k_R1_SexprDepth ?_
    repeat (first | refine i_len rfl ?_ | refine i_s rfl ?_ | refine i_lenm rfl rfl rfl ?_ | refine c_seq ?_ | refine c_cut0 ?_ | refine c_ops ?_ | refine i_nil ?_ | refine e_seq ?_ | refine e_block ?_ | refine c_block ?_ | refine c_skip ?_ | refine c_ret ?_ | refine c_exit ?_ | refine e_exit rfl ?_ | refine i_s0 rfl ?_ | refine c_leaf ?_ | refine i_gt rfl ?_ | refine i_gf rfl ?_ | refine i_gd rfl ?_ | refine c_t rfl ?_ | refine c_f rfl ?_ | refine i_conv rfl (by simp only [InR, List.length_map]; omega) ?_ | refine i_add rfl rfl (by simp only [InR, List.length_map]; omega) ?_ | refine i_sub rfl rfl (by simp only [InR, List.length_map]; omega) ?_ | refine i_ixm rfl rfl (by assumption) ?_ | refine i_iai rfl rfl (by omega) (by assumption) rfl ?_ | refine i_iam rfl rfl (by assumption) rfl ?_ | refine i_tk rfl rfl (by omega) ?_ | refine i_stb rfl ?_ | refine i_alloc rfl ?_ | refine i_box rfl rfl ?_ | refine i_nv rfl ?_)
    refine c_for n.ch.length (fun k => [(0, .sl .p (l.map sxV)), (1, .int .i64 i), (5, .int .i64 ((maxN (dp l) (n.ch.take k) : Nat) : Int)), (6, .int .i64 k)]) (fun _ => []) (fun _ => True) trivial ⟨by repeat (first | exact trivial | refine ⟨rfl, ?_⟩), by repeat (first | exact trivial | refine ⟨rfl, ?_⟩), rfl⟩ fun k hk _ => ?_
    have htk := maxN_take (dp l) n.ch k
    repeat (first | refine i_len rfl ?_ | refine i_s rfl ?_ | refine i_lenm rfl rfl rfl ?_ | refine c_seq ?_ | refine c_cut0 ?_ | refine c_ops ?_ | refine i_nil ?_ | refine e_seq ?_ | refine e_block ?_ | refine c_block ?_ | refine c_skip ?_ | refine c_ret ?_ | refine c_exit ?_ | refine e_exit rfl ?_ | refine i_s0 rfl ?_ | refine c_leaf ?_ | refine i_gt rfl ?_ | refine i_gf rfl ?_ | refine i_gd rfl ?_ | refine c_t rfl ?_ | refine c_f rfl ?_ | refine i_conv rfl (by simp only [InR, List.length_map]; omega) ?_ | refine i_add rfl rfl (by simp only [InR, List.length_map]; omega) ?_ | refine i_sub rfl rfl (by simp only [InR, List.length_map]; omega) ?_ | refine i_ixm rfl rfl (by assumption) ?_ | refine i_iai rfl rfl (by omega) (by assumption) rfl ?_ | refine i_iam rfl rfl (by assumption) rfl ?_ | refine i_tk rfl rfl (by omega) ?_ | refine i_stb rfl ?_ | refine i_alloc rfl ?_ | refine i_box rfl rfl ?_ | refine i_nv rfl ?_)
    refine c_cond rfl (fun h => ?_) (fun h => ?_)
    · have hlt : k < n.ch.length := by simpa using h
      obtain ⟨c, hc⟩ := get_some hlt
      have hcr := hlow i (by omega) c (by rw [chL_get hn]; exact mem_get hc)
      have hR := ih c.toNat (by omega) (by omega) (hch.mono (by omega))
      rw [show ((c.toNat : Nat) : Int) = c from by omega] at hR
      have e : maxN (dp l) (n.ch.take (k + 1)) = max (maxN (dp l) (n.ch.take k)) (dp l c.toNat) := by rw [take_succ_get hc, maxN_snoc]
      clear h ih hlow hch
      repeat' (first | refine i_len rfl ?_ | refine i_s rfl ?_ | refine i_lenm rfl rfl rfl ?_ | refine c_seq ?_ | refine c_cut0 ?_ | refine c_ops ?_ | refine i_nil ?_ | refine e_seq ?_ | refine e_block ?_ | refine c_block ?_ | refine c_skip ?_ | refine c_ret ?_ | refine c_exit ?_ | refine e_exit rfl ?_ | refine i_s0 rfl ?_ | refine c_leaf ?_ | refine i_gt rfl ?_ | refine i_gf rfl ?_ | refine i_gd rfl ?_ | refine c_t rfl ?_ | refine c_f rfl ?_ | refine i_conv rfl (by simp only [InR, List.length_map]; omega) ?_ | refine i_add rfl rfl (by simp only [InR, List.length_map]; omega) ?_ | refine i_sub rfl rfl (by simp only [InR, List.length_map]; omega) ?_ | refine i_ixm rfl rfl (by assumption) ?_ | refine i_iai rfl rfl (by omega) (by assumption) rfl ?_ | refine i_iam rfl rfl (by assumption) rfl ?_ | refine i_tk rfl rfl (by omega) ?_ | refine i_stb rfl ?_ | refine i_alloc rfl ?_ | refine i_box rfl rfl ?_ | refine i_nv rfl ?_ | refine c_node ?_ ?_ | refine i_g rfl (fun h => ?_) (fun h => ?_) | refine c_cond rfl (fun h => ?_) (fun h => ?_) | refine i_f rfl rfl (hR) rfl ?_)
      · refine e_for hlt trivial ⟨⟨rfl, rfl, ?_, rfl, trivial⟩, trivial, rfl⟩
        rw [e, Nat.max_eq_right (by have := of_decide_eq_true h; omega)]; rfl
      · refine e_for hlt trivial ⟨⟨rfl, rfl, ?_, rfl, trivial⟩, trivial, rfl⟩
        rw [e, Nat.max_eq_left (by have := of_decide_eq_false h; omega)]; rfl
    · have hge : k = n.ch.length := by have : ¬ k < n.ch.length := by simpa using h
                                       omega
      subst hge
      rw [List.take_length]
      clear h ih
      repeat' (first | refine i_len rfl ?_ | refine i_s rfl ?_ | refine i_lenm rfl rfl rfl ?_ | refine c_seq ?_ | refine c_cut0 ?_ | refine c_ops ?_ | refine i_nil ?_ | refine e_seq ?_ | refine e_block ?_ | refine c_block ?_ | refine c_skip ?_ | refine c_ret ?_ | refine c_exit ?_ | refine e_exit rfl ?_ | refine i_s0 rfl ?_ | refine c_leaf ?_ | refine i_gt rfl ?_ | refine i_gf rfl ?_ | refine i_gd rfl ?_ | refine c_t rfl ?_ | refine c_f rfl ?_ | refine i_conv rfl (by simp only [InR, List.length_map]; omega) ?_ | refine i_add rfl rfl (by simp only [InR, List.length_map]; omega) ?_ | refine i_sub rfl rfl (by simp only [InR, List.length_map]; omega) ?_ | refine i_ixm rfl rfl (by assumption) ?_ | refine i_iai rfl rfl (by omega) (by assumption) rfl ?_ | refine i_iam rfl rfl (by assumption) rfl ?_ | refine i_tk rfl rfl (by omega) ?_ | refine i_stb rfl ?_ | refine i_alloc rfl ?_ | refine i_box rfl rfl ?_ | refine i_nv rfl ?_ | refine c_node ?_ ?_ | refine i_g rfl (fun h => ?_) (fun h => ?_) | refine c_cond rfl (fun h => ?_) (fun h => ?_))
      refine e_ret ⟨rfl, _, rfl, ?_⟩
      show V.int _ _ = V.int _ _
      congr 1
      omega
end Hm
end

section
/- Contract: validation of expressions. -/
namespace Hm
open Go
set_option maxRecDepth 100000
set_option maxHeartbeats 4000000
set_option linter.unusedSimpArgs false
set_option linter.unusedVariables false
def fsL (l : List Sx) (i n : Nat) : List Int := (List.range n).map fun (j : Nat) => if j < i then fst_ l j else 0
def dpL (l : List Sx) (i : Nat) (d : Int) (n : Nat) : List Int := (List.range n).map fun (j : Nat) => if j < i then (dp l j : Int) else if j = i then d else 0
theorem fsL_len (l : List Sx) (i n : Nat) : (fsL l i n).length = n := by simp [fsL]
theorem dpL_len (l : List Sx) (i : Nat) (d : Int) (n : Nat) : (dpL l i d n).length = n := by simp [dpL]
theorem fsL_get (l : List Sx) {i n j : Nat} (h : j < n) : (fsL l i n)[j]? = some (if j < i then fst_ l j else 0) := by
  unfold fsL
  rw [List.getElem?_map, List.getElem?_range h]; rfl
theorem dpL_get (l : List Sx) {i n j : Nat} (d : Int) (h : j < n) : (dpL l i d n)[j]? = some (if j < i then (dp l j : Int) else if j = i then d else 0) := by
  unfold dpL
  rw [List.getElem?_map, List.getElem?_range h]; rfl
theorem fsL_set (l : List Sx) {i n : Nat} (h : i < n) : (fsL l i n).set i (fst_ l i) = fsL l (i + 1) n := by
  apply List.ext_getElem?
  intro j
  by_cases hj : j < n
  · rw [List.getElem?_set, fsL_get l hj, fsL_get l hj]
    by_cases e : i = j
    · subst e; simp [fsL_len, h]
    · rw [if_neg e]
      congr 1
      by_cases c : j < i
      · rw [if_pos c, if_pos (by omega)]
      · rw [if_neg c, if_neg (by omega)]
  · rw [List.getElem?_eq_none (by simp [fsL_len]; omega), List.getElem?_eq_none (by rw [fsL_len]; omega)]
theorem dpL_set (l : List Sx) {i n : Nat} (d e : Int) (h : i < n) : (dpL l i d n).set i e = dpL l i e n := by
  apply List.ext_getElem?
  intro j
  by_cases hj : j < n
  · rw [List.getElem?_set, dpL_get l d hj, dpL_get l e hj]
    by_cases q : i = j
    · subst q; simp [dpL_len, h]
    · rw [if_neg q]
      congr 1
      by_cases c : j < i
      · rw [if_pos c, if_pos c]
      · rw [if_neg c, if_neg c, if_neg (fun e => q e.symm), if_neg (fun e => q e.symm)]
  · rw [List.getElem?_eq_none (by simp [dpL_len]; omega), List.getElem?_eq_none (by rw [dpL_len]; omega)]
theorem dpL_next (l : List Sx) {i n : Nat} : dpL l i (dp l i) n = dpL l (i + 1) 0 n := by
  unfold dpL
  refine List.map_congr_left fun j _ => ?_
  by_cases c : j < i
  · rw [if_pos c, if_pos (by omega)]
  · rw [if_neg c]
    by_cases e : j = i
    · subst e; rw [if_pos rfl, if_pos (by omega)]
    · rw [if_neg e, if_neg (by omega)]
      split <;> rfl
theorem fsL_zero (l : List Sx) (n : Nat) : (fsL l 0 n).map i64V = List.replicate n (.int .i64 0) := by
  apply List.ext_getElem?
  intro j
  by_cases hj : j < n
  · rw [List.getElem?_map, fsL_get l hj, List.getElem?_replicate, if_pos hj]; rfl
  · rw [List.getElem?_eq_none (by simp [fsL_len]; omega), List.getElem?_eq_none (by simp; omega)]
theorem dpL_zero (l : List Sx) (n : Nat) : (dpL l 0 0 n).map i64V = List.replicate n (.int .i64 0) := by
  apply List.ext_getElem?
  intro j
  by_cases hj : j < n
  · rw [List.getElem?_map, dpL_get l 0 hj, List.getElem?_replicate, if_pos hj]
    simp [i64V]
  · rw [List.getElem?_eq_none (by simp [dpL_len]; omega), List.getElem?_eq_none (by simp; omega)]
theorem sx_hit {l : List Sx} {i : Nat} {f : Flt} (h0 : ¬ (l.length = 0 ∨ l.length > 300)) (hi : i < l.length) (hp : ∀ j, j < i → nodeBad l j = none) (hf : nodeBad l i = some f) : sxFault l = f := by
  unfold sxFault
  rw [if_neg h0, scan0_hit hp hi hf]
theorem sx_all {l : List Sx} (h0 : ¬ (l.length = 0 ∨ l.length > 300)) (hp : ∀ j, j < l.length → nodeBad l j = none) : sxFault l = if sz l (l.length - 1) ≠ l.length then ⟨5, -1⟩ else okF := by
  unfold sxFault
  rw [if_neg h0, scan0_none hp]
theorem okTo_of {l : List Sx} {i : Nat} (hp : ∀ j, j < i → nodeBad l j = none) : okTo l i := fun j hj x hx => (nodeBad_none hx).1 (hp j hj)
theorem chTo_succ {l : List Sx} {i : Nat} {x : Sx} (h : okTo l i) (hx : l[i]? = some x) {e : Int} (he : chn l i x.ch.reverse = some e) : chTo l (i + 1) := fun j hj y hy => by
  by_cases c : j < i
  · exact h.chs j c y hy
  · have : j = i := by omega
    subst this
    rw [hx] at hy
    cases hy
    exact ⟨e, he⟩
theorem len0 {n : Nat} (h : ((n : Int) == 0) = true) : n = 0 := by have : (n : Int) = 0 := by simpa using h
                                                                   omega
def c_sexpr_Validate : Cmd :=
  (.seq
   (.ops [
   .op (some 2) none (.alloc 704130 (.agg [.int .i64 (0), .int .i64 (0)]))])
   (.cut
   (.seq
   (.seq
   (.ops [
   .op (some 11) none (.mov (.t 0)),
   .op (some 12) none (.len false (.t 11)),
   .op (some 13) none (.bin .eql false [.i] (.t 12) (.c (.int .i64 (0)))),
   .op (some 14) none (.mov (.t 13)),
   .op (some 15) (some (14, false)) (.mov (.t 0)),
   .op (some 16) (some (14, false)) (.len false (.t 15)),
   .op (some 17) (some (14, false)) (.bin .gtr false [] (.t 16) (.c (.int .i64 (300)))),
   .op (some 18) none (.pick (.t 14) (.c (.bool true)) (.t 17))])
   (.cut
   (.cond (.t 18)
   (.seq
   (.ops [
   .op (some 19) none (.build [.int .i64 (0), .int .i64 (0)] [(0, 1, .c (.int .i64 (2))), (1, 1, .c (.int .i64 (-1)))]),
   .op none none (.store 2 (.t 2) (.t 19))])
   .ret)
   .skip)))
   (.cut
   (.seq
   (.ops [
   .op (some 20) none (.mov (.t 0)),
   .op (some 21) none (.len false (.t 20)),
   .op (some 22) none (.mkSl 705409 1 8 (.int .i64 (0)) (.t 21) (.t 21)),
   .op (some 3) none (.mov (.t 22))])
   (.cut
   (.seq
   (.ops [
   .op (some 23) none (.mov (.t 0)),
   .op (some 24) none (.len false (.t 23)),
   .op (some 25) none (.mkSl 705601 1 8 (.int .i64 (0)) (.t 24) (.t 24)),
   .op (some 4) none (.mov (.t 25))])
   (.cut
   (.seq
   (.seq
   (.ops [
   .op (some 26) none (.mov (.t 0)),
   .op (some 27) none (.len false (.t 26)),
   .op (some 28) none (.mov (.c (.int .i64 (0))))])
   (.cut
   (.block 0
   (.loop
   (.seq
   (.ops [
   .op (some 29) none (.bin .lss false [] (.t 28) (.t 27))])
   (.cut
   (.seq
   (.cond (.t 29)
   .skip
   (.exit 0))
   (.cut
   (.seq
   (.block 1
   (.seq
   (.ops [
   .op (some 30) none (.mov (.t 28)),
   .op (some 31) none (.iaddr 2 (.t 26) (.t 28)),
   .op (some 32) none (.load true 2 (.t 31)),
   .op (some 6) none (.alloc 704386 (.agg [.str [], .sl .nil []])),
   .op (some 5) none (.mov (.t 30)),
   .op none none (.store 2 (.t 6) (.t 32))])
   (.cut
   (.seq
   (.seq
   (.ops [
   .op (some 33) none (.load true 2 (.t 6)),
   .op (some 34) none (.call .f (.c (.fn 26 [])) [.t 33]),
   .op (some 7) none (.mov (.t 34))])
   (.cut
   (.seq
   (.ops [
   .op (some 35) none (.mov (.t 7)),
   .op (some 36) none (.bin .neq false [.i] (.t 35) (.c (.int .i64 (0))))])
   (.cut
   (.cond (.t 36)
   (.seq
   (.ops [
   .op (some 37) none (.mov (.t 7)),
   .op (some 38) none (.mov (.t 5)),
   .op (some 39) none (.build [.int .i64 (0), .int .i64 (0)] [(0, 1, .t 37), (1, 1, .t 38)]),
   .op none none (.store 2 (.t 2) (.t 39))])
   .ret)
   .skip)))))
   (.cut
   (.seq
   (.ops [
   .op (some 40) none (.mov (.t 5)),
   .op (some 8) none (.mov (.t 40))])
   (.cut
   (.seq
   (.seq
   (.ops [
   .op (some 41) none (.faddr 1 (.t 6)),
   .op (some 42) none (.load false 1 (.t 41)),
   .op (some 43) none (.len false (.t 42)),
   .op (some 44) none (.bin .sub false [] (.t 43) (.c (.int .i64 (1)))),
   .op (some 9) none (.mov (.t 44))])
   (.cut
   (.block 2
   (.loop
   (.seq
   (.seq
   (.ops [
   .op (some 45) none (.mov (.t 9)),
   .op (some 46) none (.bin .geq false [] (.t 45) (.c (.int .i64 (0))))])
   (.cut
   (.cond (.t 46)
   .skip
   (.exit 2))))
   (.cut
   (.seq
   (.block 3
   (.seq
   (.ops [
   .op (some 49) none (.faddr 1 (.t 6)),
   .op (some 50) none (.load false 1 (.t 49)),
   .op (some 51) none (.mov (.t 9)),
   .op (some 52) none (.iaddr 1 (.t 50) (.t 51)),
   .op (some 53) none (.load false 1 (.t 52)),
   .op (some 10) none (.mov (.t 53))])
   (.cut
   (.seq
   (.seq
   (.ops [
   .op (some 54) none (.mov (.t 10)),
   .op (some 55) none (.bin .lss false [] (.t 54) (.c (.int .i64 (0)))),
   .op (some 56) none (.mov (.t 55)),
   .op (some 57) (some (56, false)) (.mov (.t 10)),
   .op (some 58) (some (56, false)) (.mov (.t 8)),
   .op (some 59) (some (56, false)) (.bin .sub false [] (.t 58) (.c (.int .i64 (1)))),
   .op (some 60) (some (56, false)) (.bin .neq false [.i] (.t 57) (.t 59)),
   .op (some 61) none (.pick (.t 56) (.c (.bool true)) (.t 60))])
   (.cut
   (.cond (.t 61)
   (.seq
   (.ops [
   .op (some 62) none (.mov (.t 5)),
   .op (some 63) none (.build [.int .i64 (0), .int .i64 (0)] [(0, 1, .c (.int .i64 (5))), (1, 1, .t 62)]),
   .op none none (.store 2 (.t 2) (.t 63))])
   .ret)
   .skip)))
   (.cut
   (.seq
   (.ops [
   .op (some 64) none (.mov (.t 3)),
   .op (some 65) none (.mov (.t 10)),
   .op (some 66) none (.iaddr 1 (.t 64) (.t 65)),
   .op (some 67) none (.load false 1 (.t 66)),
   .op (some 8) none (.mov (.t 67))])
   (.cut
   (.ops [
   .op (some 68) none (.mov (.t 4)),
   .op (some 69) none (.mov (.t 5)),
   .op (some 70) none (.mov (.t 4)),
   .op (some 71) none (.mov (.t 5)),
   .op (some 72) none (.iaddr 1 (.t 70) (.t 71)),
   .op (some 73) none (.load false 1 (.t 72)),
   .op (some 74) none (.mov (.t 4)),
   .op (some 75) none (.mov (.t 10)),
   .op (some 76) none (.iaddr 1 (.t 74) (.t 75)),
   .op (some 77) none (.load false 1 (.t 76)),
   .op (some 78) none (.max (.t 73) (.t 77)),
   .op (some 79) none (.iaddr 1 (.t 68) (.t 69)),
   .op none none (.store 1 (.t 79) (.t 78))]))))))))
   (.cut
   (.ops [
   .op (some 47) none (.mov (.t 9)),
   .op (some 48) none (.bin .sub false [] (.t 47) (.c (.int .i64 (1)))),
   .op (some 9) none (.mov (.t 48))])))))))))
   (.cut
   (.seq
   (.ops [
   .op (some 80) none (.mov (.t 3)),
   .op (some 81) none (.mov (.t 5)),
   .op (some 82) none (.mov (.t 8)),
   .op (some 83) none (.iaddr 1 (.t 80) (.t 81)),
   .op none none (.store 1 (.t 83) (.t 82))])
   (.cut
   (.seq
   (.ops [
   .op (some 84) none (.mov (.t 4)),
   .op (some 85) none (.mov (.t 5)),
   .op (some 86) none (.iaddr 1 (.t 84) (.t 85)),
   .op (some 87) none (.load false 1 (.t 86)),
   .op (some 88) none (.bin .add false [] (.t 87) (.c (.int .i64 (1)))),
   .op (some 89) none (.iaddr 1 (.t 84) (.t 85)),
   .op none none (.store 1 (.t 89) (.t 88))])
   (.cut
   (.seq
   (.ops [
   .op (some 90) none (.mov (.t 4)),
   .op (some 91) none (.mov (.t 5)),
   .op (some 92) none (.iaddr 1 (.t 90) (.t 91)),
   .op (some 93) none (.load false 1 (.t 92)),
   .op (some 94) none (.bin .gtr false [] (.t 93) (.c (.int .i64 (12))))])
   (.cut
   (.cond (.t 94)
   (.seq
   (.ops [
   .op (some 95) none (.mov (.t 5)),
   .op (some 96) none (.build [.int .i64 (0), .int .i64 (0)] [(0, 1, .c (.int .i64 (10))), (1, 1, .t 95)]),
   .op none none (.store 2 (.t 2) (.t 96))])
   .ret)
   .skip))))))))))))))))
   (.cut
   (.ops [
   .op (some 97) none (.bin .add false [] (.t 28) (.c (.int .i64 (1)))),
   .op (some 28) none (.mov (.t 97))])))))))))))
   (.cut
   (.seq
   (.seq
   (.ops [
   .op (some 98) none (.mov (.t 3)),
   .op (some 99) none (.mov (.t 0)),
   .op (some 100) none (.len false (.t 99)),
   .op (some 101) none (.bin .sub false [] (.t 100) (.c (.int .i64 (1)))),
   .op (some 102) none (.iaddr 1 (.t 98) (.t 101)),
   .op (some 103) none (.load false 1 (.t 102)),
   .op (some 104) none (.bin .neq false [.i] (.t 103) (.c (.int .i64 (0))))])
   (.cut
   (.cond (.t 104)
   (.seq
   (.ops [
   .op (some 105) none (.build [.int .i64 (0), .int .i64 (0)] [(0, 1, .c (.int .i64 (5))), (1, 1, .c (.int .i64 (-1)))]),
   .op none none (.store 2 (.t 2) (.t 105))])
   .ret)
   .skip)))
   (.cut
   (.seq
   (.ops [
   .op (some 106) none (.build [.int .i64 (0), .int .i64 (0)] []),
   .op none none (.store 2 (.t 2) (.t 106))])
   .ret)))))))))))))
def r_sexpr_Validate : List RVar := [.cell true 2 2]
def n_sexpr_Validate : Nat := 107
theorem k_sexpr_Validate : chkFn Go.Proofs.Try.prog 11 n_sexpr_Validate r_sexpr_Validate c_sexpr_Validate = true := by kernel_rfl
theorem f_sexpr_Validate (l : List Sx) (ho : SxsOk l) : Fc Go.Proofs.Try.prog 11 [.sl .p (l.map sxV)] (ftV (sxFault l)) := by
  by_cases hb : l.length = 0 ∨ l.length > 300
  · have e : sxFault l = ⟨2, -1⟩ := by unfold sxFault; rw [if_pos hb]
    rw [e]
    refine Fn.step mixed k_sexpr_Validate ?_
    repeat' (first | refine i_len rfl ?_ | refine i_s rfl ?_ | refine i_lenm rfl rfl rfl ?_ | refine c_seq ?_ | refine c_cut0 ?_ | refine c_ops ?_ | refine i_nil ?_ | refine e_seq ?_ | refine e_block ?_ | refine c_block ?_ | refine c_skip ?_ | refine c_ret ?_ | refine c_exit ?_ | refine e_exit rfl ?_ | refine i_s0 rfl ?_ | refine c_leaf ?_ | refine i_gt rfl ?_ | refine i_gf rfl ?_ | refine i_gd rfl ?_ | refine c_t rfl ?_ | refine c_f rfl ?_ | refine i_conv rfl (by simp only [InR, List.length_map]; omega) ?_ | refine i_add rfl rfl (by simp only [InR, List.length_map]; omega) ?_ | refine i_sub rfl rfl (by simp only [InR, List.length_map]; omega) ?_ | refine i_ixm rfl rfl (by assumption) ?_ | refine i_iai rfl rfl (by omega) (by assumption) rfl ?_ | refine i_iam rfl rfl (by assumption) rfl ?_ | refine i_tk rfl rfl (by omega) ?_ | refine i_stb rfl ?_ | refine i_alloc rfl ?_ | refine i_box rfl rfl ?_ | refine i_nv rfl ?_ | refine c_node ?_ ?_ | refine i_g rfl (fun h => ?_) (fun h => ?_) | refine c_cond rfl (fun h => ?_) (fun h => ?_))
    all_goals first
      | exact e_ret ⟨rfl, _, rfl, rfl⟩
      | (exfalso; have h1 := of_decide_eq_false h; rename_i h0; have h2 : ¬ (l.length : Int) = 0 := (by simpa using h0); omega)
  have hl : 1 ≤ l.length ∧ l.length ≤ 300 := by omega
  have hol := ho.len
  refine Fn.step mixed k_sexpr_Validate ?_
  repeat' (first | refine i_len rfl ?_ | refine i_s rfl ?_ | refine i_lenm rfl rfl rfl ?_ | refine c_seq ?_ | refine c_cut0 ?_ | refine c_ops ?_ | refine i_nil ?_ | refine e_seq ?_ | refine e_block ?_ | refine c_block ?_ | refine c_skip ?_ | refine c_ret ?_ | refine c_exit ?_ | refine e_exit rfl ?_ | refine i_s0 rfl ?_ | refine c_leaf ?_ | refine i_gt rfl ?_ | refine i_gf rfl ?_ | refine i_gd rfl ?_ | refine c_t rfl ?_ | refine c_f rfl ?_ | refine i_conv rfl (by simp only [InR, List.length_map]; omega) ?_ | refine i_add rfl rfl (by simp only [InR, List.length_map]; omega) ?_ | refine i_sub rfl rfl (by simp only [InR, List.length_map]; omega) ?_ | refine i_ixm rfl rfl (by assumption) ?_ | refine i_iai rfl rfl (by omega) (by assumption) rfl ?_ | refine i_iam rfl rfl (by assumption) rfl ?_ | refine i_tk rfl rfl (by omega) ?_ | refine i_stb rfl ?_ | refine i_alloc rfl ?_ | refine i_box rfl rfl ?_ | refine i_nv rfl ?_ | refine c_node ?_ ?_ | refine i_g rfl (fun h => ?_) (fun h => ?_) | refine c_cond rfl (fun h => ?_) (fun h => ?_))
  all_goals first
    | exact absurd (len0 h) (by omega)
    | (exfalso; have := of_decide_eq_true h; omega)
    | skip
  refine i_mks rfl rfl rfl (by omega) (by omega) (by omega) (by omega) rfl ?_
  repeat (first | refine i_len rfl ?_ | refine i_s rfl ?_ | refine i_lenm rfl rfl rfl ?_ | refine c_seq ?_ | refine c_cut0 ?_ | refine c_ops ?_ | refine i_nil ?_ | refine e_seq ?_ | refine e_block ?_ | refine c_block ?_ | refine c_skip ?_ | refine c_ret ?_ | refine c_exit ?_ | refine e_exit rfl ?_ | refine i_s0 rfl ?_ | refine c_leaf ?_ | refine i_gt rfl ?_ | refine i_gf rfl ?_ | refine i_gd rfl ?_ | refine c_t rfl ?_ | refine c_f rfl ?_ | refine i_conv rfl (by simp only [InR, List.length_map]; omega) ?_ | refine i_add rfl rfl (by simp only [InR, List.length_map]; omega) ?_ | refine i_sub rfl rfl (by simp only [InR, List.length_map]; omega) ?_ | refine i_ixm rfl rfl (by assumption) ?_ | refine i_iai rfl rfl (by omega) (by assumption) rfl ?_ | refine i_iam rfl rfl (by assumption) rfl ?_ | refine i_tk rfl rfl (by omega) ?_ | refine i_stb rfl ?_ | refine i_alloc rfl ?_ | refine i_box rfl rfl ?_ | refine i_nv rfl ?_)
  refine i_mks rfl rfl rfl (by omega) (by omega) (by omega) (by omega) rfl ?_
  repeat (first | refine i_len rfl ?_ | refine i_s rfl ?_ | refine i_lenm rfl rfl rfl ?_ | refine c_seq ?_ | refine c_cut0 ?_ | refine c_ops ?_ | refine i_nil ?_ | refine e_seq ?_ | refine e_block ?_ | refine c_block ?_ | refine c_skip ?_ | refine c_ret ?_ | refine c_exit ?_ | refine e_exit rfl ?_ | refine i_s0 rfl ?_ | refine c_leaf ?_ | refine i_gt rfl ?_ | refine i_gf rfl ?_ | refine i_gd rfl ?_ | refine c_t rfl ?_ | refine c_f rfl ?_ | refine i_conv rfl (by simp only [InR, List.length_map]; omega) ?_ | refine i_add rfl rfl (by simp only [InR, List.length_map]; omega) ?_ | refine i_sub rfl rfl (by simp only [InR, List.length_map]; omega) ?_ | refine i_ixm rfl rfl (by assumption) ?_ | refine i_iai rfl rfl (by omega) (by assumption) rfl ?_ | refine i_iam rfl rfl (by assumption) rfl ?_ | refine i_tk rfl rfl (by omega) ?_ | refine i_stb rfl ?_ | refine i_alloc rfl ?_ | refine i_box rfl rfl ?_ | refine i_nv rfl ?_)
  refine c_for l.length (fun i => [(0, .sl .p (l.map sxV)), (2, .bptr 704130 0), (3, .msl 705409 0 0 l.length), (4, .msl 705601 0 0 l.length), (26, .sl .p (l.map sxV)), (27, .int .i64 l.length), (28, .int .i64 i)])
    (fun i => [(704130, .box (.agg [.int .i64 0, .int .i64 0])), (705409, .arr 0 ((fsL l i l.length).map i64V)), (705601, .arr 0 ((dpL l i 0 l.length).map i64V))]) (fun i => ∀ j, j < i → nodeBad l j = none) all_zero
    ⟨⟨rfl, rfl, rfl, rfl, rfl, rfl, rfl, trivial⟩, ⟨rfl, by rw [fsL_zero]; rfl, by rw [dpL_zero]; rfl, trivial⟩, rfl⟩ fun i hi hp => ?_
  have hfl := fsL_len l i l.length
  have hok := okTo_of hp
  repeat (first | refine i_len rfl ?_ | refine i_s rfl ?_ | refine i_lenm rfl rfl rfl ?_ | refine c_seq ?_ | refine c_cut0 ?_ | refine c_ops ?_ | refine i_nil ?_ | refine e_seq ?_ | refine e_block ?_ | refine c_block ?_ | refine c_skip ?_ | refine c_ret ?_ | refine c_exit ?_ | refine e_exit rfl ?_ | refine i_s0 rfl ?_ | refine c_leaf ?_ | refine i_gt rfl ?_ | refine i_gf rfl ?_ | refine i_gd rfl ?_ | refine c_t rfl ?_ | refine c_f rfl ?_ | refine i_conv rfl (by simp only [InR, List.length_map]; omega) ?_ | refine i_add rfl rfl (by simp only [InR, List.length_map]; omega) ?_ | refine i_sub rfl rfl (by simp only [InR, List.length_map]; omega) ?_ | refine i_ixm rfl rfl (by assumption) ?_ | refine i_iai rfl rfl (by omega) (by assumption) rfl ?_ | refine i_iam rfl rfl (by assumption) rfl ?_ | refine i_tk rfl rfl (by omega) ?_ | refine i_stb rfl ?_ | refine i_alloc rfl ?_ | refine i_box rfl rfl ?_ | refine i_nv rfl ?_)
  refine c_cond rfl (fun h => ?_) (fun h => ?_)
  · have hlt : i < l.length := by simpa using h
    obtain ⟨x, hx⟩ := get_some hlt
    obtain ⟨b1, b2⟩ := ho.e x (mem_get hx)
    have hS := f_sexpr_shape x b1 b2
    clear h
    by_cases hsh : shapeC x ≠ 0
    · have hbad : nodeBad l i = some ⟨shapeC x, i⟩ := by unfold nodeBad; rw [hx]; simp only; rw [if_pos hsh]
      rw [sx_hit hb hlt hp hbad]
      generalize shapeC x = e at *
      clear hp hok hbad ho
      repeat' (first | refine i_len rfl ?_ | refine i_s rfl ?_ | refine i_lenm rfl rfl rfl ?_ | refine c_seq ?_ | refine c_cut0 ?_ | refine c_ops ?_ | refine i_nil ?_ | refine e_seq ?_ | refine e_block ?_ | refine c_block ?_ | refine c_skip ?_ | refine c_ret ?_ | refine c_exit ?_ | refine e_exit rfl ?_ | refine i_s0 rfl ?_ | refine c_leaf ?_ | refine i_gt rfl ?_ | refine i_gf rfl ?_ | refine i_gd rfl ?_ | refine c_t rfl ?_ | refine c_f rfl ?_ | refine i_conv rfl (by simp only [InR, List.length_map]; omega) ?_ | refine i_add rfl rfl (by simp only [InR, List.length_map]; omega) ?_ | refine i_sub rfl rfl (by simp only [InR, List.length_map]; omega) ?_ | refine i_ixm rfl rfl (by assumption) ?_ | refine i_iai rfl rfl (by omega) (by assumption) rfl ?_ | refine i_iam rfl rfl (by assumption) rfl ?_ | refine i_tk rfl rfl (by omega) ?_ | refine i_stb rfl ?_ | refine i_alloc rfl ?_ | refine i_box rfl rfl ?_ | refine i_nv rfl ?_ | refine c_node ?_ ?_ | refine i_g rfl (fun h => ?_) (fun h => ?_) | refine c_cond rfl (fun h => ?_) (fun h => ?_) | refine i_f rfl rfl (hS) rfl ?_)
      all_goals first
        | exact e_ret ⟨rfl, _, rfl, rfl⟩
        | (exfalso; have h9 : e = 0 := (by simpa using h); exact hsh h9)
    have hsh0 : shapeC x = 0 := by simpa using hsh
    rw [hsh0] at hS
    have hcl : x.ch.reverse.length = x.ch.length := List.length_reverse
    repeat (first | refine i_len rfl ?_ | refine i_s rfl ?_ | refine i_lenm rfl rfl rfl ?_ | refine c_seq ?_ | refine c_cut0 ?_ | refine c_ops ?_ | refine i_nil ?_ | refine e_seq ?_ | refine e_block ?_ | refine c_block ?_ | refine c_skip ?_ | refine c_ret ?_ | refine c_exit ?_ | refine e_exit rfl ?_ | refine i_s0 rfl ?_ | refine c_leaf ?_ | refine i_gt rfl ?_ | refine i_gf rfl ?_ | refine i_gd rfl ?_ | refine c_t rfl ?_ | refine c_f rfl ?_ | refine i_conv rfl (by simp only [InR, List.length_map]; omega) ?_ | refine i_add rfl rfl (by simp only [InR, List.length_map]; omega) ?_ | refine i_sub rfl rfl (by simp only [InR, List.length_map]; omega) ?_ | refine i_ixm rfl rfl (by assumption) ?_ | refine i_iai rfl rfl (by omega) (by assumption) rfl ?_ | refine i_iam rfl rfl (by assumption) rfl ?_ | refine i_tk rfl rfl (by omega) ?_ | refine i_stb rfl ?_ | refine i_alloc rfl ?_ | refine i_box rfl rfl ?_ | refine i_nv rfl ?_ | refine i_f rfl rfl (hS) rfl ?_)
    refine c_for x.ch.length (fun k => [(0, .sl .p (l.map sxV)), (2, .bptr 704130 0), (3, .msl 705409 0 0 l.length), (4, .msl 705601 0 0 l.length), (5, .int .i64 i), (6, .bptr 704386 0), (8, .int .i64 ((i : Int) - sumN (sz l) (x.ch.reverse.take k))), (9, .int .i64 ((x.ch.length : Int) - 1 - k)), (26, .sl .p (l.map sxV)), (27, .int .i64 l.length), (28, .int .i64 i)])
      (fun k => [(704130, .box (.agg [.int .i64 0, .int .i64 0])), (705409, .arr 0 ((fsL l i l.length).map i64V)), (705601, .arr 0 ((dpL l i (maxN (dp l) (x.ch.reverse.take k)) l.length).map i64V)), (704386, .box (sxV x))])
      (fun k => chn l i (x.ch.reverse.take k) = some ((i : Int) - sumN (sz l) (x.ch.reverse.take k))) (by simp [chn, sumN])
      ⟨⟨rfl, rfl, rfl, rfl, rfl, rfl, ?_, ?_, rfl, rfl, rfl, trivial⟩, ⟨rfl, rfl, rfl, rfl, trivial⟩, rfl⟩ fun k hk hc => ?_
    · show V.int _ _ = V.int _ _
      simp [sumN]
    · show V.int _ _ = V.int _ _
      simp
    have hmt := maxN_take (dp l) x.ch.reverse k
    have hst := sumN_take (sz l) x.ch.reverse k
    have hrl : (x.ch.reverse.take k).length = k := by rw [List.length_take]; omega
    clear hS
    repeat (first | refine i_len rfl ?_ | refine i_s rfl ?_ | refine i_lenm rfl rfl rfl ?_ | refine c_seq ?_ | refine c_cut0 ?_ | refine c_ops ?_ | refine i_nil ?_ | refine e_seq ?_ | refine e_block ?_ | refine c_block ?_ | refine c_skip ?_ | refine c_ret ?_ | refine c_exit ?_ | refine e_exit rfl ?_ | refine i_s0 rfl ?_ | refine c_leaf ?_ | refine i_gt rfl ?_ | refine i_gf rfl ?_ | refine i_gd rfl ?_ | refine c_t rfl ?_ | refine c_f rfl ?_ | refine i_conv rfl (by simp only [InR, List.length_map]; omega) ?_ | refine i_add rfl rfl (by simp only [InR, List.length_map]; omega) ?_ | refine i_sub rfl rfl (by simp only [InR, List.length_map]; omega) ?_ | refine i_ixm rfl rfl (by assumption) ?_ | refine i_iai rfl rfl (by omega) (by assumption) rfl ?_ | refine i_iam rfl rfl (by assumption) rfl ?_ | refine i_tk rfl rfl (by omega) ?_ | refine i_stb rfl ?_ | refine i_alloc rfl ?_ | refine i_box rfl rfl ?_ | refine i_nv rfl ?_)
    refine c_cond rfl (fun h => ?_) (fun h => ?_)
    · have hkl : k < x.ch.length := by have := of_decide_eq_true h; omega
      obtain ⟨c, hcr⟩ := get_some (l := x.ch.reverse) (k := k) (by omega)
      have hcx : x.ch[((x.ch.length : Int) - 1 - k).toNat]? = some c := by
        rw [List.getElem?_reverse hkl] at hcr
        rw [show ((x.ch.length : Int) - 1 - k).toNat = x.ch.length - 1 - k from by omega]; exact hcr
      have hk0 : (0 : Int) ≤ (x.ch.length : Int) - 1 - k := by omega
      have hsn := chn_snoc (l := l) (x.ch.reverse.take k) i c
      rw [← take_succ_get hcr, hc] at hsn
      simp only at hsn
      have hS1 : sumN (sz l) (x.ch.reverse.take (k + 1)) = sumN (sz l) (x.ch.reverse.take k) + sz l c.toNat := by rw [take_succ_get hcr, sumN_snoc]
      have hM1 : maxN (dp l) (x.ch.reverse.take (k + 1)) = max (maxN (dp l) (x.ch.reverse.take k)) (dp l c.toNat) := by rw [take_succ_get hcr, maxN_snoc]
      have hsb : (sumN (sz l) (x.ch.reverse.take k) : Int) ≤ 400 := by have := chn_nn hok.chs _ _ _ (by omega) (Int.le_refl _) hc; omega
      clear h
      by_cases hbd : c < 0 ∨ c ≠ (i : Int) - sumN (sz l) (x.ch.reverse.take k) - 1
      · rw [if_pos hbd] at hsn
        have hno : chn l i x.ch.reverse = none := by
          have := chn_none (l := l) (x.ch.reverse.take (k + 1)) (x.ch.reverse.drop (k + 1)) i hsn
          rwa [List.take_append_drop] at this
        have hbad : nodeBad l i = some ⟨5, i⟩ := by unfold nodeBad; rw [hx]; simp only; rw [if_neg hsh, hno]; rfl
        rw [sx_hit hb hlt hp hbad]
        clear hp hok hbad ho hsn hc hno
        generalize sumN (sz l) (x.ch.reverse.take k) = S at *
        repeat' (first | refine i_len rfl ?_ | refine i_s rfl ?_ | refine i_lenm rfl rfl rfl ?_ | refine c_seq ?_ | refine c_cut0 ?_ | refine c_ops ?_ | refine i_nil ?_ | refine e_seq ?_ | refine e_block ?_ | refine c_block ?_ | refine c_skip ?_ | refine c_ret ?_ | refine c_exit ?_ | refine e_exit rfl ?_ | refine i_s0 rfl ?_ | refine c_leaf ?_ | refine i_gt rfl ?_ | refine i_gf rfl ?_ | refine i_gd rfl ?_ | refine c_t rfl ?_ | refine c_f rfl ?_ | refine i_conv rfl (by simp only [InR, List.length_map]; omega) ?_ | refine i_add rfl rfl (by simp only [InR, List.length_map]; omega) ?_ | refine i_sub rfl rfl (by simp only [InR, List.length_map]; omega) ?_ | refine i_ixm rfl rfl (by assumption) ?_ | refine i_iai rfl rfl (by omega) (by assumption) rfl ?_ | refine i_iam rfl rfl (by assumption) rfl ?_ | refine i_tk rfl rfl (by omega) ?_ | refine i_stb rfl ?_ | refine i_alloc rfl ?_ | refine i_box rfl rfl ?_ | refine i_nv rfl ?_ | refine c_node ?_ ?_ | refine i_g rfl (fun h => ?_) (fun h => ?_) | refine c_cond rfl (fun h => ?_) (fun h => ?_))
        all_goals first
          | exact e_ret ⟨rfl, _, rfl, rfl⟩
          | (exfalso; simp at *; omega)
      · rw [if_neg hbd] at hsn
        simp only [not_or, Decidable.not_not] at hbd
        obtain ⟨hc0, hc1⟩ := hbd
        have hc0' : 0 ≤ c := by omega
        have hci : c < i := by omega
        have hg1 : ((fsL l i l.length).map i64V)[0 + c.toNat]? = some (i64V (fst_ l c.toNat)) := by rw [Nat.zero_add, List.getElem?_map, fsL_get l (by omega), if_pos (by omega)]; rfl
        have hg2 : ((dpL l i (maxN (dp l) (x.ch.reverse.take k)) l.length).map i64V)[0 + ((i : Nat) : Int).toNat]? = some (i64V (maxN (dp l) (x.ch.reverse.take k))) := by
          rw [Nat.zero_add, show ((i : Nat) : Int).toNat = i from rfl, List.getElem?_map, dpL_get l _ hlt, if_neg (by omega), if_pos rfl]; rfl
        have hg3 : ((dpL l i (maxN (dp l) (x.ch.reverse.take k)) l.length).map i64V)[0 + c.toNat]? = some (i64V (dp l c.toNat)) := by rw [Nat.zero_add, List.getElem?_map, dpL_get l _ (by omega), if_pos (by omega)]; rfl
        have hds := dpL_set l (n := l.length) (maxN (dp l) (x.ch.reverse.take k)) (maxN (dp l) (x.ch.reverse.take (k + 1))) hlt
        have hdl := dpL_len l i (maxN (dp l) (x.ch.reverse.take k)) l.length
        clear hp hok ho hc
        generalize hSg : sumN (sz l) (x.ch.reverse.take k) = S at *
        generalize hMg : maxN (dp l) (x.ch.reverse.take k) = M at *
        repeat' (first | refine i_len rfl ?_ | refine i_s rfl ?_ | refine i_lenm rfl rfl rfl ?_ | refine c_seq ?_ | refine c_cut0 ?_ | refine c_ops ?_ | refine i_nil ?_ | refine e_seq ?_ | refine e_block ?_ | refine c_block ?_ | refine c_skip ?_ | refine c_ret ?_ | refine c_exit ?_ | refine e_exit rfl ?_ | refine i_s0 rfl ?_ | refine c_leaf ?_ | refine i_gt rfl ?_ | refine i_gf rfl ?_ | refine i_gd rfl ?_ | refine c_t rfl ?_ | refine c_f rfl ?_ | refine i_conv rfl (by simp only [InR, List.length_map]; omega) ?_ | refine i_add rfl rfl (by simp only [InR, List.length_map]; omega) ?_ | refine i_sub rfl rfl (by simp only [InR, List.length_map]; omega) ?_ | refine i_ixm rfl rfl (by assumption) ?_ | refine i_iai rfl rfl (by omega) (by assumption) rfl ?_ | refine i_iam rfl rfl (by assumption) rfl ?_ | refine i_tk rfl rfl (by omega) ?_ | refine i_stb rfl ?_ | refine i_alloc rfl ?_ | refine i_box rfl rfl ?_ | refine i_nv rfl ?_ | refine c_node ?_ ?_ | refine i_g rfl (fun h => ?_) (fun h => ?_) | refine c_cond rfl (fun h => ?_) (fun h => ?_))
        all_goals first
          | (exfalso; simp at *; omega)
          | skip
        refine i_ima rfl rfl rfl rfl (by omega) (by omega) rfl ?_
        refine i_ldp rfl rfl rfl hg1 rfl ?_
        repeat (first | refine i_len rfl ?_ | refine i_s rfl ?_ | refine i_lenm rfl rfl rfl ?_ | refine c_seq ?_ | refine c_cut0 ?_ | refine c_ops ?_ | refine i_nil ?_ | refine e_seq ?_ | refine e_block ?_ | refine c_block ?_ | refine c_skip ?_ | refine c_ret ?_ | refine c_exit ?_ | refine e_exit rfl ?_ | refine i_s0 rfl ?_ | refine c_leaf ?_ | refine i_gt rfl ?_ | refine i_gf rfl ?_ | refine i_gd rfl ?_ | refine c_t rfl ?_ | refine c_f rfl ?_ | refine i_conv rfl (by simp only [InR, List.length_map]; omega) ?_ | refine i_add rfl rfl (by simp only [InR, List.length_map]; omega) ?_ | refine i_sub rfl rfl (by simp only [InR, List.length_map]; omega) ?_ | refine i_ixm rfl rfl (by assumption) ?_ | refine i_iai rfl rfl (by omega) (by assumption) rfl ?_ | refine i_iam rfl rfl (by assumption) rfl ?_ | refine i_tk rfl rfl (by omega) ?_ | refine i_stb rfl ?_ | refine i_alloc rfl ?_ | refine i_box rfl rfl ?_ | refine i_nv rfl ?_)
        refine i_ima rfl rfl rfl rfl (by omega) (by omega) rfl ?_
        refine i_ldp rfl rfl rfl hg2 rfl ?_
        repeat (first | refine i_len rfl ?_ | refine i_s rfl ?_ | refine i_lenm rfl rfl rfl ?_ | refine c_seq ?_ | refine c_cut0 ?_ | refine c_ops ?_ | refine i_nil ?_ | refine e_seq ?_ | refine e_block ?_ | refine c_block ?_ | refine c_skip ?_ | refine c_ret ?_ | refine c_exit ?_ | refine e_exit rfl ?_ | refine i_s0 rfl ?_ | refine c_leaf ?_ | refine i_gt rfl ?_ | refine i_gf rfl ?_ | refine i_gd rfl ?_ | refine c_t rfl ?_ | refine c_f rfl ?_ | refine i_conv rfl (by simp only [InR, List.length_map]; omega) ?_ | refine i_add rfl rfl (by simp only [InR, List.length_map]; omega) ?_ | refine i_sub rfl rfl (by simp only [InR, List.length_map]; omega) ?_ | refine i_ixm rfl rfl (by assumption) ?_ | refine i_iai rfl rfl (by omega) (by assumption) rfl ?_ | refine i_iam rfl rfl (by assumption) rfl ?_ | refine i_tk rfl rfl (by omega) ?_ | refine i_stb rfl ?_ | refine i_alloc rfl ?_ | refine i_box rfl rfl ?_ | refine i_nv rfl ?_)
        refine i_ima rfl rfl rfl rfl (by omega) (by omega) rfl ?_
        refine i_ldp rfl rfl rfl hg3 rfl ?_
        repeat (first | refine i_len rfl ?_ | refine i_s rfl ?_ | refine i_lenm rfl rfl rfl ?_ | refine c_seq ?_ | refine c_cut0 ?_ | refine c_ops ?_ | refine i_nil ?_ | refine e_seq ?_ | refine e_block ?_ | refine c_block ?_ | refine c_skip ?_ | refine c_ret ?_ | refine c_exit ?_ | refine e_exit rfl ?_ | refine i_s0 rfl ?_ | refine c_leaf ?_ | refine i_gt rfl ?_ | refine i_gf rfl ?_ | refine i_gd rfl ?_ | refine c_t rfl ?_ | refine c_f rfl ?_ | refine i_conv rfl (by simp only [InR, List.length_map]; omega) ?_ | refine i_add rfl rfl (by simp only [InR, List.length_map]; omega) ?_ | refine i_sub rfl rfl (by simp only [InR, List.length_map]; omega) ?_ | refine i_ixm rfl rfl (by assumption) ?_ | refine i_iai rfl rfl (by omega) (by assumption) rfl ?_ | refine i_iam rfl rfl (by assumption) rfl ?_ | refine i_tk rfl rfl (by omega) ?_ | refine i_stb rfl ?_ | refine i_alloc rfl ?_ | refine i_box rfl rfl ?_ | refine i_nv rfl ?_)
        refine i_max rfl rfl rfl ?_
        refine i_ima rfl rfl rfl rfl (by omega) (by omega) rfl ?_
        refine i_sti rfl rfl rfl rfl rfl (by rw [hdl]; omega) ?_
        repeat (first | refine i_len rfl ?_ | refine i_s rfl ?_ | refine i_lenm rfl rfl rfl ?_ | refine c_seq ?_ | refine c_cut0 ?_ | refine c_ops ?_ | refine i_nil ?_ | refine e_seq ?_ | refine e_block ?_ | refine c_block ?_ | refine c_skip ?_ | refine c_ret ?_ | refine c_exit ?_ | refine e_exit rfl ?_ | refine i_s0 rfl ?_ | refine c_leaf ?_ | refine i_gt rfl ?_ | refine i_gf rfl ?_ | refine i_gd rfl ?_ | refine c_t rfl ?_ | refine c_f rfl ?_ | refine i_conv rfl (by simp only [InR, List.length_map]; omega) ?_ | refine i_add rfl rfl (by simp only [InR, List.length_map]; omega) ?_ | refine i_sub rfl rfl (by simp only [InR, List.length_map]; omega) ?_ | refine i_ixm rfl rfl (by assumption) ?_ | refine i_iai rfl rfl (by omega) (by assumption) rfl ?_ | refine i_iam rfl rfl (by assumption) rfl ?_ | refine i_tk rfl rfl (by omega) ?_ | refine i_stb rfl ?_ | refine i_alloc rfl ?_ | refine i_box rfl rfl ?_ | refine i_nv rfl ?_)
        refine e_for hkl (by rw [hsn, hS1]; congr 1; omega) ⟨⟨rfl, rfl, rfl, rfl, rfl, rfl, ?_, ?_, rfl, rfl, rfl, trivial⟩, ⟨rfl, rfl, ?_, rfl, trivial⟩, rfl⟩
        · show V.int _ _ = V.int _ _
          congr 1
          rw [hS1]
          unfold fst_
          omega
        · show V.int _ _ = V.int _ _
          congr 1
          omega
        · have hmx : ((max M (dp l c.toNat) : Nat) : Int) = if (dp l c.toNat : Int) > (M : Int) then (dp l c.toNat : Int) else (M : Int) := by split <;> omega
          refine congrArg (Blk.arr 0) ?_
          rw [Nat.zero_add, show ((i : Nat) : Int).toNat = i from rfl, ← hmx, ← hM1]
          exact congrArg (List.map i64V) hds
    · have hkl : k = x.ch.length := by have := of_decide_eq_false h; omega
      subst hkl
      rw [show x.ch.reverse.take x.ch.length = x.ch.reverse from by rw [← hcl, List.take_length]] at *
      rw [sumN_rev, maxN_rev] at *
      have hch1 := chTo_succ hok hx hc
      have hlow := hch1.low
      have hsz := sz_eq hlow
      have hdp := dp_eq hlow
      have hle := sz_leC i (i + 1) hch1 (by omega)
      have hdle := dp_le i (i + 1) hlow (by omega)
      rw [chL_get hx] at hsz hdp
      have hat : (i : Int) - (sumN (sz l) x.ch : Nat) = fst_ l i := by unfold fst_; omega
      rw [hat]
      have hfs := fsL_set l (n := l.length) hlt
      have hds := dpL_set l (n := l.length) (maxN (dp l) x.ch : Nat) (dp l i) hlt
      have hdl := dpL_len l i ((maxN (dp l) x.ch : Nat) : Int) l.length
      have hdl2 := dpL_len l i (dp l i) l.length
      have hg2 : ((dpL l i (maxN (dp l) x.ch : Nat) l.length).map i64V)[0 + ((i : Nat) : Int).toNat]? = some (i64V (maxN (dp l) x.ch : Nat)) := by
        rw [Nat.zero_add, show ((i : Nat) : Int).toNat = i from rfl, List.getElem?_map, dpL_get l _ hlt, if_neg (by omega), if_pos rfl]; rfl
      have hg3 : ((dpL l i (dp l i) l.length).map i64V)[0 + ((i : Nat) : Int).toNat]? = some (i64V (dp l i)) := by
        rw [Nat.zero_add, show ((i : Nat) : Int).toNat = i from rfl, List.getElem?_map, dpL_get l _ hlt, if_neg (by omega), if_pos rfl]; rfl
      clear h
      repeat (first | refine i_len rfl ?_ | refine i_s rfl ?_ | refine i_lenm rfl rfl rfl ?_ | refine c_seq ?_ | refine c_cut0 ?_ | refine c_ops ?_ | refine i_nil ?_ | refine e_seq ?_ | refine e_block ?_ | refine c_block ?_ | refine c_skip ?_ | refine c_ret ?_ | refine c_exit ?_ | refine e_exit rfl ?_ | refine i_s0 rfl ?_ | refine c_leaf ?_ | refine i_gt rfl ?_ | refine i_gf rfl ?_ | refine i_gd rfl ?_ | refine c_t rfl ?_ | refine c_f rfl ?_ | refine i_conv rfl (by simp only [InR, List.length_map]; omega) ?_ | refine i_add rfl rfl (by simp only [InR, List.length_map]; omega) ?_ | refine i_sub rfl rfl (by simp only [InR, List.length_map]; omega) ?_ | refine i_ixm rfl rfl (by assumption) ?_ | refine i_iai rfl rfl (by omega) (by assumption) rfl ?_ | refine i_iam rfl rfl (by assumption) rfl ?_ | refine i_tk rfl rfl (by omega) ?_ | refine i_stb rfl ?_ | refine i_alloc rfl ?_ | refine i_box rfl rfl ?_ | refine i_nv rfl ?_)
      refine i_ima rfl rfl rfl rfl (by omega) (by omega) rfl ?_
      refine i_sti rfl rfl rfl rfl rfl (by rw [hfl]; omega) ?_
      rw [show (0 : Nat) + ((i : Nat) : Int).toNat = i from Nat.zero_add i, hfs]
      repeat (first | refine i_len rfl ?_ | refine i_s rfl ?_ | refine i_lenm rfl rfl rfl ?_ | refine c_seq ?_ | refine c_cut0 ?_ | refine c_ops ?_ | refine i_nil ?_ | refine e_seq ?_ | refine e_block ?_ | refine c_block ?_ | refine c_skip ?_ | refine c_ret ?_ | refine c_exit ?_ | refine e_exit rfl ?_ | refine i_s0 rfl ?_ | refine c_leaf ?_ | refine i_gt rfl ?_ | refine i_gf rfl ?_ | refine i_gd rfl ?_ | refine c_t rfl ?_ | refine c_f rfl ?_ | refine i_conv rfl (by simp only [InR, List.length_map]; omega) ?_ | refine i_add rfl rfl (by simp only [InR, List.length_map]; omega) ?_ | refine i_sub rfl rfl (by simp only [InR, List.length_map]; omega) ?_ | refine i_ixm rfl rfl (by assumption) ?_ | refine i_iai rfl rfl (by omega) (by assumption) rfl ?_ | refine i_iam rfl rfl (by assumption) rfl ?_ | refine i_tk rfl rfl (by omega) ?_ | refine i_stb rfl ?_ | refine i_alloc rfl ?_ | refine i_box rfl rfl ?_ | refine i_nv rfl ?_)
      refine i_ima rfl rfl rfl rfl (by omega) (by omega) rfl ?_
      refine i_ldp rfl rfl rfl hg2 rfl ?_
      repeat (first | refine i_len rfl ?_ | refine i_s rfl ?_ | refine i_lenm rfl rfl rfl ?_ | refine c_seq ?_ | refine c_cut0 ?_ | refine c_ops ?_ | refine i_nil ?_ | refine e_seq ?_ | refine e_block ?_ | refine c_block ?_ | refine c_skip ?_ | refine c_ret ?_ | refine c_exit ?_ | refine e_exit rfl ?_ | refine i_s0 rfl ?_ | refine c_leaf ?_ | refine i_gt rfl ?_ | refine i_gf rfl ?_ | refine i_gd rfl ?_ | refine c_t rfl ?_ | refine c_f rfl ?_ | refine i_conv rfl (by simp only [InR, List.length_map]; omega) ?_ | refine i_add rfl rfl (by simp only [InR, List.length_map]; omega) ?_ | refine i_sub rfl rfl (by simp only [InR, List.length_map]; omega) ?_ | refine i_ixm rfl rfl (by assumption) ?_ | refine i_iai rfl rfl (by omega) (by assumption) rfl ?_ | refine i_iam rfl rfl (by assumption) rfl ?_ | refine i_tk rfl rfl (by omega) ?_ | refine i_stb rfl ?_ | refine i_alloc rfl ?_ | refine i_box rfl rfl ?_ | refine i_nv rfl ?_)
      refine i_ima rfl rfl rfl rfl (by omega) (by omega) rfl ?_
      refine i_sti rfl rfl rfl rfl rfl (by rw [hdl]; omega) ?_
      rw [show (0 : Nat) + ((i : Nat) : Int).toNat = i from Nat.zero_add i, show ((maxN (dp l) x.ch : Nat) : Int) + 1 = (dp l i : Int) from by omega, hds]
      repeat (first | refine i_len rfl ?_ | refine i_s rfl ?_ | refine i_lenm rfl rfl rfl ?_ | refine c_seq ?_ | refine c_cut0 ?_ | refine c_ops ?_ | refine i_nil ?_ | refine e_seq ?_ | refine e_block ?_ | refine c_block ?_ | refine c_skip ?_ | refine c_ret ?_ | refine c_exit ?_ | refine e_exit rfl ?_ | refine i_s0 rfl ?_ | refine c_leaf ?_ | refine i_gt rfl ?_ | refine i_gf rfl ?_ | refine i_gd rfl ?_ | refine c_t rfl ?_ | refine c_f rfl ?_ | refine i_conv rfl (by simp only [InR, List.length_map]; omega) ?_ | refine i_add rfl rfl (by simp only [InR, List.length_map]; omega) ?_ | refine i_sub rfl rfl (by simp only [InR, List.length_map]; omega) ?_ | refine i_ixm rfl rfl (by assumption) ?_ | refine i_iai rfl rfl (by omega) (by assumption) rfl ?_ | refine i_iam rfl rfl (by assumption) rfl ?_ | refine i_tk rfl rfl (by omega) ?_ | refine i_stb rfl ?_ | refine i_alloc rfl ?_ | refine i_box rfl rfl ?_ | refine i_nv rfl ?_)
      refine i_ima rfl rfl rfl rfl (by omega) (by omega) rfl ?_
      refine i_ldp rfl rfl rfl hg3 rfl ?_
      repeat (first | refine i_len rfl ?_ | refine i_s rfl ?_ | refine i_lenm rfl rfl rfl ?_ | refine c_seq ?_ | refine c_cut0 ?_ | refine c_ops ?_ | refine i_nil ?_ | refine e_seq ?_ | refine e_block ?_ | refine c_block ?_ | refine c_skip ?_ | refine c_ret ?_ | refine c_exit ?_ | refine e_exit rfl ?_ | refine i_s0 rfl ?_ | refine c_leaf ?_ | refine i_gt rfl ?_ | refine i_gf rfl ?_ | refine i_gd rfl ?_ | refine c_t rfl ?_ | refine c_f rfl ?_ | refine i_conv rfl (by simp only [InR, List.length_map]; omega) ?_ | refine i_add rfl rfl (by simp only [InR, List.length_map]; omega) ?_ | refine i_sub rfl rfl (by simp only [InR, List.length_map]; omega) ?_ | refine i_ixm rfl rfl (by assumption) ?_ | refine i_iai rfl rfl (by omega) (by assumption) rfl ?_ | refine i_iam rfl rfl (by assumption) rfl ?_ | refine i_tk rfl rfl (by omega) ?_ | refine i_stb rfl ?_ | refine i_alloc rfl ?_ | refine i_box rfl rfl ?_ | refine i_nv rfl ?_)
      refine c_cond rfl (fun h => ?_) (fun h => ?_)
      · have hd12 : dp l i > 12 := by have := of_decide_eq_true h; omega
        have hbad : nodeBad l i = some ⟨10, i⟩ := by unfold nodeBad; rw [hx]; simp only; rw [if_neg hsh, hc, if_neg (by simp), if_pos hd12]
        rw [sx_hit hb hlt hp hbad]
        clear hp hok hbad ho
        repeat' (first | refine i_len rfl ?_ | refine i_s rfl ?_ | refine i_lenm rfl rfl rfl ?_ | refine c_seq ?_ | refine c_cut0 ?_ | refine c_ops ?_ | refine i_nil ?_ | refine e_seq ?_ | refine e_block ?_ | refine c_block ?_ | refine c_skip ?_ | refine c_ret ?_ | refine c_exit ?_ | refine e_exit rfl ?_ | refine i_s0 rfl ?_ | refine c_leaf ?_ | refine i_gt rfl ?_ | refine i_gf rfl ?_ | refine i_gd rfl ?_ | refine c_t rfl ?_ | refine c_f rfl ?_ | refine i_conv rfl (by simp only [InR, List.length_map]; omega) ?_ | refine i_add rfl rfl (by simp only [InR, List.length_map]; omega) ?_ | refine i_sub rfl rfl (by simp only [InR, List.length_map]; omega) ?_ | refine i_ixm rfl rfl (by assumption) ?_ | refine i_iai rfl rfl (by omega) (by assumption) rfl ?_ | refine i_iam rfl rfl (by assumption) rfl ?_ | refine i_tk rfl rfl (by omega) ?_ | refine i_stb rfl ?_ | refine i_alloc rfl ?_ | refine i_box rfl rfl ?_ | refine i_nv rfl ?_ | refine c_node ?_ ?_ | refine i_g rfl (fun h => ?_) (fun h => ?_) | refine c_cond rfl (fun h => ?_) (fun h => ?_))
        exact e_ret ⟨rfl, _, rfl, rfl⟩
      · have hd12 : dp l i ≤ 12 := by have := of_decide_eq_false h; omega
        have hgood : nodeBad l i = none := (nodeBad_none hx).2 ⟨hsh0, ⟨_, hc⟩, hd12⟩
        have hnx := dpL_next l (i := i) (n := l.length)
        clear h
        repeat (first | refine i_len rfl ?_ | refine i_s rfl ?_ | refine i_lenm rfl rfl rfl ?_ | refine c_seq ?_ | refine c_cut0 ?_ | refine c_ops ?_ | refine i_nil ?_ | refine e_seq ?_ | refine e_block ?_ | refine c_block ?_ | refine c_skip ?_ | refine c_ret ?_ | refine c_exit ?_ | refine e_exit rfl ?_ | refine i_s0 rfl ?_ | refine c_leaf ?_ | refine i_gt rfl ?_ | refine i_gf rfl ?_ | refine i_gd rfl ?_ | refine c_t rfl ?_ | refine c_f rfl ?_ | refine i_conv rfl (by simp only [InR, List.length_map]; omega) ?_ | refine i_add rfl rfl (by simp only [InR, List.length_map]; omega) ?_ | refine i_sub rfl rfl (by simp only [InR, List.length_map]; omega) ?_ | refine i_ixm rfl rfl (by assumption) ?_ | refine i_iai rfl rfl (by omega) (by assumption) rfl ?_ | refine i_iam rfl rfl (by assumption) rfl ?_ | refine i_tk rfl rfl (by omega) ?_ | refine i_stb rfl ?_ | refine i_alloc rfl ?_ | refine i_box rfl rfl ?_ | refine i_nv rfl ?_)
        refine e_for hlt (all_succ hp hgood) ⟨⟨rfl, rfl, rfl, rfl, rfl, rfl, rfl, trivial⟩, ⟨rfl, rfl, ?_, trivial⟩, rfl⟩
        rw [← hnx]; rfl
  · have hge : i = l.length := by have : ¬ i < l.length := by simpa using h
                                  omega
    subst hge
    rw [sx_all hb hp]
    have hok2 := hok
    have hle := sz_leC (l.length - 1) l.length hok.chs (by omega)
    have hg : ((fsL l l.length l.length).map i64V)[0 + ((l.length : Int) - 1).toNat]? = some (i64V (fst_ l (l.length - 1))) := by
      rw [Nat.zero_add, show ((l.length : Int) - 1).toNat = l.length - 1 from by omega, List.getElem?_map, fsL_get l (by omega), if_pos (by omega)]; rfl
    clear h hp hok hok2
    repeat (first | refine i_len rfl ?_ | refine i_s rfl ?_ | refine i_lenm rfl rfl rfl ?_ | refine c_seq ?_ | refine c_cut0 ?_ | refine c_ops ?_ | refine i_nil ?_ | refine e_seq ?_ | refine e_block ?_ | refine c_block ?_ | refine c_skip ?_ | refine c_ret ?_ | refine c_exit ?_ | refine e_exit rfl ?_ | refine i_s0 rfl ?_ | refine c_leaf ?_ | refine i_gt rfl ?_ | refine i_gf rfl ?_ | refine i_gd rfl ?_ | refine c_t rfl ?_ | refine c_f rfl ?_ | refine i_conv rfl (by simp only [InR, List.length_map]; omega) ?_ | refine i_add rfl rfl (by simp only [InR, List.length_map]; omega) ?_ | refine i_sub rfl rfl (by simp only [InR, List.length_map]; omega) ?_ | refine i_ixm rfl rfl (by assumption) ?_ | refine i_iai rfl rfl (by omega) (by assumption) rfl ?_ | refine i_iam rfl rfl (by assumption) rfl ?_ | refine i_tk rfl rfl (by omega) ?_ | refine i_stb rfl ?_ | refine i_alloc rfl ?_ | refine i_box rfl rfl ?_ | refine i_nv rfl ?_)
    refine i_ima rfl rfl rfl rfl (by omega) (by omega) rfl ?_
    refine i_ldp rfl rfl rfl hg rfl ?_
    have hf : fst_ l (l.length - 1) = (l.length : Int) - sz l (l.length - 1) := by unfold fst_; omega
    rw [hf]
    repeat' (first | refine i_len rfl ?_ | refine i_s rfl ?_ | refine i_lenm rfl rfl rfl ?_ | refine c_seq ?_ | refine c_cut0 ?_ | refine c_ops ?_ | refine i_nil ?_ | refine e_seq ?_ | refine e_block ?_ | refine c_block ?_ | refine c_skip ?_ | refine c_ret ?_ | refine c_exit ?_ | refine e_exit rfl ?_ | refine i_s0 rfl ?_ | refine c_leaf ?_ | refine i_gt rfl ?_ | refine i_gf rfl ?_ | refine i_gd rfl ?_ | refine c_t rfl ?_ | refine c_f rfl ?_ | refine i_conv rfl (by simp only [InR, List.length_map]; omega) ?_ | refine i_add rfl rfl (by simp only [InR, List.length_map]; omega) ?_ | refine i_sub rfl rfl (by simp only [InR, List.length_map]; omega) ?_ | refine i_ixm rfl rfl (by assumption) ?_ | refine i_iai rfl rfl (by omega) (by assumption) rfl ?_ | refine i_iam rfl rfl (by assumption) rfl ?_ | refine i_tk rfl rfl (by omega) ?_ | refine i_stb rfl ?_ | refine i_alloc rfl ?_ | refine i_box rfl rfl ?_ | refine i_nv rfl ?_ | refine c_node ?_ ?_ | refine i_g rfl (fun h => ?_) (fun h => ?_) | refine c_cond rfl (fun h => ?_) (fun h => ?_))
    · have h1 : sz l (l.length - 1) ≠ l.length := fun e => by rw [e] at h; simp at h
      rw [if_pos h1]
      exact e_ret ⟨rfl, _, rfl, rfl⟩
    · have h1 : ¬ sz l (l.length - 1) ≠ l.length := by have : (l.length : Int) - sz l (l.length - 1) = 0 := by simpa using h
                                                       omega
      rw [if_neg h1]
      exact e_ret ⟨rfl, _, rfl, rfl⟩
end Hm
end

section
/- Contract: the reference's validation of expressions. -/
namespace Hm
open Go
set_option maxRecDepth 100000
set_option maxHeartbeats 4000000
set_option linter.unusedSimpArgs false
set_option linter.unusedVariables false
theorem sym_ne {s : List UInt8} (h : s ≠ []) : (s == []) = false := by cases s with
  | nil => exact absurd rfl h
  | cons a r => rfl
def c_R1_SexprFault : Cmd :=
  (.seq
   (.ops [
   .op (some 2) none (.alloc 576130 (.agg [.int .i64 (0), .int .i64 (0)]))])
   (.cut
   (.seq
   (.seq
   (.ops [
   .op (some 7) none (.mov (.t 0)),
   .op (some 8) none (.len false (.t 7)),
   .op (some 9) none (.call .f (.c (.fn 18 [])) [.t 8, .c (.int .i64 (1)), .c (.int .i64 (300))]),
   .op (some 10) none (.not (.t 9))])
   (.cut
   (.cond (.t 10)
   (.seq
   (.ops [
   .op (some 11) none (.call .f (.c (.fn 17 [])) [.c (.int .i64 (2)), .c (.int .i64 (-1))]),
   .op none none (.store 2 (.t 2) (.t 11))])
   .ret)
   .skip)))
   (.cut
   (.seq
   (.seq
   (.ops [
   .op (some 3) none (.mov (.c (.int .i64 (0))))])
   (.cut
   (.block 0
   (.loop
   (.seq
   (.seq
   (.ops [
   .op (some 12) none (.mov (.t 3)),
   .op (some 13) none (.mov (.t 0)),
   .op (some 14) none (.len false (.t 13)),
   .op (some 15) none (.bin .lss false [] (.t 12) (.t 14))])
   (.cut
   (.cond (.t 15)
   .skip
   (.exit 0))))
   (.cut
   (.seq
   (.block 1
   (.seq
   (.seq
   (.ops [
   .op (some 18) none (.mov (.t 0)),
   .op (some 19) none (.mov (.t 3)),
   .op (some 20) none (.iaddr 2 (.t 18) (.t 19)),
   .op (some 21) none (.faddr 0 (.t 20)),
   .op (some 22) none (.load false 1 (.t 21)),
   .op (some 23) none (.bin .neq false [.s] (.t 22) (.c (.str []))),
   .op (some 24) none (.mov (.t 23)),
   .op (some 25) (some (24, true)) (.mov (.t 0)),
   .op (some 26) (some (24, true)) (.mov (.t 3)),
   .op (some 27) (some (24, true)) (.iaddr 2 (.t 25) (.t 26)),
   .op (some 28) (some (24, true)) (.faddr 0 (.t 27)),
   .op (some 29) (some (24, true)) (.load false 1 (.t 28)),
   .op (some 30) (some (24, true)) (.call .f (.c (.fn 19 [])) [.t 29]),
   .op (some 31) (some (24, true)) (.not (.t 30)),
   .op (some 32) none (.pick (.t 24) (.t 31) (.c (.bool false)))])
   (.cut
   (.cond (.t 32)
   (.seq
   (.ops [
   .op (some 33) none (.mov (.t 3)),
   .op (some 34) none (.call .f (.c (.fn 17 [])) [.c (.int .i64 (12)), .t 33]),
   .op none none (.store 2 (.t 2) (.t 34))])
   .ret)
   .skip)))
   (.cut
   (.seq
   (.seq
   (.ops [
   .op (some 35) none (.mov (.t 0)),
   .op (some 36) none (.mov (.t 3)),
   .op (some 37) none (.iaddr 2 (.t 35) (.t 36)),
   .op (some 38) none (.faddr 0 (.t 37)),
   .op (some 39) none (.load false 1 (.t 38)),
   .op (some 40) none (.bin .neq false [.s] (.t 39) (.c (.str []))),
   .op (some 41) none (.mov (.t 40)),
   .op (some 42) (some (41, true)) (.mov (.t 0)),
   .op (some 43) (some (41, true)) (.mov (.t 3)),
   .op (some 44) (some (41, true)) (.iaddr 2 (.t 42) (.t 43)),
   .op (some 45) (some (41, true)) (.faddr 1 (.t 44)),
   .op (some 46) (some (41, true)) (.load false 1 (.t 45)),
   .op (some 47) (some (41, true)) (.len false (.t 46)),
   .op (some 48) (some (41, true)) (.bin .gtr false [] (.t 47) (.c (.int .i64 (0)))),
   .op (some 49) none (.pick (.t 41) (.t 48) (.c (.bool false)))])
   (.cut
   (.cond (.t 49)
   (.seq
   (.ops [
   .op (some 50) none (.mov (.t 3)),
   .op (some 51) none (.call .f (.c (.fn 17 [])) [.c (.int .i64 (5)), .t 50]),
   .op none none (.store 2 (.t 2) (.t 51))])
   .ret)
   .skip)))
   (.cut
   (.seq
   (.ops [
   .op (some 52) none (.mov (.t 3)),
   .op (some 4) none (.mov (.t 52))])
   (.cut
   (.seq
   (.seq
   (.ops [
   .op (some 53) none (.mov (.t 0)),
   .op (some 54) none (.mov (.t 3)),
   .op (some 55) none (.iaddr 2 (.t 53) (.t 54)),
   .op (some 56) none (.faddr 1 (.t 55)),
   .op (some 57) none (.load false 1 (.t 56)),
   .op (some 58) none (.len false (.t 57)),
   .op (some 59) none (.bin .sub false [] (.t 58) (.c (.int .i64 (1)))),
   .op (some 5) none (.mov (.t 59))])
   (.cut
   (.block 2
   (.loop
   (.seq
   (.seq
   (.ops [
   .op (some 60) none (.mov (.t 5)),
   .op (some 61) none (.bin .geq false [] (.t 60) (.c (.int .i64 (0))))])
   (.cut
   (.cond (.t 61)
   .skip
   (.exit 2))))
   (.cut
   (.seq
   (.block 3
   (.seq
   (.ops [
   .op (some 64) none (.mov (.t 0)),
   .op (some 65) none (.mov (.t 3)),
   .op (some 66) none (.iaddr 2 (.t 64) (.t 65)),
   .op (some 67) none (.faddr 1 (.t 66)),
   .op (some 68) none (.load false 1 (.t 67)),
   .op (some 69) none (.mov (.t 5)),
   .op (some 70) none (.iaddr 1 (.t 68) (.t 69)),
   .op (some 71) none (.load false 1 (.t 70)),
   .op (some 6) none (.mov (.t 71))])
   (.cut
   (.seq
   (.seq
   (.ops [
   .op (some 72) none (.mov (.t 6)),
   .op (some 73) none (.bin .lss false [] (.t 72) (.c (.int .i64 (0)))),
   .op (some 74) none (.mov (.t 73)),
   .op (some 75) (some (74, false)) (.mov (.t 6)),
   .op (some 76) (some (74, false)) (.bin .add false [] (.t 75) (.c (.int .i64 (1)))),
   .op (some 77) (some (74, false)) (.mov (.t 4)),
   .op (some 78) (some (74, false)) (.bin .neq false [.i] (.t 76) (.t 77)),
   .op (some 79) none (.pick (.t 74) (.c (.bool true)) (.t 78))])
   (.cut
   (.cond (.t 79)
   (.seq
   (.ops [
   .op (some 80) none (.mov (.t 3)),
   .op (some 81) none (.call .f (.c (.fn 17 [])) [.c (.int .i64 (5)), .t 80]),
   .op none none (.store 2 (.t 2) (.t 81))])
   .ret)
   .skip)))
   (.cut
   (.ops [
   .op (some 82) none (.mov (.t 4)),
   .op (some 83) none (.mov (.t 0)),
   .op (some 84) none (.mov (.t 6)),
   .op (some 85) none (.call .f (.c (.fn 20 [])) [.t 83, .t 84]),
   .op (some 86) none (.bin .sub false [] (.t 82) (.t 85)),
   .op (some 4) none (.mov (.t 86))]))))))
   (.cut
   (.ops [
   .op (some 62) none (.mov (.t 5)),
   .op (some 63) none (.bin .sub false [] (.t 62) (.c (.int .i64 (1)))),
   .op (some 5) none (.mov (.t 63))])))))))))
   (.cut
   (.seq
   (.ops [
   .op (some 87) none (.mov (.t 0)),
   .op (some 88) none (.mov (.t 3)),
   .op (some 89) none (.call .f (.c (.fn 21 [])) [.t 87, .t 88]),
   .op (some 90) none (.bin .gtr false [] (.t 89) (.c (.int .i64 (12))))])
   (.cut
   (.cond (.t 90)
   (.seq
   (.ops [
   .op (some 91) none (.mov (.t 3)),
   .op (some 92) none (.call .f (.c (.fn 17 [])) [.c (.int .i64 (10)), .t 91]),
   .op none none (.store 2 (.t 2) (.t 92))])
   .ret)
   .skip))))))))))))
   (.cut
   (.ops [
   .op (some 16) none (.mov (.t 3)),
   .op (some 17) none (.bin .add false [] (.t 16) (.c (.int .i64 (1)))),
   .op (some 3) none (.mov (.t 17))])))))))))
   (.cut
   (.seq
   (.seq
   (.ops [
   .op (some 93) none (.mov (.t 0)),
   .op (some 94) none (.mov (.t 0)),
   .op (some 95) none (.len false (.t 94)),
   .op (some 96) none (.bin .sub false [] (.t 95) (.c (.int .i64 (1)))),
   .op (some 97) none (.call .f (.c (.fn 20 [])) [.t 93, .t 96]),
   .op (some 98) none (.mov (.t 0)),
   .op (some 99) none (.len false (.t 98)),
   .op (some 100) none (.bin .neq false [.i] (.t 97) (.t 99))])
   (.cut
   (.cond (.t 100)
   (.seq
   (.ops [
   .op (some 101) none (.call .f (.c (.fn 17 [])) [.c (.int .i64 (5)), .c (.int .i64 (-1))]),
   .op none none (.store 2 (.t 2) (.t 101))])
   .ret)
   .skip)))
   (.cut
   (.seq
   (.ops [
   .op (some 102) none (.build [.int .i64 (0), .int .i64 (0)] []),
   .op none none (.store 2 (.t 2) (.t 102))])
   .ret)))))))))
def r_R1_SexprFault : List RVar := [.cell true 2 2]
def n_R1_SexprFault : Nat := 103
theorem k_R1_SexprFault : chkFn Go.Proofs.Try.prog 9 n_R1_SexprFault r_R1_SexprFault c_R1_SexprFault = true := by kernel_rfl
theorem f_R1_SexprFault (l : List Sx) (ho : SxsOk l) : Fc Go.Proofs.Try.prog 9 [.sl .p (l.map sxV)] (ftV (sxFault l)) := by
  have hI := f_R1_In l.length 1 300
  by_cases hb : l.length = 0 ∨ l.length > 300
  · have e : sxFault l = ⟨2, -1⟩ := by unfold sxFault; rw [if_pos hb]
    rw [e]
    rw [show (decide ((1 : Int) ≤ l.length) && decide ((l.length : Int) ≤ 300)) = false from by rw [Bool.and_eq_false_iff]; rcases hb with h | h <;> simp <;> omega] at hI
    refine Fn.step mixed k_R1_SexprFault ?_
    repeat' (first | refine i_len rfl ?_ | refine i_s rfl ?_ | refine i_lenm rfl rfl rfl ?_ | refine c_seq ?_ | refine c_cut0 ?_ | refine c_ops ?_ | refine i_nil ?_ | refine e_seq ?_ | refine e_block ?_ | refine c_block ?_ | refine c_skip ?_ | refine c_ret ?_ | refine c_exit ?_ | refine e_exit rfl ?_ | refine i_s0 rfl ?_ | refine c_leaf ?_ | refine i_gt rfl ?_ | refine i_gf rfl ?_ | refine i_gd rfl ?_ | refine c_t rfl ?_ | refine c_f rfl ?_ | refine i_conv rfl (by simp only [InR, List.length_map]; omega) ?_ | refine i_add rfl rfl (by simp only [InR, List.length_map]; omega) ?_ | refine i_sub rfl rfl (by simp only [InR, List.length_map]; omega) ?_ | refine i_ixm rfl rfl (by assumption) ?_ | refine i_iai rfl rfl (by omega) (by assumption) rfl ?_ | refine i_iam rfl rfl (by assumption) rfl ?_ | refine i_tk rfl rfl (by omega) ?_ | refine i_stb rfl ?_ | refine i_alloc rfl ?_ | refine i_box rfl rfl ?_ | refine i_nv rfl ?_ | refine c_node ?_ ?_ | refine i_g rfl (fun h => ?_) (fun h => ?_) | refine c_cond rfl (fun h => ?_) (fun h => ?_) | refine i_f rfl rfl (hI) rfl ?_ | refine i_f rfl rfl (f_R1_At _ _) rfl ?_)
    exact e_ret ⟨rfl, _, rfl, rfl⟩
  have hl : 1 ≤ l.length ∧ l.length ≤ 300 := by omega
  have hol := ho.len
  rw [show (decide ((1 : Int) ≤ l.length) && decide ((l.length : Int) ≤ 300)) = true from by rw [Bool.and_eq_true]; simp; omega] at hI
  refine Fn.step mixed k_R1_SexprFault ?_
  repeat' (first | refine i_len rfl ?_ | refine i_s rfl ?_ | refine i_lenm rfl rfl rfl ?_ | refine c_seq ?_ | refine c_cut0 ?_ | refine c_ops ?_ | refine i_nil ?_ | refine e_seq ?_ | refine e_block ?_ | refine c_block ?_ | refine c_skip ?_ | refine c_ret ?_ | refine c_exit ?_ | refine e_exit rfl ?_ | refine i_s0 rfl ?_ | refine c_leaf ?_ | refine i_gt rfl ?_ | refine i_gf rfl ?_ | refine i_gd rfl ?_ | refine c_t rfl ?_ | refine c_f rfl ?_ | refine i_conv rfl (by simp only [InR, List.length_map]; omega) ?_ | refine i_add rfl rfl (by simp only [InR, List.length_map]; omega) ?_ | refine i_sub rfl rfl (by simp only [InR, List.length_map]; omega) ?_ | refine i_ixm rfl rfl (by assumption) ?_ | refine i_iai rfl rfl (by omega) (by assumption) rfl ?_ | refine i_iam rfl rfl (by assumption) rfl ?_ | refine i_tk rfl rfl (by omega) ?_ | refine i_stb rfl ?_ | refine i_alloc rfl ?_ | refine i_box rfl rfl ?_ | refine i_nv rfl ?_ | refine c_node ?_ ?_ | refine i_g rfl (fun h => ?_) (fun h => ?_) | refine c_cond rfl (fun h => ?_) (fun h => ?_) | refine i_f rfl rfl (hI) rfl ?_)
  refine c_for l.length (fun i => [(0, .sl .p (l.map sxV)), (2, .bptr 576130 0), (3, .int .i64 i)])
    (fun i => [(576130, .box (.agg [.int .i64 0, .int .i64 0]))]) (fun i => ∀ j, j < i → nodeBad l j = none) all_zero ⟨by repeat (first | exact trivial | refine ⟨rfl, ?_⟩), by repeat (first | exact trivial | refine ⟨rfl, ?_⟩), rfl⟩ fun i hi hp => ?_
  clear hI
  have hok := okTo_of hp
  repeat (first | refine i_len rfl ?_ | refine i_s rfl ?_ | refine i_lenm rfl rfl rfl ?_ | refine c_seq ?_ | refine c_cut0 ?_ | refine c_ops ?_ | refine i_nil ?_ | refine e_seq ?_ | refine e_block ?_ | refine c_block ?_ | refine c_skip ?_ | refine c_ret ?_ | refine c_exit ?_ | refine e_exit rfl ?_ | refine i_s0 rfl ?_ | refine c_leaf ?_ | refine i_gt rfl ?_ | refine i_gf rfl ?_ | refine i_gd rfl ?_ | refine c_t rfl ?_ | refine c_f rfl ?_ | refine i_conv rfl (by simp only [InR, List.length_map]; omega) ?_ | refine i_add rfl rfl (by simp only [InR, List.length_map]; omega) ?_ | refine i_sub rfl rfl (by simp only [InR, List.length_map]; omega) ?_ | refine i_ixm rfl rfl (by assumption) ?_ | refine i_iai rfl rfl (by omega) (by assumption) rfl ?_ | refine i_iam rfl rfl (by assumption) rfl ?_ | refine i_tk rfl rfl (by omega) ?_ | refine i_stb rfl ?_ | refine i_alloc rfl ?_ | refine i_box rfl rfl ?_ | refine i_nv rfl ?_)
  refine c_cond rfl (fun h => ?_) (fun h => ?_)
  · have hlt : i < l.length := by simpa using h
    obtain ⟨x, hx⟩ := get_some hlt
    obtain ⟨b1, b2⟩ := ho.e x (mem_get hx)
    have hS := f_R1_Symbol x.sym b1
    clear h
    by_cases hsh : shapeC x ≠ 0
    · have hbad : nodeBad l i = some ⟨shapeC x, i⟩ := by unfold nodeBad; rw [hx]; simp only; rw [if_pos hsh]
      rw [sx_hit hb hlt hp hbad]
      clear hp hok hbad ho
      unfold shapeC at hsh ⊢
      by_cases c1 : x.sym = []
      · rw [if_pos c1] at hsh; exact absurd rfl hsh
      have c1' := sym_ne c1
      rw [if_neg c1] at hsh ⊢
      cases hsb : symbolB x.sym with
      | false =>
        rw [hsb] at hS
        rw [if_pos rfl]
        repeat' (first | refine i_len rfl ?_ | refine i_s rfl ?_ | refine i_lenm rfl rfl rfl ?_ | refine c_seq ?_ | refine c_cut0 ?_ | refine c_ops ?_ | refine i_nil ?_ | refine e_seq ?_ | refine e_block ?_ | refine c_block ?_ | refine c_skip ?_ | refine c_ret ?_ | refine c_exit ?_ | refine e_exit rfl ?_ | refine i_s0 rfl ?_ | refine c_leaf ?_ | refine i_gt rfl ?_ | refine i_gf rfl ?_ | refine i_gd rfl ?_ | refine c_t rfl ?_ | refine c_f rfl ?_ | refine i_conv rfl (by simp only [InR, List.length_map]; omega) ?_ | refine i_add rfl rfl (by simp only [InR, List.length_map]; omega) ?_ | refine i_sub rfl rfl (by simp only [InR, List.length_map]; omega) ?_ | refine i_ixm rfl rfl (by assumption) ?_ | refine i_iai rfl rfl (by omega) (by assumption) rfl ?_ | refine i_iam rfl rfl (by assumption) rfl ?_ | refine i_tk rfl rfl (by omega) ?_ | refine i_stb rfl ?_ | refine i_alloc rfl ?_ | refine i_box rfl rfl ?_ | refine i_nv rfl ?_ | refine c_node ?_ ?_ | refine i_g rfl (fun h => ?_) (fun h => ?_) | refine c_cond rfl (fun h => ?_) (fun h => ?_) | refine i_f rfl rfl (hS) rfl ?_ | refine i_f rfl rfl (f_R1_At _ _) rfl ?_)
        all_goals first
          | exact e_ret ⟨rfl, _, rfl, rfl⟩
          | (exfalso; clear hS; simp_all; done)
      | true =>
        rw [hsb] at hS hsh
        rw [if_neg (by simp)] at hsh ⊢
        by_cases c2 : x.ch ≠ []
        · have hpl := List.length_pos_iff.2 c2
          rw [if_pos c2]
          repeat' (first | refine i_len rfl ?_ | refine i_s rfl ?_ | refine i_lenm rfl rfl rfl ?_ | refine c_seq ?_ | refine c_cut0 ?_ | refine c_ops ?_ | refine i_nil ?_ | refine e_seq ?_ | refine e_block ?_ | refine c_block ?_ | refine c_skip ?_ | refine c_ret ?_ | refine c_exit ?_ | refine e_exit rfl ?_ | refine i_s0 rfl ?_ | refine c_leaf ?_ | refine i_gt rfl ?_ | refine i_gf rfl ?_ | refine i_gd rfl ?_ | refine c_t rfl ?_ | refine c_f rfl ?_ | refine i_conv rfl (by simp only [InR, List.length_map]; omega) ?_ | refine i_add rfl rfl (by simp only [InR, List.length_map]; omega) ?_ | refine i_sub rfl rfl (by simp only [InR, List.length_map]; omega) ?_ | refine i_ixm rfl rfl (by assumption) ?_ | refine i_iai rfl rfl (by omega) (by assumption) rfl ?_ | refine i_iam rfl rfl (by assumption) rfl ?_ | refine i_tk rfl rfl (by omega) ?_ | refine i_stb rfl ?_ | refine i_alloc rfl ?_ | refine i_box rfl rfl ?_ | refine i_nv rfl ?_ | refine c_node ?_ ?_ | refine i_g rfl (fun h => ?_) (fun h => ?_) | refine c_cond rfl (fun h => ?_) (fun h => ?_) | refine i_f rfl rfl (hS) rfl ?_ | refine i_f rfl rfl (f_R1_At _ _) rfl ?_)
          all_goals first
            | exact e_ret ⟨rfl, _, rfl, rfl⟩
            | (exfalso; clear hS; simp_all; done)
            | (exfalso; clear hS; simp at *; omega)
        · rw [if_neg c2] at hsh; exact absurd rfl hsh
    have hsh0 : shapeC x = 0 := by simpa using hsh
    have hcl : x.ch.reverse.length = x.ch.length := List.length_reverse
    have hcase : x.sym = [] ∨ (x.sym ≠ [] ∧ symbolB x.sym = true ∧ x.ch = []) := by
      unfold shapeC at hsh0
      by_cases c1 : x.sym = []
      · exact .inl c1
      · rw [if_neg c1] at hsh0
        split at hsh0
        · cases hsh0
        · rename_i h1
          split at hsh0
          · cases hsh0
          · rename_i h2
            exact .inr ⟨c1, by simpa using h1, by simpa using h2⟩
    rcases hcase with c1 | ⟨c1, c2, c3⟩
    all_goals
      repeat' (first | refine i_len rfl ?_ | refine i_s rfl ?_ | refine i_lenm rfl rfl rfl ?_ | refine c_seq ?_ | refine c_cut0 ?_ | refine c_ops ?_ | refine i_nil ?_ | refine e_seq ?_ | refine e_block ?_ | refine c_block ?_ | refine c_skip ?_ | refine c_ret ?_ | refine c_exit ?_ | refine e_exit rfl ?_ | refine i_s0 rfl ?_ | refine c_leaf ?_ | refine i_gt rfl ?_ | refine i_gf rfl ?_ | refine i_gd rfl ?_ | refine c_t rfl ?_ | refine c_f rfl ?_ | refine i_conv rfl (by simp only [InR, List.length_map]; omega) ?_ | refine i_add rfl rfl (by simp only [InR, List.length_map]; omega) ?_ | refine i_sub rfl rfl (by simp only [InR, List.length_map]; omega) ?_ | refine i_ixm rfl rfl (by assumption) ?_ | refine i_iai rfl rfl (by omega) (by assumption) rfl ?_ | refine i_iam rfl rfl (by assumption) rfl ?_ | refine i_tk rfl rfl (by omega) ?_ | refine i_stb rfl ?_ | refine i_alloc rfl ?_ | refine i_box rfl rfl ?_ | refine i_nv rfl ?_ | refine c_node ?_ ?_ | refine i_g rfl (fun h => ?_) (fun h => ?_) | refine c_cond rfl (fun h => ?_) (fun h => ?_) | refine i_f rfl rfl (hS) rfl ?_ | refine i_f rfl rfl (f_R1_At _ _) rfl ?_)
    all_goals first
      | (exfalso; clear hS hp hok ho; simp_all; done)
      | skip
    all_goals clear hS
    all_goals
      refine c_for x.ch.length (fun k => [(0, .sl .p (l.map sxV)), (2, .bptr 576130 0), (3, .int .i64 i), (4, .int .i64 ((i : Int) - sumN (sz l) (x.ch.reverse.take k))), (5, .int .i64 ((x.ch.length : Int) - 1 - k))])
        (fun k => [(576130, .box (.agg [.int .i64 0, .int .i64 0]))])
        (fun k => chn l i (x.ch.reverse.take k) = some ((i : Int) - sumN (sz l) (x.ch.reverse.take k))) (by simp [chn, sumN])
        ⟨⟨rfl, rfl, rfl, (by show V.int _ _ = V.int _ _; simp [sumN]), (by show V.int _ _ = V.int _ _; simp), trivial⟩, ⟨rfl, trivial⟩, rfl⟩ fun k hk hc => ?_
      have hst := sumN_take (sz l) x.ch.reverse k
      have hrl : (x.ch.reverse.take k).length = k := by rw [List.length_take]; omega
      have hSn := chn_nn hok.chs _ _ _ (by omega) (Int.le_refl _) hc
      repeat (first | refine i_len rfl ?_ | refine i_s rfl ?_ | refine i_lenm rfl rfl rfl ?_ | refine c_seq ?_ | refine c_cut0 ?_ | refine c_ops ?_ | refine i_nil ?_ | refine e_seq ?_ | refine e_block ?_ | refine c_block ?_ | refine c_skip ?_ | refine c_ret ?_ | refine c_exit ?_ | refine e_exit rfl ?_ | refine i_s0 rfl ?_ | refine c_leaf ?_ | refine i_gt rfl ?_ | refine i_gf rfl ?_ | refine i_gd rfl ?_ | refine c_t rfl ?_ | refine c_f rfl ?_ | refine i_conv rfl (by simp only [InR, List.length_map]; omega) ?_ | refine i_add rfl rfl (by simp only [InR, List.length_map]; omega) ?_ | refine i_sub rfl rfl (by simp only [InR, List.length_map]; omega) ?_ | refine i_ixm rfl rfl (by assumption) ?_ | refine i_iai rfl rfl (by omega) (by assumption) rfl ?_ | refine i_iam rfl rfl (by assumption) rfl ?_ | refine i_tk rfl rfl (by omega) ?_ | refine i_stb rfl ?_ | refine i_alloc rfl ?_ | refine i_box rfl rfl ?_ | refine i_nv rfl ?_)
      refine c_cond rfl (fun h => ?_) (fun h => ?_)
      · have hkl : k < x.ch.length := by have := of_decide_eq_true h; omega
        obtain ⟨c, hcr⟩ := get_some (l := x.ch.reverse) (k := k) (by omega)
        have hcx : x.ch[((x.ch.length : Int) - 1 - k).toNat]? = some c := by
          rw [List.getElem?_reverse hkl] at hcr
          rw [show ((x.ch.length : Int) - 1 - k).toNat = x.ch.length - 1 - k from by omega]; exact hcr
        have hk0 : (0 : Int) ≤ (x.ch.length : Int) - 1 - k := by omega
        have hsn := chn_snoc (l := l) (x.ch.reverse.take k) i c
        rw [← take_succ_get hcr, hc] at hsn
        simp only at hsn
        have hS1 : sumN (sz l) (x.ch.reverse.take (k + 1)) = sumN (sz l) (x.ch.reverse.take k) + sz l c.toNat := by rw [take_succ_get hcr, sumN_snoc]
        clear h
        by_cases hbd : c < 0 ∨ c ≠ (i : Int) - sumN (sz l) (x.ch.reverse.take k) - 1
        · rw [if_pos hbd] at hsn
          have hno : chn l i x.ch.reverse = none := by
            have := chn_none (l := l) (x.ch.reverse.take (k + 1)) (x.ch.reverse.drop (k + 1)) i hsn
            rwa [List.take_append_drop] at this
          have hbad : nodeBad l i = some ⟨5, i⟩ := by unfold nodeBad; rw [hx]; simp only; rw [if_neg hsh, hno]; rfl
          rw [sx_hit hb hlt hp hbad]
          by_cases hcn : c < 0
          · clear hp hok hbad ho hsn hc hno hbd c1
            generalize sumN (sz l) (x.ch.reverse.take k) = S at *
            repeat' (first | refine i_len rfl ?_ | refine i_s rfl ?_ | refine i_lenm rfl rfl rfl ?_ | refine c_seq ?_ | refine c_cut0 ?_ | refine c_ops ?_ | refine i_nil ?_ | refine e_seq ?_ | refine e_block ?_ | refine c_block ?_ | refine c_skip ?_ | refine c_ret ?_ | refine c_exit ?_ | refine e_exit rfl ?_ | refine i_s0 rfl ?_ | refine c_leaf ?_ | refine i_gt rfl ?_ | refine i_gf rfl ?_ | refine i_gd rfl ?_ | refine c_t rfl ?_ | refine c_f rfl ?_ | refine i_conv rfl (by simp only [InR, List.length_map]; omega) ?_ | refine i_add rfl rfl (by simp only [InR, List.length_map]; omega) ?_ | refine i_sub rfl rfl (by simp only [InR, List.length_map]; omega) ?_ | refine i_ixm rfl rfl (by assumption) ?_ | refine i_iai rfl rfl (by omega) (by assumption) rfl ?_ | refine i_iam rfl rfl (by assumption) rfl ?_ | refine i_tk rfl rfl (by omega) ?_ | refine i_stb rfl ?_ | refine i_alloc rfl ?_ | refine i_box rfl rfl ?_ | refine i_nv rfl ?_ | refine c_node ?_ ?_ | refine i_g rfl (fun h => ?_) (fun h => ?_) | refine c_cond rfl (fun h => ?_) (fun h => ?_) | refine i_f rfl rfl (f_R1_At _ _) rfl ?_)
            all_goals first
              | exact e_ret ⟨rfl, _, rfl, rfl⟩
              | (exfalso; have := of_decide_eq_false h; omega)
          · have hcI := ho.r x (mem_get hx) c (mem_get hcx)
            clear hp hok hbad ho hsn hc hno c1
            generalize sumN (sz l) (x.ch.reverse.take k) = S at *
            repeat' (first | refine i_len rfl ?_ | refine i_s rfl ?_ | refine i_lenm rfl rfl rfl ?_ | refine c_seq ?_ | refine c_cut0 ?_ | refine c_ops ?_ | refine i_nil ?_ | refine e_seq ?_ | refine e_block ?_ | refine c_block ?_ | refine c_skip ?_ | refine c_ret ?_ | refine c_exit ?_ | refine e_exit rfl ?_ | refine i_s0 rfl ?_ | refine c_leaf ?_ | refine i_gt rfl ?_ | refine i_gf rfl ?_ | refine i_gd rfl ?_ | refine c_t rfl ?_ | refine c_f rfl ?_ | refine i_conv rfl (by simp only [InR, List.length_map]; omega) ?_ | refine i_add rfl rfl (by simp only [InR, List.length_map]; omega) ?_ | refine i_sub rfl rfl (by simp only [InR, List.length_map]; omega) ?_ | refine i_ixm rfl rfl (by assumption) ?_ | refine i_iai rfl rfl (by omega) (by assumption) rfl ?_ | refine i_iam rfl rfl (by assumption) rfl ?_ | refine i_tk rfl rfl (by omega) ?_ | refine i_stb rfl ?_ | refine i_alloc rfl ?_ | refine i_box rfl rfl ?_ | refine i_nv rfl ?_ | refine c_node ?_ ?_ | refine i_g rfl (fun h => ?_) (fun h => ?_) | refine c_cond rfl (fun h => ?_) (fun h => ?_) | refine i_f rfl rfl (f_R1_At _ _) rfl ?_ | refine i_addw rfl rfl rfl (wrap_inc hcI) ?_)
            all_goals first
              | exact e_ret ⟨rfl, _, rfl, rfl⟩
              | (exfalso; have := of_decide_eq_true h; omega)
              | (exfalso; have h9 : (if c = 9223372036854775807 then (-9223372036854775808 : Int) else c + 1) = (i : Int) - S := (by simpa using h); split at h9 <;> omega)
        · rw [if_neg hbd] at hsn
          simp only [not_or, Decidable.not_not] at hbd
          obtain ⟨hc0, hc1⟩ := hbd
          have hc0' : 0 ≤ c := by omega
          have hci : c < i := by omega
          have hR := f_R1_SexprSize l hl.2 ho c.toNat (by omega) (hok.chs.mono (by omega))
          have hsl := sz_leC c.toNat i hok.chs (by omega)
          rw [show ((c.toNat : Nat) : Int) = c from by omega] at hR
          clear hp hok ho hc c1
          generalize hSg : sumN (sz l) (x.ch.reverse.take k) = S at *
          repeat' (first | refine i_len rfl ?_ | refine i_s rfl ?_ | refine i_lenm rfl rfl rfl ?_ | refine c_seq ?_ | refine c_cut0 ?_ | refine c_ops ?_ | refine i_nil ?_ | refine e_seq ?_ | refine e_block ?_ | refine c_block ?_ | refine c_skip ?_ | refine c_ret ?_ | refine c_exit ?_ | refine e_exit rfl ?_ | refine i_s0 rfl ?_ | refine c_leaf ?_ | refine i_gt rfl ?_ | refine i_gf rfl ?_ | refine i_gd rfl ?_ | refine c_t rfl ?_ | refine c_f rfl ?_ | refine i_conv rfl (by simp only [InR, List.length_map]; omega) ?_ | refine i_add rfl rfl (by simp only [InR, List.length_map]; omega) ?_ | refine i_sub rfl rfl (by simp only [InR, List.length_map]; omega) ?_ | refine i_ixm rfl rfl (by assumption) ?_ | refine i_iai rfl rfl (by omega) (by assumption) rfl ?_ | refine i_iam rfl rfl (by assumption) rfl ?_ | refine i_tk rfl rfl (by omega) ?_ | refine i_stb rfl ?_ | refine i_alloc rfl ?_ | refine i_box rfl rfl ?_ | refine i_nv rfl ?_ | refine c_node ?_ ?_ | refine i_g rfl (fun h => ?_) (fun h => ?_) | refine c_cond rfl (fun h => ?_) (fun h => ?_) | refine i_f rfl rfl (hR) rfl ?_ | refine i_f rfl rfl (f_R1_At _ _) rfl ?_)
          all_goals first
            | (exfalso; simp at *; omega)
            | skip
          refine e_for hkl (by rw [hsn, hS1]; congr 1; omega) ⟨⟨rfl, rfl, rfl, ?_, ?_, trivial⟩, ⟨rfl, trivial⟩, rfl⟩
          · show V.int _ _ = V.int _ _
            congr 1
            rw [hS1]
            omega
          · show V.int _ _ = V.int _ _
            congr 1
            omega
      · have hkl : k = x.ch.length := by have := of_decide_eq_false h; omega
        subst hkl
        rw [show x.ch.reverse.take x.ch.length = x.ch.reverse from by rw [← hcl, List.take_length]] at *
        have hch1 := chTo_succ hok hx hc
        have hD := f_R1_SexprDepth l hl.2 ho i hlt hch1
        clear h
        repeat (first | refine i_len rfl ?_ | refine i_s rfl ?_ | refine i_lenm rfl rfl rfl ?_ | refine c_seq ?_ | refine c_cut0 ?_ | refine c_ops ?_ | refine i_nil ?_ | refine e_seq ?_ | refine e_block ?_ | refine c_block ?_ | refine c_skip ?_ | refine c_ret ?_ | refine c_exit ?_ | refine e_exit rfl ?_ | refine i_s0 rfl ?_ | refine c_leaf ?_ | refine i_gt rfl ?_ | refine i_gf rfl ?_ | refine i_gd rfl ?_ | refine c_t rfl ?_ | refine c_f rfl ?_ | refine i_conv rfl (by simp only [InR, List.length_map]; omega) ?_ | refine i_add rfl rfl (by simp only [InR, List.length_map]; omega) ?_ | refine i_sub rfl rfl (by simp only [InR, List.length_map]; omega) ?_ | refine i_ixm rfl rfl (by assumption) ?_ | refine i_iai rfl rfl (by omega) (by assumption) rfl ?_ | refine i_iam rfl rfl (by assumption) rfl ?_ | refine i_tk rfl rfl (by omega) ?_ | refine i_stb rfl ?_ | refine i_alloc rfl ?_ | refine i_box rfl rfl ?_ | refine i_nv rfl ?_ | refine i_f rfl rfl (hD) rfl ?_)
        refine c_cond rfl (fun h => ?_) (fun h => ?_)
        · have hd12 : dp l i > 12 := by have := of_decide_eq_true h; omega
          have hbad : nodeBad l i = some ⟨10, i⟩ := by unfold nodeBad; rw [hx]; simp only; rw [if_neg hsh, hc, if_neg (by simp), if_pos hd12]
          rw [sx_hit hb hlt hp hbad]
          clear hp hok hbad ho hD
          repeat' (first | refine i_len rfl ?_ | refine i_s rfl ?_ | refine i_lenm rfl rfl rfl ?_ | refine c_seq ?_ | refine c_cut0 ?_ | refine c_ops ?_ | refine i_nil ?_ | refine e_seq ?_ | refine e_block ?_ | refine c_block ?_ | refine c_skip ?_ | refine c_ret ?_ | refine c_exit ?_ | refine e_exit rfl ?_ | refine i_s0 rfl ?_ | refine c_leaf ?_ | refine i_gt rfl ?_ | refine i_gf rfl ?_ | refine i_gd rfl ?_ | refine c_t rfl ?_ | refine c_f rfl ?_ | refine i_conv rfl (by simp only [InR, List.length_map]; omega) ?_ | refine i_add rfl rfl (by simp only [InR, List.length_map]; omega) ?_ | refine i_sub rfl rfl (by simp only [InR, List.length_map]; omega) ?_ | refine i_ixm rfl rfl (by assumption) ?_ | refine i_iai rfl rfl (by omega) (by assumption) rfl ?_ | refine i_iam rfl rfl (by assumption) rfl ?_ | refine i_tk rfl rfl (by omega) ?_ | refine i_stb rfl ?_ | refine i_alloc rfl ?_ | refine i_box rfl rfl ?_ | refine i_nv rfl ?_ | refine c_node ?_ ?_ | refine i_g rfl (fun h => ?_) (fun h => ?_) | refine c_cond rfl (fun h => ?_) (fun h => ?_) | refine i_f rfl rfl (f_R1_At _ _) rfl ?_)
          exact e_ret ⟨rfl, _, rfl, rfl⟩
        · have hd12 : dp l i ≤ 12 := by have := of_decide_eq_false h; omega
          have hgood : nodeBad l i = none := (nodeBad_none hx).2 ⟨hsh0, ⟨_, hc⟩, hd12⟩
          clear h hD
          repeat (first | refine i_len rfl ?_ | refine i_s rfl ?_ | refine i_lenm rfl rfl rfl ?_ | refine c_seq ?_ | refine c_cut0 ?_ | refine c_ops ?_ | refine i_nil ?_ | refine e_seq ?_ | refine e_block ?_ | refine c_block ?_ | refine c_skip ?_ | refine c_ret ?_ | refine c_exit ?_ | refine e_exit rfl ?_ | refine i_s0 rfl ?_ | refine c_leaf ?_ | refine i_gt rfl ?_ | refine i_gf rfl ?_ | refine i_gd rfl ?_ | refine c_t rfl ?_ | refine c_f rfl ?_ | refine i_conv rfl (by simp only [InR, List.length_map]; omega) ?_ | refine i_add rfl rfl (by simp only [InR, List.length_map]; omega) ?_ | refine i_sub rfl rfl (by simp only [InR, List.length_map]; omega) ?_ | refine i_ixm rfl rfl (by assumption) ?_ | refine i_iai rfl rfl (by omega) (by assumption) rfl ?_ | refine i_iam rfl rfl (by assumption) rfl ?_ | refine i_tk rfl rfl (by omega) ?_ | refine i_stb rfl ?_ | refine i_alloc rfl ?_ | refine i_box rfl rfl ?_ | refine i_nv rfl ?_)
          exact e_for hlt (all_succ hp hgood) ⟨by repeat (first | exact trivial | refine ⟨rfl, ?_⟩), by repeat (first | exact trivial | refine ⟨rfl, ?_⟩), rfl⟩
  · have hge : i = l.length := by have : ¬ i < l.length := by simpa using h
                                  omega
    subst hge
    rw [sx_all hb hp]
    have hR := f_R1_SexprSize l hl.2 ho (l.length - 1) (by omega) (hok.chs.mono (by omega))
    rw [show ((l.length - 1 : Nat) : Int) = (l.length : Int) - 1 from by omega] at hR
    clear h hp hok
    repeat' (first | refine i_len rfl ?_ | refine i_s rfl ?_ | refine i_lenm rfl rfl rfl ?_ | refine c_seq ?_ | refine c_cut0 ?_ | refine c_ops ?_ | refine i_nil ?_ | refine e_seq ?_ | refine e_block ?_ | refine c_block ?_ | refine c_skip ?_ | refine c_ret ?_ | refine c_exit ?_ | refine e_exit rfl ?_ | refine i_s0 rfl ?_ | refine c_leaf ?_ | refine i_gt rfl ?_ | refine i_gf rfl ?_ | refine i_gd rfl ?_ | refine c_t rfl ?_ | refine c_f rfl ?_ | refine i_conv rfl (by simp only [InR, List.length_map]; omega) ?_ | refine i_add rfl rfl (by simp only [InR, List.length_map]; omega) ?_ | refine i_sub rfl rfl (by simp only [InR, List.length_map]; omega) ?_ | refine i_ixm rfl rfl (by assumption) ?_ | refine i_iai rfl rfl (by omega) (by assumption) rfl ?_ | refine i_iam rfl rfl (by assumption) rfl ?_ | refine i_tk rfl rfl (by omega) ?_ | refine i_stb rfl ?_ | refine i_alloc rfl ?_ | refine i_box rfl rfl ?_ | refine i_nv rfl ?_ | refine c_node ?_ ?_ | refine i_g rfl (fun h => ?_) (fun h => ?_) | refine c_cond rfl (fun h => ?_) (fun h => ?_) | refine i_f rfl rfl (hR) rfl ?_ | refine i_f rfl rfl (f_R1_At _ _) rfl ?_)
    · have h1 : sz l (l.length - 1) ≠ l.length := fun e => by rw [e] at h; simp at h
      rw [if_pos h1]
      exact e_ret ⟨rfl, _, rfl, rfl⟩
    · have h1 : ¬ sz l (l.length - 1) ≠ l.length := by have : (sz l (l.length - 1) : Int) = l.length := by simpa using h
                                                       omega
      rw [if_neg h1]
      exact e_ret ⟨rfl, _, rfl, rfl⟩
end Hm
end
