/- Reading expressions as a relation; what is read of a printed text; what is read is valid. No program in sight. -/
import Derived.Test.YthlagieajgmefaaXC
import Derived.Test.YthlagieajgmefaaXE
section
/- Reading expressions as a relation; what is read of a printed text; what is read is valid. No program in sight. -/
namespace Hm
set_option linter.unusedVariables false
set_option linter.unusedSimpArgs false
open Go
/-- A node (true) or the elements of a list (false) is read: what is left, the nodes, the children. -/
inductive Rd : Bool → Nat → List UInt8 → Nat → List Int → List UInt8 → List Sx → List Int → Prop
  | sym {d s b acc w r} (h : sk s = w ++ r) (h0 : w ≠ []) (ha : ∀ c ∈ w, symB c = true) (hl : w.length ≤ 12) (hr : ∀ c z, r = c :: z → symB c = false) (hd : d < 12) : Rd true d s b acc r [⟨w, []⟩] []
  | lst {d s b acc r r' new ch} (h : sk s = 40 :: r) (hd : d < 12) (hi : Rd false d r b [] r' new ch) : Rd true d s b acc r' (new ++ [⟨[], ch⟩]) []
  | close {d s b acc r} (h : sk s = 41 :: r) : Rd false d s b acc r [] acc
  | next {d s b acc r1 n1 r2 n2 ch} (h : (sk s).head? ≠ some 41) (hi : Rd true (d + 1) (sk s) b [] r1 n1 []) (hj : Rd false d r1 (b + n1.length) (acc ++ [((b + n1.length : Nat) : Int) - 1]) r2 n2 ch) : Rd false d s b acc r2 (n1 ++ n2) ch
theorem symB_40 {c : UInt8} (h : symB c = true) : c ≠ 40 := by rintro rfl; exact absurd h (by decide)
theorem symB_41 {c : UInt8} (h : symB c = true) : c ≠ 41 := by rintro rfl; exact absurd h (by decide)
theorem symB_blank {c : UInt8} (h : symB c = true) : blankB c = false := by
  cases hb : blankB c with
  | false => rfl
  | true =>
    exfalso
    simp only [blankB, decide_eq_true_eq, List.mem_cons, List.not_mem_nil, or_false] at hb
    rcases hb with rfl | rfl | rfl <;> exact absurd h (by decide)
theorem tw_all (p : UInt8 → Bool) (l : List UInt8) : ∀ c ∈ l.takeWhile p, p c = true := by
  induction l with
  | nil => intro c hc; simp at hc
  | cons a l ih =>
    intro c hc
    by_cases h : p a = true
    · rw [List.takeWhile_cons_of_pos h] at hc
      rcases List.mem_cons.1 hc with rfl | hc
      · exact h
      · exact ih c hc
    · rw [List.takeWhile_cons_of_neg h] at hc
      simp at hc
theorem tw_app (p : UInt8 → Bool) : ∀ (w r : List UInt8), (∀ c ∈ w, p c = true) → (∀ c z, r = c :: z → p c = false) → (w ++ r).takeWhile p = w ∧ (w ++ r).dropWhile p = r
  | [], r, _, h => by
    cases r with
    | nil => simp
    | cons c z =>
      have := h c z rfl
      simp [this]
  | a :: w, r, ha, h => by
    have h1 := ha a (by simp)
    obtain ⟨i1, i2⟩ := tw_app p w r (fun c hc => ha c (by simp [hc])) h
    simp only [List.cons_append]
    rw [List.takeWhile_cons_of_pos h1, List.dropWhile_cons_of_pos h1, i1, i2]
    exact ⟨rfl, rfl⟩
theorem dw_head (p : UInt8 → Bool) (l : List UInt8) : ∀ c z, l.dropWhile p = c :: z → p c = false := by
  intro c z h
  have := List.head?_dropWhile_not p l
  rw [h] at this
  simpa using this
theorem rd_ch {m d s b acc r n ch} (h : Rd m d s b acc r n ch) : m = true → ch = [] := by
  cases h <;> simp
/-- What the reader reads stands in the relation. -/
theorem rd_of : ∀ (f : Nat) (m : Bool) (d : Nat) (s : List UInt8) (b : Nat) (acc : List Int), (if m = true then d ≤ 12 else d < 12) → (prs f m d s b acc).code = 0 → Rd m d s b acc (prs f m d s b acc).rest (prs f m d s b acc).new (prs f m d s b acc).ch
  | 0, m, d, s, b, acc, _, h => by simp [prs] at h
  | f + 1, true, d, s, b, acc, hd, h => by
    simp only [if_true] at hd
    simp only [prs] at h ⊢
    cases hc : sk s with
    | nil => rw [hc] at h; cases h
    | cons c r =>
      rw [hc] at h
      simp only at h ⊢
      split at h
      · cases h
      · rename_i h1
        rw [if_neg h1]
        split at h
        · cases h
        · rename_i h2
          rw [if_neg h2]
          split at h
          · rename_i h40
            rw [if_pos h40]
            split at h
            · cases h
            · rename_i h4
              rw [if_neg h4]
              have hsym : symB c = true := by
                cases h : symB c with
                | true => rfl
                | false => exact absurd ⟨h40, h⟩ h1
              refine .sym (by rw [hc]; exact List.takeWhile_append_dropWhile.symm) ?_ (tw_all _ _) (by omega) (dw_head _ _) (by omega)
              rw [List.takeWhile_cons_of_pos hsym]
              simp
          · rename_i h40
            have h40 : c = 40 := by simpa using h40
            subst h40
            rw [if_neg (by simp)]
            split at h
            · rename_i h5; exact absurd h h5
            · rename_i h5
              rw [if_neg h5]
              exact .lst hc (by omega) (rd_of f false d r b [] (by simp; omega) (by simpa using h5))
  | f + 1, false, d, s, b, acc, hd, h => by
    simp only [Bool.false_eq_true, if_false] at hd
    simp only [prs] at h ⊢
    split at h
    · rename_i h1
      rw [if_pos h1]
      cases hc : sk s with
      | nil => rw [hc] at h1; cases h1
      | cons c r =>
        rw [hc] at h1
        simp only [List.head?_cons, Option.some.injEq] at h1
        subst h1
        exact .close hc
    · rename_i h1
      rw [if_neg h1]
      split at h
      · rename_i h5; exact absurd h h5
      · rename_i h5
        rw [if_neg h5]
        have hn := rd_of f true (d + 1) (sk s) b [] (by simp; omega) (by simpa using h5)
        have hch : (prs f true (d + 1) (sk s) b []).ch = [] := rd_ch hn rfl
        rw [hch] at hn
        exact .next h1 hn (rd_of f false d _ _ _ (by simp; omega) h)
theorem rd_len {m d s b acc r n ch} (h : Rd m d s b acc r n ch) : r.length < s.length := by
  induction h with
  | @sym d s b acc w r h h0 _ _ _ _ =>
    have := (sk_suf s).length_le
    have := List.length_pos_iff.2 h0
    rw [h] at *
    simp only [List.length_append] at *
    omega
  | @lst d s b acc r r' new ch h _ _ ih =>
    have := (sk_suf s).length_le
    rw [h] at this
    simp only [List.length_cons] at this
    omega
  | @close d s b acc r h =>
    have := (sk_suf s).length_le
    rw [h] at this
    simp only [List.length_cons] at this
    omega
  | @next d s b acc r1 n1 r2 n2 ch h _ _ i1 i2 =>
    have := (sk_suf s).length_le
    omega
/-- .. and what stands in the relation is read. -/
theorem rd_to {m d s b acc r n ch} (h : Rd m d s b acc r n ch) : ∀ f, 2 * s.length + (if m then 1 else 2) ≤ f → prs f m d s b acc = ⟨r, n, ch, 0⟩ := by
  induction h with
  | @sym d s b acc w r h h0 ha hl hr hd =>
    intro f hf
    match f, hf with
    | f + 1, _ =>
      match w, h0, ha, hl, h with
      | c :: w, _, ha, hl, h =>
        obtain ⟨t1, t2⟩ := tw_app symB (c :: w) r ha hr
        have hc := ha c (by simp)
        simp only [List.cons_append] at t1 t2 h
        simp only [prs, h]
        rw [if_neg (by simp [hc]), if_neg (by omega), if_pos (symB_40 hc), t1, t2, if_neg (by omega)]
  | @lst d s b acc r r' new ch h hd hi ih =>
    intro f hf
    have := (sk_suf s).length_le
    rw [h] at this
    simp only [List.length_cons, if_true] at this hf
    match f, hf with
    | f + 1, hf =>
      simp only [prs, h]
      rw [if_neg (by simp), if_neg (by omega), if_neg (by simp), ih f (by simp; omega)]
      simp
  | @close d s b acc r h =>
    intro f hf
    match f, hf with
    | f + 1, hf =>
      simp only [prs, h]
      simp
  | @next d s b acc r1 n1 r2 n2 ch h hi hj i1 i2 =>
    intro f hf
    have := (sk_suf s).length_le
    have := rd_len hi
    simp only [Bool.false_eq_true, if_false] at hf
    match f, hf with
    | f + 1, hf =>
      simp only [prs]
      rw [if_neg h, i1 f (by simp; omega)]
      simp only
      rw [if_neg (by simp), i2 f (by simp; omega)]
end Hm
end

section
/- What is read of a printed text; what is read is valid. No program in sight. -/
namespace Hm
set_option linter.unusedVariables false
set_option linter.unusedSimpArgs false
open Go
/-- A text's first byte is no blank and closes nothing. -/
theorem tx_head {l : List Sx} {i : Nat} {x : Sx} (h : lowTo l (i + 1)) (hx : l[i]? = some x) (hv : NV l i x) : ∃ c w, tx l i = c :: w ∧ blankB c = false ∧ c ≠ 41 := by
  rw [tx_eq h hx]
  split
  · exact ⟨40, _, rfl, by decide, by decide⟩
  · rename_i hne
    have h1 := hv.shape
    unfold shapeC at h1
    rw [if_neg hne] at h1
    split at h1
    · cases h1
    · rename_i h2
      simp only [Bool.not_eq_false, symbolB, Bool.and_eq_true, decide_eq_true_eq, List.all_eq_true] at h2
      match hs : x.sym, hne with
      | c :: w, _ =>
        have := h2.1 c (by rw [hs]; simp)
        exact ⟨c, w, rfl, symB_blank this, symB_41 this⟩
theorem take_split (l : List Sx) (a m k : Nat) : (l.drop a).take m ++ (l.drop (a + m)).take k = (l.drop a).take (m + k) := by
  rw [List.take_add, List.drop_drop]
/-- The text of a node is read as that node, whatever follows that is no symbol's byte. -/
theorem rd_tx {l : List Sx} {n : Nat} (ho : okTo l n) : ∀ (i : Nat), i < n → i < l.length → ∀ (d b : Nat) (u rest : List UInt8) (acc : List Int), d + dp l i ≤ 12 → b + sz l i = i + 1 → (∀ c z, rest = c :: z → symB c = false) → sk u = tx l i ++ rest → Rd true d u b acc rest ((l.drop b).take (sz l i)) [] := by
  intro i
  induction i using Nat.strongRecOn with
  | ind i ih =>
    intro hn hil d b u rest acc hd hb hr hu
    have hlow : lowTo l (i + 1) := fun j hj => ho.low j (by omega)
    obtain ⟨x, hx⟩ := get_some hil
    have hv := ho i hn x hx
    have hsz := sz_eq hlow
    rw [chL_get hx] at hsz
    have hdp := dp_eq hlow
    rw [chL_get hx] at hdp
    have htx := tx_eq hlow hx
    by_cases hs : x.sym = []
    · rw [if_pos hs] at htx
      obtain ⟨e, he⟩ := hv.chain
      have hce := chn_end he
      have key : ∀ (cs : List Int) (a : Nat), chn l i cs.reverse = some (a : Int) → (∀ c ∈ cs, c ∈ x.ch) → ∀ (u : List UInt8) (acc : List Int), sk u = joinF (cs.map fun c => tx l c.toNat) ++ 41 :: rest → Rd false d u a acc rest ((l.drop a).take (i - a)) (acc ++ cs) := by
        intro cs
        induction cs with
        | nil =>
          intro a ha _ u acc hu
          simp only [List.reverse_nil, chn, Option.some.injEq] at ha
          have : i - a = 0 := by omega
          rw [this, List.take_zero, List.append_nil]
          exact .close (by simpa [joinF] using hu)
        | cons c cs ihc =>
          intro a ha hm u acc hu
          rw [List.reverse_cons, chn_snoc] at ha
          cases hq : chn l i cs.reverse with
          | none => rw [hq] at ha; cases ha
          | some e =>
            rw [hq] at ha
            simp only at ha
            split at ha
            · cases ha
            · rename_i hc
              simp only [not_or, Decidable.not_not, Option.some.injEq] at hc ha
              have hci := hlow i (by omega) c (by rw [chL_get hx]; exact hm c (by simp))
              have hlc : lowTo l (c.toNat + 1) := fun j hj => ho.low j (by omega)
              obtain ⟨y, hy⟩ := get_some (l := l) (k := c.toNat) (by omega)
              obtain ⟨c0, w0, hh, hbk, h41⟩ := tx_head hlc hy (ho c.toNat (by omega) y hy)
              have hsc := sz_pos l c.toNat
              have hdc := maxN_mem (f := dp l) (hm c (by simp))
              have hle := chn_end hq
              -- what follows this child's text
              obtain ⟨z, hz1, hz2, hz3⟩ : ∃ z, sk u = tx l c.toNat ++ z ∧ (∀ c' z', z = c' :: z' → symB c' = false) ∧ sk z = joinF (cs.map fun c => tx l c.toNat) ++ 41 :: rest := by
                cases cs with
                | nil => exact ⟨41 :: rest, by simpa [joinF] using hu, by rintro c' z' h; cases h; decide, by rw [sk_stop (by decide)]; rfl⟩
                | cons c2 cs =>
                  refine ⟨32 :: (joinF ((c2 :: cs).map fun c => tx l c.toNat) ++ 41 :: rest), by simpa [joinF] using hu, by rintro c' z' h; cases h; decide, ?_⟩
                  rw [sk_cons (by decide)]
                  have hci2 := hlow i (by omega) c2 (by rw [chL_get hx]; exact hm c2 (by simp))
                  obtain ⟨y2, hy2⟩ := get_some (l := l) (k := c2.toNat) (by omega)
                  obtain ⟨c1, w1, hh1, hbk1, _⟩ := tx_head (fun j hj => ho.low j (by omega)) hy2 (ho c2.toNat (by omega) y2 hy2)
                  cases cs with
                  | nil => simp only [List.map_cons, List.map_nil, joinF]; rw [hh1]; exact sk_stop hbk1
                  | cons c3 cs => simp only [List.map_cons, joinF]; rw [hh1]; exact sk_stop hbk1
              have hN := ih c.toNat (by omega) (by omega) (by omega) (d + 1) a (sk u) z [] (by omega) (by omega) hz2 (by rw [sk_idem]; exact hz1)
              have hlen : ((l.drop a).take (sz l c.toNat)).length = sz l c.toNat := by rw [List.length_take, List.length_drop]; omega
              have hL := ihc (a + sz l c.toNat) (by rw [hq]; congr 1; omega) (fun c' h' => hm c' (by simp [h'])) z (acc ++ [c]) hz3
              rw [show acc ++ c :: cs = acc ++ [c] ++ cs from by simp, show i - a = sz l c.toNat + (i - (a + sz l c.toNat)) from by omega, ← take_split]
              refine .next (by rw [hz1, hh]; simp [h41]) hN ?_
              rw [hlen, show ((a + sz l c.toNat : Nat) : Int) - 1 = c from by omega]
              exact hL
      have hbe : (b : Int) = e := by rw [hce.1, sumN_rev]; omega
      rw [← hbe] at he
      rw [htx] at hu
      rw [show sz l i = (i - b) + 1 from by omega, ← take_split, show b + (i - b) = i from by omega, List.drop_eq_getElem_cons hil, List.take_succ_cons, List.take_zero]
      rw [List.getElem?_eq_getElem hil, Option.some.injEq] at hx
      rw [hx]
      have hx2 : x = ⟨[], x.ch⟩ := by cases x; simp only at hs; rw [hs]
      have hK := key x.ch b he (fun c h => h) (joinF (x.ch.map fun c => tx l c.toNat) ++ [41] ++ rest) [] (by
        cases hcc : x.ch with
        | nil => simp only [List.map_nil, joinF, List.nil_append, List.cons_append]; exact sk_stop (by decide)
        | cons c2 cs =>
          have hci2 := hlow i (by omega) c2 (by unfold chL; rw [List.getElem?_eq_getElem hil, hx]; simp [hcc])
          obtain ⟨y2, hy2⟩ := get_some (l := l) (k := c2.toNat) (by omega)
          obtain ⟨c1, w1, hh1, hbk1, _⟩ := tx_head (fun j hj => ho.low j (by omega)) hy2 (ho c2.toNat (by omega) y2 hy2)
          cases cs with
          | nil => simp only [List.map_cons, List.map_nil, joinF, List.append_assoc, List.cons_append, List.nil_append]; rw [hh1]; exact sk_stop hbk1
          | cons c3 cs => simp only [List.map_cons, joinF, List.append_assoc, List.cons_append, List.nil_append]; rw [hh1]; exact sk_stop hbk1)
      rw [List.nil_append] at hK
      rw [hx2]
      have hp := dp_pos l i
      exact .lst (by rw [hu]; simp) (by omega) hK
    · rw [if_neg hs] at htx
      have h1 := hv.shape
      unfold shapeC at h1
      rw [if_neg hs] at h1
      split at h1
      · cases h1
      · rename_i h2
        split at h1
        · cases h1
        · rename_i h3
          have h3 : x.ch = [] := by simpa using h3
          simp only [Bool.not_eq_false, symbolB, Bool.and_eq_true, decide_eq_true_eq, List.all_eq_true] at h2
          rw [h3] at hsz hdp
          simp only [sumN, maxN] at hsz hdp
          rw [hsz, show b = i from by omega, List.drop_eq_getElem_cons hil, List.take_succ_cons, List.take_zero]
          rw [List.getElem?_eq_getElem hil, Option.some.injEq] at hx
          rw [hx]
          have hx2 : x = ⟨x.sym, []⟩ := by cases x; simp only at h3; rw [h3]
          rw [hx2]
          exact .sym (by rw [hu, htx]) hs h2.1 (by omega) hr (by omega)
/-- A printed text is read as what was printed. -/
theorem read_tx {l : List Sx} (h : SxOk l) (ht : (tx l (l.length - 1)).length ≤ 4096) : readF (tx l (l.length - 1)) = okF ∧ readL (tx l (l.length - 1)) = l := by
  obtain ⟨hl1, hl2⟩ := h.len
  have hr := h.root
  obtain ⟨x, hx⟩ := get_some (l := l) (k := l.length - 1) (by omega)
  have hv := h.node _ (by omega) x hx
  obtain ⟨c, w, hh, hb, _⟩ := tx_head (fun j hj => h.node.low j (by omega)) hx hv
  have hR := rd_tx h.node (l.length - 1) (by omega) (by omega) 0 0 (tx l (l.length - 1)) [] [] (by have := hv.depth; omega) (by omega) (by intro c z h; cases h) (by rw [List.append_nil, hh]; exact sk_stop hb)
  have hq := rd_to hR (2 * (tx l (l.length - 1)).length + 1) (by simp)
  rw [List.drop_zero, hr, List.take_length] at hq
  have hF : readF (tx l (l.length - 1)) = okF := by
    unfold readF rdQ
    rw [hq, if_neg (by omega), if_neg (by simp), if_neg (by simp [sk]), if_neg (by simp only; omega)]
  refine ⟨hF, ?_⟩
  unfold readL rdQ
  rw [if_pos hF, hq]
end Hm
end

section
/- What is read is valid, and its text is short. No program in sight. -/
namespace Hm
set_option linter.unusedVariables false
set_option linter.unusedSimpArgs false
open Go
/-- Of one symbol's node or a list of children read at b: it is valid where it stands. -/
theorem rd_valid {m d s b acc r n ch} (h : Rd m d s b acc r n ch) : ∀ (L : List Sx), (∀ j, j < n.length → L[b + j]? = n[j]?) → okTo L b → okTo L (b + n.length) ∧ (m = true → 1 ≤ n.length ∧ sz L (b + n.length - 1) = n.length ∧ dp L (b + n.length - 1) + d ≤ 12 ∧ (tx L (b + n.length - 1)).length + 1 + 2 * r.length ≤ 2 * s.length) ∧
    (m = false → ∃ nc, ch = acc ++ nc ∧ chn L ((b + n.length : Nat) : Int) nc.reverse = some (b : Int) ∧ (∀ c ∈ nc, dp L c.toNat + d + 1 ≤ 12) ∧ (joinF (nc.map fun c => tx L c.toNat)).length + 2 + 2 * r.length ≤ 2 * s.length ∧ (nc ≠ [] → (joinF (nc.map fun c => tx L c.toNat)).length + 3 + 2 * r.length ≤ 2 * s.length)) := by
  induction h with
  | @sym d s b acc w r h h0 ha hl hr hd =>
    intro L hL ho
    have hw := List.length_pos_iff.2 h0
    have hb : L[b]? = some ⟨w, []⟩ := by have := hL 0 (by simp); simpa using this
    have hx : chL L b = [] := by unfold chL; rw [hb]
    have hlow : lowTo L (b + 1) := fun j hj => by
      by_cases e : j = b
      · subst e; intro c hc; rw [hx] at hc; cases hc
      · exact ho.low j (by omega)
    have hsz := sz_eq hlow
    have hdp := dp_eq hlow
    have htx := tx_eq hlow hb
    rw [hx] at hsz hdp
    simp only [sumN, maxN, Nat.add_zero] at hsz hdp
    rw [if_neg h0] at htx
    refine ⟨fun j hj x hjx => ?_, fun _ => ?_, fun h => by cases h⟩
    · simp only [List.length_singleton] at hj
      by_cases e : j = b
      · subst e
        rw [hb] at hjx
        cases hjx
        refine ⟨?_, ⟨_, rfl⟩, by omega⟩
        unfold shapeC
        rw [if_neg h0, if_neg (by simp only [Bool.not_eq_false, symbolB, Bool.and_eq_true, decide_eq_true_eq, List.all_eq_true]; exact ⟨ha, by omega, hl⟩), if_neg (by simp)]
      · exact ho j (by omega) x hjx
    · have hk := (sk_suf s).length_le
      rw [h, List.length_append] at hk
      simp only [List.length_singleton, Nat.add_sub_cancel]
      rw [hsz, hdp, htx]
      refine ⟨Nat.le_refl _, rfl, by omega, ?_⟩
      simp only
      omega
  | @lst d s b acc r r' new ch h hd hi ih =>
    intro L hL ho
    obtain ⟨i1, _, i3⟩ := ih L (fun j hj => by have := hL j (by simp; omega); rwa [List.getElem?_append_left hj] at this) ho
    obtain ⟨nc, e1, e2, e3, e4, e5⟩ := i3 rfl
    rw [List.nil_append] at e1
    subst e1
    have hb : L[b + new.length]? = some ⟨[], ch⟩ := by have := hL new.length (by simp); simpa using this
    have hx : chL L (b + new.length) = ch := by unfold chL; rw [hb]
    have hce := chn_end e2
    have hlow : lowTo L (b + new.length + 1) := fun j hj => by
      by_cases e : j = b + new.length
      · subst e; intro c hc; rw [hx] at hc; have := hce.2 c (List.mem_reverse.2 hc); omega
      · exact i1.low j (by omega)
    have hsz := sz_eq hlow
    have hdp := dp_eq hlow
    have htx := tx_eq hlow hb
    rw [hx] at hsz hdp
    rw [if_pos rfl] at htx
    have hse := hce.1
    rw [sumN_rev] at hse
    have hmx : maxN (dp L) ch + d + 1 ≤ 12 := by
      have : ∀ (cs : List Int), (∀ c ∈ cs, dp L c.toNat + d + 1 ≤ 12) → maxN (dp L) cs + d + 1 ≤ 12 := by
        intro cs
        induction cs with
        | nil => intro _; simp only [maxN]; omega
        | cons c cs ih => intro h; have := ih fun c' h' => h c' (by simp [h']); have := h c (by simp); simp only [maxN]; omega
      exact this ch e3
    have hk := (sk_suf s).length_le
    rw [h] at hk
    simp only [List.length_cons] at hk
    refine ⟨fun j hj x hjx => ?_, fun _ => ?_, fun h => by cases h⟩
    · simp only [List.length_append, List.length_singleton] at hj
      by_cases e : j = b + new.length
      · subst e
        rw [hb] at hjx
        cases hjx
        exact ⟨by unfold shapeC; rw [if_pos rfl], ⟨_, e2⟩, by omega⟩
      · exact i1 j (by omega) x hjx
    · simp only [List.length_append, List.length_singleton]
      rw [show b + (new.length + 1) - 1 = b + new.length from by omega, hsz, hdp, htx]
      simp only [List.length_cons, List.length_append, List.length_nil]
      omega
  | @close d s b acc r h =>
    intro L hL ho
    have hk := (sk_suf s).length_le
    rw [h] at hk
    simp only [List.length_cons] at hk
    refine ⟨by simpa using ho, (by intro h; cases h), fun _ => ⟨[], by simp, by simp [chn], by simp, by simp [joinF]; omega, fun h => absurd rfl h⟩⟩
  | @next d s b acc r1 n1 r2 n2 ch h hi hj i1 i2 =>
    intro L hL ho
    obtain ⟨a1, a2, _⟩ := i1 L (fun j hj => by have := hL j (by simp; omega); rwa [List.getElem?_append_left hj] at this) ho
    obtain ⟨b1, b2, b3, b4⟩ := a2 rfl
    obtain ⟨c1, _, c3⟩ := i2 L (fun j hj => by
      have := hL (n1.length + j) (by simp; omega)
      rw [List.getElem?_append_right (by omega)] at this
      rw [Nat.add_assoc, this]
      congr 1
      omega) a1
    obtain ⟨nc, e1, e2, e3, e4, e5⟩ := c3 rfl
    have hk := (sk_suf s).length_le
    refine ⟨by rw [List.length_append, ← Nat.add_assoc]; exact c1, (by intro h; cases h), fun _ => ⟨(((b + n1.length : Nat) : Int) - 1) :: nc, by rw [e1]; simp, ?_, ?_, ?_, ?_⟩⟩
    · rw [List.reverse_cons, chn_snoc, List.length_append, ← Nat.add_assoc, e2]
      simp only
      rw [if_neg (by omega)]
      congr 1
      rw [show (((b + n1.length : Nat) : Int) - 1).toNat = b + n1.length - 1 from by omega, b2]
      omega
    · intro c hc
      rcases List.mem_cons.1 hc with rfl | hc
      · rw [show (((b + n1.length : Nat) : Int) - 1).toNat = b + n1.length - 1 from by omega]; omega
      · exact e3 c hc
    · cases nc with
      | nil =>
        simp only [List.map_cons, List.map_nil, joinF, List.length_nil] at e4 ⊢
        rw [show (((b + n1.length : Nat) : Int) - 1).toNat = b + n1.length - 1 from by omega]
        omega
      | cons c2 cs =>
        have := e5 (by simp)
        simp only [List.map_cons, joinF, List.length_append, List.length_cons] at this ⊢
        rw [show (((b + n1.length : Nat) : Int) - 1).toNat = b + n1.length - 1 from by omega]
        omega
    · intro _
      cases nc with
      | nil =>
        simp only [List.map_cons, List.map_nil, joinF, List.length_nil] at e4 ⊢
        rw [show (((b + n1.length : Nat) : Int) - 1).toNat = b + n1.length - 1 from by omega]
        omega
      | cons c2 cs =>
        have := e5 (by simp)
        simp only [List.map_cons, joinF, List.length_append, List.length_cons] at this ⊢
        rw [show (((b + n1.length : Nat) : Int) - 1).toNat = b + n1.length - 1 from by omega]
        omega
theorem len_sumN {f : Nat → Nat} (hf : ∀ i, 1 ≤ f i) : ∀ l : List Int, l.length ≤ sumN f l
  | [] => Nat.le_refl _
  | a :: l => by have := len_sumN hf l; have := hf a.toNat; simp only [List.length_cons, sumN]; omega
/-- Valid expressions are small lists of memory. -/
theorem SxOk.mem {l : List Sx} (h : SxOk l) : SxsOk l := by
  have hl := h.len
  have key : ∀ x ∈ l, x.sym.length ≤ 12 ∧ x.ch.length ≤ 300 ∧ ∀ c ∈ x.ch, 0 ≤ c ∧ c < 300 := by
    intro x hx
    obtain ⟨i, hi, rfl⟩ := List.mem_iff_getElem.1 hx
    have hg := List.getElem?_eq_getElem hi
    have hv := h.node i hi _ hg
    have hlow := hv.low hg
    have hsz := sz_eq (fun j hj => h.node.low j (by omega) : lowTo l (i + 1))
    have hle := sz_le i l.length h.node hi
    have := len_sumN (fun j => sz_pos l j) (chL l i)
    unfold Hm.low at hlow
    rw [chL_get hg] at *
    refine ⟨?_, by omega, fun c hc => by have := hlow c hc; omega⟩
    have h1 := hv.shape
    unfold shapeC at h1
    split at h1
    · rename_i e; rw [e]; simp
    · split at h1
      · cases h1
      · rename_i h2
        simp only [Bool.not_eq_false, symbolB, Bool.and_eq_true, decide_eq_true_eq] at h2
        exact h2.2.2
  exact ⟨by omega, fun x hx => by have := key x hx; omega, fun x hx c hc => by have := (key x hx).2.2 c hc; exact ⟨by show (-9223372036854775808 : Int) ≤ c; omega, by show c ≤ 9223372036854775807; omega⟩⟩
/-- What is read is valid, and its text at most twice as long. -/
theorem read_valid {t : List UInt8} (h : readF t = okF) : SxOk (readL t) ∧ (tx (readL t) ((readL t).length - 1)).length ≤ 2 * t.length := by
  obtain ⟨h1, h2, h3, h4⟩ := read_ok h
  have hR := rd_of _ true 0 t 0 [] (by simp) h2
  have hL : readL t = (rdQ t).new := by unfold readL; rw [if_pos h]
  have hv := rd_valid hR (rdQ t).new (fun j hj => by rw [Nat.zero_add]; rfl) (fun j hj => by omega)
  obtain ⟨v1, v2, _⟩ := hv
  obtain ⟨w1, w2, w3, w4⟩ := v2 rfl
  rw [hL]
  simp only [Nat.zero_add] at v1 w2 w3 w4
  refine ⟨⟨⟨w1, h4⟩, v1, w2⟩, ?_⟩
  have e : prs (2 * t.length + 1) true 0 t 0 [] = rdQ t := rfl
  rw [e] at w4
  omega
end Hm
end

section
/- Reading a list of two texts that are read. No program in sight. -/
namespace Hm
set_option linter.unusedVariables false
set_option linter.unusedSimpArgs false
open Go
theorem sk_app {s z : List UInt8} (h : sk s ≠ []) : sk (s ++ z) = sk s ++ z := by
  unfold sk at h ⊢
  rw [List.dropWhile_append]
  rw [if_neg (by simpa [List.isEmpty_iff] using h)]
theorem sk_app0 {s z : List UInt8} (h : sk s = []) : sk (s ++ z) = sk z := by
  unfold sk at h ⊢
  rw [List.dropWhile_append, if_pos (by simpa [List.isEmpty_iff] using h)]
theorem rd_sk {d s b acc r n ch} (h : Rd true d s b acc r n ch) : Rd true d (sk s) b acc r n ch := by
  cases h with
  | sym h h0 ha hl hr hd => exact .sym (by rw [sk_idem]; exact h) h0 ha hl hr hd
  | lst h hd hi => exact .lst (by rw [sk_idem]; exact h) hd hi
theorem rd_head {d s b acc r n ch} (h : Rd true d s b acc r n ch) : ∃ c w, sk s = c :: w ∧ c ≠ 41 := by
  cases h with
  | sym h h0 ha hl hr hd =>
    rename_i w
    match w, h0 with
    | c :: w, _ => exact ⟨c, w ++ r, h, symB_41 (ha c (by simp))⟩
  | lst h hd hi => exact ⟨40, _, h, by decide⟩
/-- One deeper, and with more behind it: the same is read, or it is too deep. -/
theorem rd_deeper {m d s b acc r n ch} (h : Rd m d s b acc r n ch) : ∀ (z : List UInt8) (b' : Nat) (acc' : List Int) (f : Nat), (∀ c w, z = c :: w → symB c = false) → (m = false → d + 1 < 12) → 2 * (s ++ z).length + (if m then 1 else 2) ≤ f →
    (prs f m (d + 1) (s ++ z) b' acc').code = 10 ∨ ∃ n' ch', prs f m (d + 1) (s ++ z) b' acc' = ⟨r ++ z, n', ch', 0⟩ ∧ n'.length = n.length ∧ (b' = b → n' = n ∧ (acc' = acc → ch' = ch)) := by
  induction h with
  | @sym d s b acc w r h h0 ha hl hr hd =>
    intro z b' acc' f hz _ hf
    match f, hf with
    | f + 1, _ =>
      have hk : sk (s ++ z) = w ++ (r ++ z) := by
        rw [sk_app (by rw [h]; simp [h0]), h, List.append_assoc]
      have hrz : ∀ c y, r ++ z = c :: y → symB c = false := by
        cases r with
        | nil => simpa using hz
        | cons c r => intro c' y e; cases e; exact hr c r rfl
      match w, h0, ha, hl, hk with
      | c :: w, _, ha, hl, hk =>
        obtain ⟨t1, t2⟩ := tw_app symB (c :: w) (r ++ z) ha hrz
        have hc := ha c (by simp)
        simp only [List.cons_append] at t1 t2 hk
        simp only [prs, hk]
        rw [if_neg (by simp [hc])]
        by_cases hd2 : d + 1 = 12
        · rw [if_pos hd2]
          exact .inl rfl
        · rw [if_neg hd2, if_pos (symB_40 hc), t1, t2, if_neg (by omega)]
          exact .inr ⟨_, _, rfl, rfl, fun _ => ⟨rfl, fun _ => rfl⟩⟩
  | @lst d s b acc r r' new ch h hd hi ih =>
    intro z b' acc' f hz _ hf
    have hl := (sk_suf s).length_le
    rw [h] at hl
    simp only [List.length_cons, if_true, List.length_append] at hl hf
    match f, hf with
    | f + 1, hf =>
      have hk : sk (s ++ z) = 40 :: (r ++ z) := by
        rw [sk_app (by rw [h]; simp), h, List.cons_append]
      simp only [prs, hk]
      rw [if_neg (by simp)]
      by_cases hd2 : d + 1 = 12
      · rw [if_pos hd2]
        exact .inl rfl
      · rw [if_neg hd2, if_neg (by simp)]
        rcases ih z b' [] f hz (fun _ => by omega) (by simp; omega) with h1 | ⟨n', ch', h1, h2, h3⟩
        · rw [if_pos (by rw [h1]; simp)]
          exact .inl h1
        · rw [h1, if_neg (by simp)]
          exact .inr ⟨_, _, rfl, by simp [h2], fun e => ⟨by rw [(h3 e).1, (h3 e).2 rfl], fun _ => rfl⟩⟩
  | @close d s b acc r h =>
    intro z b' acc' f hz _ hf
    match f, hf with
    | f + 1, hf =>
      have hk : sk (s ++ z) = 41 :: (r ++ z) := by
        rw [sk_app (by rw [h]; simp), h, List.cons_append]
      simp only [prs, hk]
      rw [if_pos (by simp)]
      exact .inr ⟨_, _, rfl, rfl, fun _ => ⟨rfl, fun e => e⟩⟩
  | @next d s b acc r1 n1 r2 n2 ch h hi hj i1 i2 =>
    intro z b' acc' f hz hd hf
    have hl := (sk_suf s).length_le
    have hr := rd_len hi
    simp only [Bool.false_eq_true, if_false, List.length_append] at hf
    match f, hf with
    | f + 1, hf =>
      obtain ⟨c, w, hc, h41⟩ := rd_head hi
      rw [sk_idem] at hc
      have hk : sk (s ++ z) = sk s ++ z := sk_app (by rw [hc]; simp)
      simp only [prs, hk]
      rw [if_neg (by rw [hc]; simp [h41])]
      have hd1 := hd rfl
      rcases i1 z b' [] f hz (fun e => by cases e) (by simp; omega) with h1 | ⟨n', ch', h1, h2, h3⟩
      · rw [if_pos (by rw [h1]; simp)]
        exact .inl h1
      · rw [h1]
        simp only
        rw [if_neg (by simp)]
        rcases i2 z (b' + n'.length) (acc' ++ [((b' + n'.length : Nat) : Int) - 1]) f hz (fun _ => hd1) (by simp; omega) with g1 | ⟨n2', ch2', g1, g2, g3⟩
        · exact .inl g1
        · rw [g1]
          refine .inr ⟨_, _, rfl, by simp [h2, g2], fun e => ?_⟩
          subst e
          obtain ⟨k1, k2⟩ := h3 rfl
          subst k1
          obtain ⟨k3, k4⟩ := g3 rfl
          exact ⟨by rw [k3], fun e => k4 (by rw [e])⟩
theorem prs_nx {f d b : Nat} {s : List UInt8} {acc : List Int} {q : PR} (h : (sk s).head? ≠ some 41) (hq : prs f true (d + 1) (sk s) b [] = q) (h0 : q.code = 0) :
    prs (f + 1) false d s b acc = ⟨(prs f false d q.rest (b + q.new.length) (acc ++ [((b + q.new.length : Nat) : Int) - 1])).rest, q.new ++ (prs f false d q.rest (b + q.new.length) (acc ++ [((b + q.new.length : Nat) : Int) - 1])).new, (prs f false d q.rest (b + q.new.length) (acc ++ [((b + q.new.length : Nat) : Int) - 1])).ch, (prs f false d q.rest (b + q.new.length) (acc ++ [((b + q.new.length : Nat) : Int) - 1])).code⟩ := by
  simp only [prs]
  rw [hq, if_neg h, if_neg (by simp [h0])]
def nestT (a b : List UInt8) : List UInt8 := 40 :: (a ++ 32 :: (b ++ [41]))
theorem nest_read {a b : List UInt8} (ha : readF a = okF) (hb : readF b = okF) : (rdQ (nestT a b)).code = 10 ∨ ∃ n', n'.length = (readL b).length ∧ rdQ (nestT a b) = ⟨[], readL a ++ n' ++ [⟨[], [((readL a).length : Int) - 1, (((readL a).length + (readL b).length : Nat) : Int) - 1]⟩], [], 0⟩ := by
  obtain ⟨_, a2, a3, _⟩ := read_ok ha
  obtain ⟨_, b2, b3, _⟩ := read_ok hb
  have hA : Rd true 0 a 0 [] (rdQ a).rest (rdQ a).new (rdQ a).ch := rd_of _ true 0 a 0 [] (by simp) a2
  have hB : Rd true 0 b 0 [] (rdQ b).rest (rdQ b).new (rdQ b).ch := rd_of _ true 0 b 0 [] (by simp) b2
  have eA : readL a = (rdQ a).new := by unfold readL; rw [if_pos ha]
  have eB : readL b = (rdQ b).new := by unfold readL; rw [if_pos hb]
  have hca := rd_ch hA rfl
  have hcb := rd_ch hB rfl
  rw [eA, eB]
  have hlen : (nestT a b).length = a.length + b.length + 3 := by simp [nestT]; omega
  have e1 : rdQ (nestT a b) = prs (2 * (a.length + b.length + 3) + 1) true 0 (nestT a b) 0 [] := by unfold rdQ; rw [hlen]
  rw [e1]
  generalize (rdQ a).ch = cha at *
  generalize (rdQ b).ch = chb at *
  generalize (rdQ a).new = x at *
  generalize (rdQ b).new = y at *
  generalize (rdQ a).rest = ra at *
  generalize (rdQ b).rest = rb at *
  clear a2 b2 ha hb eA eB e1 hlen
  have lA := rd_len hA
  have lB := rd_len hB
  obtain ⟨c1, w1, hh1, h41⟩ := rd_head hA
  obtain ⟨c2, w2, hh2, h42⟩ := rd_head hB
  have sA := (sk_suf a).length_le
  have sB := (sk_suf b).length_le
  have hk0 : sk (nestT a b) = 40 :: (a ++ 32 :: (b ++ [41])) := sk_stop (by decide)
  have kA : sk (a ++ 32 :: (b ++ [41])) = sk a ++ 32 :: (b ++ [41]) := sk_app (by rw [hh1]; simp)
  have kB : sk (ra ++ 32 :: (b ++ [41])) = sk b ++ [41] := by rw [sk_app0 a3, sk_cons (by decide), sk_app (by rw [hh2]; simp)]
  have kC : sk (rb ++ [41]) = [41] := by rw [sk_app0 b3]; exact sk_stop (by decide)
  simp only [prs, hk0]
  rw [if_neg (by simp), if_neg (by omega), if_neg (by simp)]
  obtain ⟨F, hF⟩ : ∃ F, 2 * (a.length + b.length + 3) = F + 3 := ⟨2 * (a.length + b.length) + 3, by omega⟩
  have hF2 : 2 * (a.length + b.length) + 3 ≤ F := by omega
  rw [hF]
  have nA := rd_deeper (rd_sk hA) (32 :: (b ++ [41])) 0 [] (F + 2) (by rintro c w e; cases e; decide) (fun e => by cases e) (by simp; omega)
  rw [Nat.zero_add] at nA
  rcases nA with h1 | ⟨n', ch', h1, h2, h3⟩
  · left
    have hq := prs_bad (f := F + 2) (d := 0) (b := 0) (s := a ++ 32 :: (b ++ [41])) (acc := []) (by rw [kA, hh1]; simp [h41]) (by rw [kA, Nat.zero_add]; omega)
    rw [kA, Nat.zero_add] at hq
    rw [hq]
    simp only
    rw [if_pos (by rw [h1]; simp)]
    exact h1
  · obtain ⟨k1, _⟩ := h3 rfl
    subst k1
    have nB := rd_deeper (rd_sk hB) [41] n'.length [] (F + 1) (by rintro c w e; cases e; decide) (fun e => by cases e) (by simp; omega)
    rw [Nat.zero_add] at nB
    have hstep := prs_nx (f := F + 2) (d := 0) (b := 0) (s := a ++ 32 :: (b ++ [41])) (acc := []) (q := ⟨ra ++ 32 :: (b ++ [41]), n', ch', 0⟩) (by rw [kA, hh1]; simp [h41]) (by rw [kA, Nat.zero_add]; exact h1) rfl
    simp only [Nat.zero_add, List.nil_append] at hstep
    rw [hstep]
    rcases nB with g1 | ⟨n2, ch2, g1, g2, g3⟩
    · left
      have hq := prs_bad (f := F + 1) (d := 0) (b := n'.length) (s := ra ++ 32 :: (b ++ [41])) (acc := [(n'.length : Int) - 1]) (by rw [kB, hh2]; simp [h42]) (by rw [kB, Nat.zero_add]; omega)
      rw [kB, Nat.zero_add] at hq
      rw [hq]
      simp only
      rw [if_pos (by rw [g1]; simp)]
      exact g1
    · right
      refine ⟨n2, g2, ?_⟩
      have hq := prs_nx (f := F + 1) (d := 0) (b := n'.length) (s := ra ++ 32 :: (b ++ [41])) (acc := [(n'.length : Int) - 1]) (q := ⟨rb ++ [41], n2, ch2, 0⟩) (by rw [kB, hh2]; simp [h42]) (by rw [kB, Nat.zero_add]; exact g1) rfl
      rw [prs_close (r := []) kC] at hq
      rw [hq]
      simp [g2]
/-- The answer. -/
theorem nest_ok {a b : List UInt8} (ha : readF a = okF) (hb : readF b = okF) : (readF (nestT a b) = okF → ∃ n', n'.length = (readL b).length ∧ readL (nestT a b) = readL a ++ n' ++ [⟨[], [((readL a).length : Int) - 1, (((readL a).length + (readL b).length : Nat) : Int) - 1]⟩]) ∧
    (readF (nestT a b) ≠ okF → a.length + b.length ≤ 4093 → (readL a).length + (readL b).length ≤ 299 → (readF (nestT a b)).code = 10) := by
  have hlen : (nestT a b).length = a.length + b.length + 3 := by simp [nestT]; omega
  rcases nest_read ha hb with h | ⟨n', h1, h2⟩
  · refine ⟨fun e => ?_, fun _ h4 h5 => ?_⟩
    · have := (read_ok e).2.1
      omega
    · unfold readF
      rw [if_neg (by omega), if_pos (by omega)]
      exact h
  · refine ⟨fun e => ⟨n', h1, ?_⟩, fun hne h4 h5 => ?_⟩
    · unfold readL
      rw [if_pos e, h2]
      rfl
    · exfalso
      apply hne
      unfold readF
      rw [h2, if_neg (by omega), if_neg (by simp), if_neg (by simp [sk]), if_neg (by simp; omega)]
end Hm
end
