/- Part T4A of the proof. -/
import Derived.Test.YtkbiopblaggdoaaGreatDoorTC
set_option linter.unusedVariables false
set_option linter.unusedSimpArgs false
section
namespace Hm
open Go
theorem ne_ok {f : Flt} (h : (!(f.code == 0 && (f.index == 0 && true))) = true) : f ≠ okF := by
  rw [ft_ok_iff] at h; simpa using h
section
variable {G : Type} {P : Program} {H : HT G} {pn : List Nat} {Q : Exit → Env → Store → G → Prop} {fs : List (Frm G)} {ρ : Env} {σ : Store} {g : G} {r : List GItem} {d : Nat} {dst : Option Nat} {a b : Cmd} {v : V} {o : AOp}
theorem fzL_all : ∀ l : List V, fzL l = some l
  | [] => rfl
  | v :: r => by
    have h : fz v = some v := by cases v <;> rfl
    simp only [fzL, h, fzL_all r]
theorem fzA_agg (l : List V) : fzA (some (.agg l)) = some (.agg l) := by simp only [fzA, fzL_all]
theorem strow_at {size j : Nat} {l l' : List V} (h1 : l'.length = size) (h2 : l'.all leafB = true) (h3 : j + size ≤ l.length) : strow size j (.agg l) (.agg l') = some (.agg (l.take j ++ l' ++ l.drop (j + size))) := by
  have e1 : Nat.beq l'.length size = true := by rw [h1]; exact Nat.beq_refl _
  have e3 : Nat.ble (j + size) l.length = true := Nat.ble_eq_true_of_le h3
  simp only [strow, e1, h2, Bool.and_true, cond_true, e3]
  cases hb : (Nat.beq j 0 && Nat.beq size l.length) with
  | false => rfl
  | true =>
    simp only [Bool.and_eq_true] at hb
    have hj := Nat.eq_of_beq_eq_true hb.1
    have hs := Nat.eq_of_beq_eq_true hb.2
    subst hj
    simp [hs]
theorem strow_leaf {j : Nat} {l : List V} {k : IntKind} {n : Int} (h : j < l.length) : strow 1 j (.agg l) (.int k n) = some (.agg (l.set j (.int k n))) := by
  have e : Nat.ble (j + 1) l.length = true := Nat.ble_eq_true_of_le h
  simp [strow, leafB, e]
theorem i_irs {b len c : Nat} {k : IntKind} {n : Int} {size : Nat} {x i : Opd} (hx : ev ρ x = .rsl b len c) (hi : ev ρ i = .int k n) (h0 : 0 ≤ n) (h1 : n < len) (h : WI P H pn Q fs r (upd ρ d (.raw b (n.toNat * size))) σ g) : WI P H pn Q fs (.op (some d) none (.iaddr size x i) :: r) ρ σ g := i_out (by
  simp only [AWop, hx, hi]
  exact ⟨h0, h1, h.out⟩)
theorem i_apn (nm : Nat) {size bytes et : Nat} {xs : List V} {x y : Opd} (hx : ev ρ x = .sl .nil []) (hy : srcR σ (ev ρ y) = some xs) (hne : xs ≠ []) (hc : ∀ row ∈ xs, row.cells.length = size ∧ row.cells.all leafB = true) (h1 : xs.length * bytes ≤ 140737488355328) (h2 : xs.length ≤ 140737488355328) (hs : σ nm = .unused) (ht : tyOkB nm et = true)
    (h : ∀ b c, xs.length ≤ c → WI P H pn Q fs r (upd ρ d (.rsl b xs.length c)) (ups σ nm (.box (.tag b (flatC xs ++ List.replicate ((c - xs.length) * size) .any)))) g) : WI P H pn Q fs (.op (some d) none (.appR size bytes et x y) :: r) ρ σ g := i_out (by
  simp only [AWop, hx, hy]
  exact ⟨hne, hc, h1, h2, nm, hs, ht, fun b c hc => (h b c hc).out⟩)
theorem c_frzs {t nm b n c m : Nat} {l : List V} (rows : List V) (ht : ρ t = .rsl b n c) (hs : σ nm = .box (.tag b l)) (h1 : rows.length = n) (h2 : ∀ row ∈ rows, row.cells.length = m) (h3 : (flatC rows).all pureB = true) (h4 : l.take (n * m) = flatC rows)
    (h : WE P H pn Q fs .normal (upd ρ t (.sl .p rows)) (ups σ nm .dead) g) : WC P H pn Q fs (.frz t) ρ σ g := ⟨by
  simp only [AW, AWit, ht]
  exact ⟨nm, l, rows, m, hs, h1, h2, h3, h4, h.out⟩⟩
theorem c_frzr (nm nm2 : Nat) {b b2 n c j : Nat} {l l2 : List V} (hs : σ nm = .box (.tag b l)) (hj : l[j]? = some (.rsl b2 n c)) (hs2 : σ nm2 = .box (.tag b2 l2)) (hne : nm ≠ nm2) (hn : n ≤ l2.length) (hp : (l2.take n).all (fun v => leafB v && pureB v) = true)
    (h : WC P H pn Q fs a ρ (ups (ups σ nm2 .dead) nm (.box (.tag b (l.set j (.sl .p (l2.take n)))))) g) : WC P H pn Q fs (.frzr a) ρ σ g := ⟨by
  simp only [AW]
  exact ⟨nm, nm2, b, b2, n, c, j, l, l2, hs, hj, hs2, hne, hn, hp, h.out⟩⟩
end
theorem supers_ind {l : List Typ} (hv : TyValid l) (Pr : Int → Prop) (h0 : ∀ t, t < 0 → Pr t) (h1 : ∀ (t : Int) (x : Typ), 0 ≤ t → t < l.length → l[t.toNat]? = some x → -1 ≤ x.parent → x.parent < t → Pr x.parent → Pr t) : ∀ t : Int, t < l.length → Pr t := by
  have key : ∀ (n : Nat) (t : Int), t < n → t < l.length → Pr t := by
    intro n
    induction n with
    | zero => intro t ht _; exact h0 t (by omega)
    | succ n ih =>
      intro t ht hl
      by_cases hn : t < 0
      · exact h0 t hn
      · obtain ⟨x, hx, _, h2, h3⟩ := parent_ok hv (by omega) hl
        exact h1 t x (by omega) hl hx h2 h3 (ih x.parent (by omega) (by omega))
  intro t ht
  exact key (t.toNat + 1) t (by omega) ht
theorem supers_range {l : List Typ} (hv : TyValid l) (t : Int) (h0 : -1 ≤ t) (h1 : t < l.length) : ∀ x ∈ supers l t, -1 ≤ x ∧ x ≤ t := by
  refine supers_ind hv (fun t => -1 ≤ t → ∀ x ∈ supers l t, -1 ≤ x ∧ x ≤ t) (fun t ht h0 x hx => ?_) (fun t x h0 h1 hx h2 h3 ih _ y hy => ?_) t h1 h0
  · rw [supers_neg ht] at hx
    simp at hx
    omega
  · rw [supers_cons hv h0 h1 hx] at hy
    rcases List.mem_cons.1 hy with rfl | hy
    · omega
    · have := ih h2 y hy; omega
theorem supers_split {l : List Typ} (hv : TyValid l) (t : Int) (h1 : t < l.length) : ∀ y ∈ supers l t, ∃ pre, supers l t = pre ++ supers l y ∧ ∀ z ∈ pre, y < z := by
  refine supers_ind hv (fun t => ∀ y ∈ supers l t, ∃ pre, supers l t = pre ++ supers l y ∧ ∀ z ∈ pre, y < z) (fun t ht y hy => ?_) (fun t x h0 h1 hx h2 h3 ih y hy => ?_) t h1
  · rw [supers_neg ht] at hy ⊢
    simp at hy
    subst hy
    exact ⟨[], by rw [supers_neg (by omega)]; rfl, fun z hz => by cases hz⟩
  · rw [supers_cons hv h0 h1 hx] at hy ⊢
    rcases List.mem_cons.1 hy with rfl | hy
    · exact ⟨[], by rw [supers_cons hv h0 h1 hx]; rfl, fun z hz => by cases hz⟩
    · obtain ⟨pre, e, hp⟩ := ih y hy
      refine ⟨t :: pre, by rw [e]; rfl, fun z hz => ?_⟩
      rcases List.mem_cons.1 hz with ez | hz
      · have := (supers_range hv x.parent h2 (by omega) y hy).2; omega
      · exact hp z hz
theorem subB_iff {l : List Typ} {a b : Int} : subB l a b = true ↔ b ∈ supers l a := by simp [subB]
theorem sub_trans {l : List Typ} (hv : TyValid l) {a b c : Int} (h1 : a < l.length) (h : subB l a b = true) (k : subB l b c = true) : subB l a c = true := by
  obtain ⟨pre, e, _⟩ := supers_split hv a h1 b (subB_iff.1 h)
  rw [subB_iff, e]
  exact List.mem_append.2 (.inr (subB_iff.1 k))
def setInit (d : Dom) (l : List At) : Dom := ⟨d.types, d.objects, d.preds, d.schemas, l, d.goal⟩
theorem prdCode_set (d : Dom) (l : List At) (i : Nat) : prdCode (setInit d l) i = prdCode d i := rfl
theorem schCode_set (d : Dom) (l : List At) (i : Nat) : schCode (setInit d l) i = schCode d i := rfl
theorem atomCode_put {d : Dom} (hd : DomV d) {a : At} (h : atomCode d [] a = 0) {k : Nat} {x o : Int} (hx : a.args[k]? = some x) (h0 : 0 ≤ o) {ox oo : Obj} (hox : d.objects[x.toNat]? = some ox) (hoo : d.objects[o.toNat]? = some oo) (hs : subB d.types oo.type ox.type = true) :
    atomCode d [] ⟨a.pred, a.args.set k o⟩ = 0 := by
  obtain ⟨⟨p0, p1⟩, p, hp, hlen, harg⟩ := atom_args h
  unfold atomCode
  simp only
  rw [if_neg (by omega), hp]
  simp only [List.length_set]
  rw [if_neg (by simpa using hlen), scan0_none fun j hj => ?_]
  · rfl
  · obtain ⟨y, hy⟩ := get_some hj
    obtain ⟨t, u, ht, hu, hsub⟩ := harg j y hy
    unfold argBad
    simp only
    rw [List.getElem?_set]
    by_cases hkj : k = j
    · subst hkj
      rw [hx] at hy
      cases hy
      rw [if_pos rfl, if_pos hj, ht]
      simp only
      have hto : typeOfA d [] o = some oo.type := by
        unfold typeOfA
        rw [if_pos ⟨h0, by have := get_lt hoo; omega⟩, hoo]
        rfl
      have hux : u = ox.type := by
        unfold typeOfA at hu
        split at hu
        · rw [hox] at hu; cases hu; rfl
        · split at hu
          · rename_i h5; simp at h5; omega
          · cases hu
      rw [hto]
      unfold tyoBad
      simp only
      rw [if_pos]
      rw [hux] at hsub
      exact sub_trans hd.ty.ty (hd.ty.o oo (mem_get hoo)).2 hs hsub
    · rw [if_neg hkj, hy, ht]
      simp only [hu]
      unfold tyoBad
      simp only
      rw [if_pos hsub]
theorem put_fault {d : Dom} (hd : DomV d) {i k : Nat} {a : At} (ha : d.init[i]? = some a) {x o : Int} (hx : a.args[k]? = some x) (h0 : 0 ≤ o) {ox oo : Obj} (hox : d.objects[x.toNat]? = some ox) (hoo : d.objects[o.toNat]? = some oo) (hs : subB d.types oo.type ox.type = true) :
    domFault (setInit d (d.init.set i ⟨a.pred, a.args.set k o⟩)) = okF ∨ domFault (setInit d (d.init.set i ⟨a.pred, a.args.set k o⟩)) = ⟨7, -5⟩ := by
  obtain ⟨i1, i2⟩ := atomsCode_all hd.ini
  generalize he : setInit d (d.init.set i ⟨a.pred, a.args.set k o⟩) = e
  have e1 : e.types = d.types := by rw [← he]; rfl
  have e2 : e.objects = d.objects := by rw [← he]; rfl
  have e3 : e.preds = d.preds := by rw [← he]; rfl
  have e4 : e.schemas = d.schemas := by rw [← he]; rfl
  have e5 : e.goal = d.goal := by rw [← he]; rfl
  have e6 : e.init = d.init.set i ⟨a.pred, a.args.set k o⟩ := by rw [← he]; rfl
  have hac : ∀ ps b, atomCode e ps b = atomCode d ps b := fun ps b => by rw [← he]; rfl
  have hini : atomsCode e [] e.init 40 = 0 := by
    unfold atomsCode
    rw [e6, List.length_set, if_neg (by omega)]
    refine fnz_ok fun j hj b hb => ?_
    rw [hac]
    rw [List.getElem?_set] at hb
    split at hb
    · split at hb
      · cases hb
        exact atomCode_put hd (i2 a (mem_get ha)) hx h0 hox hoo hs
      · cases hb
    · exact i2 b (mem_get hb)
  have hgoal : atomsCode e [] (e.goal.map Lit.at_) 8 = 0 := by
    have := hd.goal
    rw [e5]
    rw [← he]
    exact this
  unfold domFault
  rw [if_neg (by rw [e1]; simp [hd.types]), if_neg (by rw [e1, e2]; simp [hd.objects]), if_neg (by rw [e3]; have := hd.pl; omega), scan0_none fun j hj => by
    unfold nzF
    rw [if_pos (by rw [← he, prdCode_set]; exact hd.prd j (by rw [e3] at hj; exact hj))]]
  simp only
  rw [if_neg (by rw [e4]; have := hd.sl; omega), scan0_none fun j hj => by
    unfold nzF
    rw [if_pos (by rw [← he, schCode_set]; exact hd.sch j (by rw [e4] at hj; exact hj))]]
  simp only
  have hst : startCode e = 0 ∨ startCode e = 7 := by
    unfold startCode
    rw [if_neg (by simp [hini])]
    cases hsc : scan (dupBad e.init) 0 e.init.length with
    | none => exact .inl rfl
    | some c =>
      have := scan_prop (bad := dupBad e.init) (fun o => ∀ c, o = some c → c = 7) (by simp) (fun j c hc => by
        unfold dupBad at hc
        split at hc
        · cases hc
        · split at hc
          · cases hc; rfl
          · cases hc) e.init.length 0
      exact .inr (this c hsc)
  rcases hst with hst | hst
  · rw [if_neg (by simp [hst]), if_neg (by simp [hgoal])]; exact .inl rfl
  · rw [if_pos (by simp [hst]), hst]; exact .inr rfl
end Hm
end
