/- Part YC of the proof. -/
import Derived.Test.YtcafpbooikaahaaGreatYB
set_option linter.unusedVariables false
set_option linter.unusedSimpArgs false
section
namespace Hm
open Go
inductive Frm (G : Type) where
  | seq (b : Cmd)
  | block (id : Nat)
  | loop (N : Env → Store → G → Prop)
def kont {G : Type} (P : Program) (H : HT G) (pn : List Nat) (Q : Exit → Env → Store → G → Prop) : List (Frm G) → Exit → Env → Store → G → Prop
  | [] => Q
  | .seq b :: fs => fun e ρ σ g => match e with
    | .normal => AW P H pn b ρ σ g (kont P H pn Q fs)
    | e => kont P H pn Q fs e ρ σ g
  | .block id :: fs => fun e ρ σ g => match e with
    | .exit id' => bif Nat.beq id' id then kont P H pn Q fs .normal ρ σ g else kont P H pn Q fs (.exit id') ρ σ g
    | e => kont P H pn Q fs e ρ σ g
  | .loop N :: fs => fun e ρ σ g => match e with
    | .normal => N ρ σ g
    | e => kont P H pn Q fs e ρ σ g
structure WC {G : Type} (P : Program) (H : HT G) (pn : List Nat) (Q : Exit → Env → Store → G → Prop) (fs : List (Frm G)) (c : Cmd) (ρ : Env) (σ : Store) (g : G) : Prop where
  out : AW P H pn c ρ σ g (kont P H pn Q fs)
structure WE {G : Type} (P : Program) (H : HT G) (pn : List Nat) (Q : Exit → Env → Store → G → Prop) (fs : List (Frm G)) (e : Exit) (ρ : Env) (σ : Store) (g : G) : Prop where
  out : kont P H pn Q fs e ρ σ g
structure WI {G : Type} (P : Program) (H : HT G) (pn : List Nat) (Q : Exit → Env → Store → G → Prop) (fs : List (Frm G)) (l : List GItem) (ρ : Env) (σ : Store) (g : G) : Prop where
  out : AWits P H l ρ σ g (kont P H pn Q fs .normal)
def fz : V → Option V
  | .any => some .any
  | .bool b => some (.bool b)
  | .int k n => some (.int k n)
  | .str s => some (.str s)
  | .agg l => some (.agg l)
  | .tup l => some (.tup l)
  | .sl t rows => some (.sl t rows)
  | .msl nm gen i len => some (.msl nm gen i len)
  | .ptr nm gen i j => some (.ptr nm gen i j)
  | .bptr nm j => some (.bptr nm j)
  | .cptr t row j => some (.cptr t row j)
  | .nilptr => some .nilptr
  | .fn f caps => some (.fn f caps)
  | .nilfn => some .nilfn
  | .rnd => some .rnd
  | .raw b j => some (.raw b j)
  | .tag b l => some (.tag b l)
theorem fz_eq {v u : V} (h : fz v = some u) : u = v := by cases v <;> cases h <;> rfl
def fzL : List V → Option (List V)
  | [] => some []
  | v :: r => match fz v, fzL r with
    | some v', some r' => some (v' :: r')
    | _, _ => none
theorem fzL_eq : ∀ {l m : List V}, fzL l = some m → m = l
  | [], _, h => by cases h; rfl
  | v :: r, m, h => by
    simp only [fzL] at h
    split at h
    · rename_i v' r' h1 h2
      cases h
      rw [fz_eq h1, fzL_eq h2]
    · cases h
def fzA : Option V → Option V
  | some (.agg l) => match fzL l with
    | some l' => some (.agg l')
    | none => none
  | some v => fz v
  | none => none
theorem fzA_eq {o : Option V} {u : V} (h : fzA o = some u) : o = some u := by
  unfold fzA at h
  split at h
  · split at h
    · rename_i h1
      cases h
      rw [fzL_eq h1]
    · cases h
  · rw [fz_eq h]
  · cases h
def binv (op : BinOp) (st : Bool) (et : List LT) (x y : V) : Option V :=
  match op, x, y with
  | .lss, .int k a, .int k' b => bif kEq k k' then some (.bool (decide (a < b))) else none
  | .leq, .int k a, .int k' b => bif kEq k k' then some (.bool (decide (a ≤ b))) else none
  | .gtr, .int k a, .int k' b => bif kEq k k' then some (.bool (decide (a > b))) else none
  | .geq, .int k a, .int k' b => bif kEq k k' then some (.bool (decide (a ≥ b))) else none
  | .eql, x, y => match eqv st et x y with
    | some b => some (.bool b)
    | none => none
  | .neq, x, y => match eqv st et x y with
    | some b => some (.bool (!b))
    | none => none
  | _, _, _ => none
def sop (ρ : Env) (σ : Store) : AOp → Option V
  | .mov x => fz (ev ρ x)
  | .pick c a b => match ev ρ c with
    | .bool true => fz (ev ρ a)
    | .bool false => fz (ev ρ b)
    | _ => none
  | .bin op st et x y => binv op st et (ev ρ x) (ev ρ y)
  | .not x => match ev ρ x with
    | .bool t => some (.bool (!t))
    | _ => none
  | .len s x => match s, ev ρ x with
    | false, .sl _ rows => some (.int .i64 rows.length)
    | false, .msl nm gen _ n => match σ nm with
      | .arr gen' _ => bif Nat.beq gen gen' then some (.int .i64 n) else none
      | _ => none
    | true, .str s => some (.int .i64 s.length)
    | _, _ => none
  | .build zero parts => match partsOf ρ zero parts with
    | some l => match fzL l with
      | some l' => some (.agg l')
      | none => none
    | none => none
  | .bsl size xs => match fzL (xs.map (ev ρ)) with
    | some l => bif l.all (fun v => pureB v && rowB v && Nat.beq v.cells.length size) then some (.sl .p l) else none
    | none => none
  | .load agg size a => match ev ρ a with
    | .bptr nm j => match σ nm with
      | .box row => fzA (ldrow agg size j row)
      | _ => none
    | .cptr _ row j => fzA (ldrow agg size j row)
    | _ => none
  | .faddr off x => match ev ρ x with
    | .bptr nm j => match σ nm with
      | .box _ => some (.bptr nm (j + off))
      | _ => none
    | .ptr nm gen i j => match σ nm with
      | .arr gen' _ => bif Nat.beq gen gen' then some (.ptr nm gen i (j + off)) else none
      | _ => none
    | .cptr t row j => some (.cptr t row (j + off))
    | .raw b j => some (.raw b (j + off))
    | _ => none
  | .field agg size off x => match ev ρ x with
    | .agg l => fzA (ldrow agg size off (.agg l))
    | _ => none
  | .extract x i => match ev ρ x with
    | .tup l => fzA l[i]?
    | _ => none
  | .cut0 x => match ev ρ x with
    | .sl _ _ => some (.sl .nil [])
    | _ => none
  | .mkfn f caps => match fzL (caps.map (ev ρ)) with
    | some l => some (.fn f l)
    | none => none
  | .nilck x => match ev ρ x with
    | .bptr nm j => match σ nm with
      | .box _ => some (.bptr nm j)
      | _ => none
    | .cptr t row j => some (.cptr t row j)
    | .raw b j => some (.raw b j)
    | .fn f caps => some (.fn f caps)
    | .rnd => some .rnd
    | _ => none
  | _ => none
def bsto (ρ : Env) (σ : Store) (size : Nat) (a x : Opd) : Option (Nat × V) := match ev ρ a with
  | .bptr nm j => match σ nm with
    | .box row => match fzA (strow size j row (ev ρ x)) with
      | some r => some (nm, r)
      | none => none
    | _ => none
  | _ => none
def boxv (ρ : Env) (size : Nat) (x : Opd) : Option V := match fz (ev ρ x) with
  | some v => bif rowB v && Nat.beq size v.cells.length then some v else none
  | none => none
structure Fc (P : Program) (f : Nat) (args : List V) (r : V) : Prop where
  out : Fn P f args r
structure Cc {G : Type} (P : Program) (H : HT G) (f : Nat) (args : List V) (pn : List Nat) (σ : Store) (g : G) (K : V → Store → G → Prop) : Prop where
  out : CT P H f args pn σ g K
def calv (ρ : Env) (f : Opd) (args : List Opd) : Option (Nat × List V) := match ev ρ f with
  | .fn fid caps => match fzL (args.map (ev ρ)) with
    | some as => some (fid, as ++ caps)
    | none => none
  | _ => none
section
variable {G : Type} {P : Program} {H : HT G} {pn : List Nat} {Q : Exit → Env → Store → G → Prop} {fs : List (Frm G)} {ρ : Env} {σ : Store} {g : G} {r : List GItem} {d : Nat} {dst : Option Nat} {a b : Cmd} {v : V} {o : AOp}
theorem c_seq (h : WC P H pn Q (.seq b :: fs) a ρ σ g) : WC P H pn Q fs (.seq a b) ρ σ g := ⟨by
  have := h.out
  simp only [AW]
  refine cast (congrArg (AW P H pn a ρ σ g) ?_) this
  funext e ρ' σ' g'
  cases e <;> rfl⟩
theorem c_skip (h : WE P H pn Q fs .normal ρ σ g) : WC P H pn Q fs .skip ρ σ g := ⟨h.out⟩
theorem c_ops {l : List GItem} (h : WI P H pn Q fs l ρ σ g) : WC P H pn Q fs (.ops l) ρ σ g := ⟨h.out⟩
theorem c_leaf {l : List GItem} {r : List Nat} (h : WI P H pn Q fs (pickAll l r) ρ σ g) : WC P H pn Q fs (.opsT (.leaf r) l) ρ σ g := ⟨h.out⟩
theorem c_node {l : List GItem} {i j : Nat} {x y : OT} (h : WC P H pn Q fs (.opsT x l) ρ σ g) (k : WC P H pn Q fs (.opsT y l) ρ σ g) : WC P H pn Q fs (.opsT (.node i j x y) l) ρ σ g := ⟨⟨h.out, k.out⟩⟩
theorem c_cond {x : Opd} {t : Bool} (hx : ev ρ x = .bool t) (h1 : t = true → WC P H pn Q fs a ρ σ g) (h2 : t = false → WC P H pn Q fs b ρ σ g) : WC P H pn Q fs (.cond x a b) ρ σ g := ⟨by
  simp only [AW, hx]
  exact splitB_intro (fun h => (h1 h).out) (fun h => (h2 h).out)⟩
theorem c_t {x : Opd} (hx : ev ρ x = .bool true) (h : WC P H pn Q fs a ρ σ g) : WC P H pn Q fs (.cond x a b) ρ σ g := c_cond hx (fun _ => h) (fun e => by cases e)
theorem c_f {x : Opd} (hx : ev ρ x = .bool false) (h : WC P H pn Q fs b ρ σ g) : WC P H pn Q fs (.cond x a b) ρ σ g := c_cond hx (fun e => by cases e) (fun _ => h)
theorem c_block {id : Nat} (h : WC P H pn Q (.block id :: fs) a ρ σ g) : WC P H pn Q fs (.block id a) ρ σ g := ⟨by
  have := h.out
  simp only [AW]
  refine cast (congrArg (AW P H pn a ρ σ g) ?_) this
  funext e ρ' σ' g'
  cases e <;> rfl⟩
theorem c_exit {id : Nat} (h : WE P H pn Q fs (.exit id) ρ σ g) : WC P H pn Q fs (.exit id) ρ σ g := ⟨h.out⟩
theorem c_ret (h : WE P H pn Q fs .ret ρ σ g) : WC P H pn Q fs .ret ρ σ g := ⟨h.out⟩
theorem c_fzb {t j nm bn k : Nat} {l0 rows : List V} (ht : ρ t = .bptr bn 0) (hb : σ bn = .box (.agg l0)) (hj : l0[j]? = some (.sl (.own nm) rows)) (hu : σ nm = .vec k) (h : WC P H pn Q fs a ρ (ups (ups σ nm .dead) bn (.box (.agg (l0.set j (.sl .p rows))))) g) : WC P H pn Q fs (.fzb t j a) ρ σ g := ⟨by
  simp only [AW, ht, hb, hj, hu]
  exact h.out⟩
theorem c_nvb {t j nm bn : Nat} {l0 : List V} (ht : ρ t = .bptr bn 0) (hb : σ bn = .box (.agg l0)) (hu : σ nm = .unused) (hj : l0[j]? = some (.sl .nil [])) (h : WC P H pn Q fs a ρ (ups (ups σ nm (.vec 0)) bn (.box (.agg (l0.set j (.sl (.own nm) []))))) g) : WC P H pn Q fs (.nvb t j nm a) ρ σ g := ⟨by
  simp only [AW, ht, hu, hb, hj]
  exact h.out⟩
theorem c_nvs {t nm bn : Nat} (ht : ρ t = .bptr bn 0) (hb : σ bn = .box (.sl .nil [])) (hu : σ nm = .unused) (h : WC P H pn Q fs a ρ (ups (ups σ nm (.vec 0)) bn (.box (.sl (.own nm) []))) g) : WC P H pn Q fs (.nvs t nm a) ρ σ g := ⟨by
  simp only [AW, ht, hu, hb]
  exact h.out⟩
theorem c_cut0 (h : WC P H pn Q fs a ρ σ g) : WC P H pn Q fs (.cut a) ρ σ g := ⟨.inl h.out⟩
theorem c_cut (E : List (Nat × V)) (Sg : List (Nat × Blk)) (hf : Fits pn E Sg ρ σ) (h : WC P H pn Q fs a (envOf E) (stOf Sg) g) : WC P H pn Q fs (.cut a) ρ σ g := ⟨.inr ⟨E, Sg, hf, h.out⟩⟩
theorem c_loop {ι : Type} (E : ι → List (Nat × V)) (Sg : ι → List (Nat × Blk)) (gi : ι → G) (inv : ι → Prop) (μ : ι → Nat) (i0 : ι) (h0 : inv i0) (hf : Fits pn (E i0) (Sg i0) ρ σ) (hg : gi i0 = g)
    (hs : ∀ i, inv i → WC P H pn Q (.loop (fun ρ' σ' g' => ∃ i', inv i' ∧ Fits pn (E i') (Sg i') ρ' σ' ∧ gi i' = g' ∧ μ i' < μ i) :: fs) a (envOf (E i)) (stOf (Sg i)) (gi i)) : WC P H pn Q fs (.loop a) ρ σ g := ⟨by
  simp only [AW]
  refine ⟨ι, E, Sg, gi, inv, μ, ⟨i0, h0, hf, hg⟩, fun i hi => ?_⟩
  have := (hs i hi).out
  refine cast (congrArg (AW P H pn a _ _ _) ?_) this
  funext e ρ' σ' g'
  cases e <;> rfl⟩
theorem c_join (hM : MonoH H) (R : Exit → Env → Store → G → Prop) (h : WC P H pn R [] a ρ σ g) (k : ∀ e ρ' σ' g', R e ρ' σ' g' → WE P H pn Q fs e ρ' σ' g') : WC P H pn Q fs a ρ σ g :=
  ⟨AW_mono hM a pn ρ σ g _ _ (fun e ρ' σ' g' h => (k e ρ' σ' g' h).out) h.out⟩
theorem e_seq (h : WC P H pn Q fs b ρ σ g) : WE P H pn Q (.seq b :: fs) .normal ρ σ g := ⟨h.out⟩
theorem e_block {id : Nat} (h : WE P H pn Q fs .normal ρ σ g) : WE P H pn Q (.block id :: fs) .normal ρ σ g := ⟨h.out⟩
theorem e_loop {N : Env → Store → G → Prop} (h : N ρ σ g) : WE P H pn Q (.loop N :: fs) .normal ρ σ g := ⟨h⟩
theorem e_end {e : Exit} (h : Q e ρ σ g) : WE P H pn Q [] e ρ σ g := ⟨h⟩
theorem e_ret (h : Q .ret ρ σ g) : WE P H pn Q fs .ret ρ σ g := ⟨by
  induction fs with
  | nil => exact h
  | cons f fs ih => cases f <;> exact ih⟩
def popTo (id : Nat) : List (Frm G) → List (Frm G)
  | [] => []
  | .block id' :: fs => bif Nat.beq id id' then fs else popTo id fs
  | _ :: fs => popTo id fs
def hasBlk (id : Nat) : List (Frm G) → Bool
  | [] => false
  | .block id' :: fs => bif Nat.beq id id' then true else hasBlk id fs
  | _ :: fs => hasBlk id fs
theorem e_exit {id : Nat} (h0 : hasBlk id fs = true) (h : WE P H pn Q (popTo id fs) .normal ρ σ g) : WE P H pn Q fs (.exit id) ρ σ g := ⟨by
  obtain ⟨h⟩ := h
  induction fs with
  | nil => cases h0
  | cons f fs ih =>
    cases f with
    | seq b => exact ih h0 h
    | loop N => exact ih h0 h
    | block id' =>
      simp only [hasBlk, popTo] at h0 h
      simp only [kont]
      cases hb : Nat.beq id id' with
      | true => rw [hb] at h; exact h
      | false => rw [hb] at h h0; exact ih h0 h⟩
theorem i_nil (h : WE P H pn Q fs .normal ρ σ g) : WI P H pn Q fs [] ρ σ g := ⟨h.out⟩
theorem sop_ok {K : V → Store → G → Prop} (h : sop ρ σ o = some v) (k : K v σ g) : AWop P H ρ σ g o K := by
  cases o with
  | mov x => simp only [sop] at h; simp only [AWop]; rw [← fz_eq h]; exact k
  | pick c x y =>
    simp only [sop] at h; simp only [AWop]
    split at h
    · rename_i e; rw [e]; simp only [cond_true]; rw [← fz_eq h]; exact k
    · rename_i e; rw [e]; simp only [cond_false]; rw [← fz_eq h]; exact k
    · cases h
  | bin op st et x y =>
    simp only [sop] at h; simp only [AWop]
    revert h
    generalize ev ρ x = x
    generalize ev ρ y = y
    intro h
    unfold binv at h
    split at h
    · cases hk : kEq _ _ with
      | true => rw [hk] at h; cases h; simp only [abin, hk, cond_true]; exact k
      | false => rw [hk] at h; cases h
    · cases hk : kEq _ _ with
      | true => rw [hk] at h; cases h; simp only [abin, hk, cond_true]; exact k
      | false => rw [hk] at h; cases h
    · cases hk : kEq _ _ with
      | true => rw [hk] at h; cases h; simp only [abin, hk, cond_true]; exact k
      | false => rw [hk] at h; cases h
    · cases hk : kEq _ _ with
      | true => rw [hk] at h; cases h; simp only [abin, hk, cond_true]; exact k
      | false => rw [hk] at h; cases h
    · split at h
      · rename_i e; cases h; simp only [abin, e]; exact k
      · cases h
    · split at h
      · rename_i e; cases h; simp only [abin, e]; exact k
      · cases h
    · cases h
  | not x =>
    simp only [sop] at h; simp only [AWop]
    split at h
    · rename_i e; cases h; rw [e]; exact k
    · cases h
  | len s x =>
    simp only [sop] at h; simp only [AWop]
    split at h
    · rename_i e; cases h; rw [e]; exact k
    · rename_i nm gen i n e
      split at h
      · rename_i gen' rows e2
        cases hb : Nat.beq gen gen' with
        | true => rw [hb] at h; cases h; rw [e]; simp only [e2]; exact ⟨Nat.eq_of_beq_eq_true hb, k⟩
        | false => rw [hb] at h; cases h
      · cases h
    · rename_i e; cases h; rw [e]; exact k
    · cases h
  | build zero parts =>
    simp only [sop] at h; simp only [AWop]
    split at h
    · rename_i l e
      rw [e]
      split at h
      · rename_i l' e2; cases h; rw [← fzL_eq e2]; exact k
      · cases h
    · cases h
  | bsl size xs =>
    simp only [sop] at h; simp only [AWop]
    split at h
    · rename_i l e
      rw [← fzL_eq e]
      cases hb : l.all (fun v => pureB v && rowB v && Nat.beq v.cells.length size) with
      | true => rw [hb] at h; cases h; exact ⟨rfl, k⟩
      | false => rw [hb] at h; cases h
    · cases h
  | load agg size x =>
    simp only [sop] at h; simp only [AWop]
    split at h
    · rename_i e
      split at h
      · rename_i e2; rw [e]; simp only [e2]; rw [fzA_eq h]; exact k
      · cases h
    · rename_i e; rw [e]; simp only; rw [fzA_eq h]; exact k
    · cases h
  | faddr off x =>
    simp only [sop] at h; simp only [AWop]
    split at h
    · rename_i e
      split at h
      · rename_i e2; cases h; rw [e]; simp only [e2]; exact k
      · cases h
    · rename_i nm gen i j e
      split at h
      · rename_i gen' rows e2
        cases hb : Nat.beq gen gen' with
        | true => rw [hb] at h; cases h; rw [e]; simp only [e2]; exact ⟨Nat.eq_of_beq_eq_true hb, k⟩
        | false => rw [hb] at h; cases h
      · cases h
    · rename_i e; cases h; rw [e]; exact k
    · rename_i e; cases h; rw [e]; exact k
    · cases h
  | field agg size off x =>
    simp only [sop] at h; simp only [AWop]
    split at h
    · rename_i e; rw [e]; simp only; rw [fzA_eq h]; exact k
    · cases h
  | extract x i =>
    simp only [sop] at h; simp only [AWop]
    split at h
    · rename_i e; rw [e]; simp only; rw [fzA_eq h]; exact k
    · cases h
  | cut0 x =>
    simp only [sop] at h; simp only [AWop]
    split at h
    · rename_i e; cases h; rw [e]; exact k
    · cases h
  | mkfn f caps =>
    simp only [sop] at h; simp only [AWop]
    split at h
    · rename_i l e; cases h; rw [← fzL_eq e]; exact k
    · cases h
  | nilck x =>
    simp only [sop] at h; simp only [AWop]
    split at h
    · rename_i e
      split at h
      · rename_i e2; cases h; rw [e]; simp only [e2]; exact k
      · cases h
    · rename_i e; cases h; rw [e]; exact k
    · rename_i e; cases h; rw [e]; exact k
    · rename_i e; cases h; rw [e]; exact k
    · rename_i e; cases h; rw [e]; exact k
    · cases h
  | _ => cases h
theorem i_out (h : AWop P H ρ σ g o fun v σ' g' => AWits P H r (put ρ dst v) σ' g' (kont P H pn Q fs .normal)) : WI P H pn Q fs (.op dst none o :: r) ρ σ g := ⟨by
  show AWop P H ρ σ g o fun v σ' g' => force v fun v => AWits P H r (put ρ dst v) σ' g' _
  simp only [force_eq]
  exact h⟩
theorem i_s (h : sop ρ σ o = some v) (k : WI P H pn Q fs r (upd ρ d v) σ g) : WI P H pn Q fs (.op (some d) none o :: r) ρ σ g := i_out (sop_ok h k.out)
theorem i_s0 (h : sop ρ σ o = some v) (k : WI P H pn Q fs r ρ σ g) : WI P H pn Q fs (.op none none o :: r) ρ σ g := i_out (sop_ok h k.out)
theorem i_gt {s : Nat} {want : Bool} (hs : ρ s = .bool want) (h : WI P H pn Q fs (.op dst none o :: r) (upd ρ s (.bool want)) σ g) : WI P H pn Q fs (.op dst (some (s, want)) o :: r) ρ σ g := ⟨by
  simp only [AWits, AWit, hs]
  exact splitB_intro (fun _ => h.out) (fun e => by cases want <;> cases e)⟩
theorem i_gf {s : Nat} {want : Bool} (hs : ρ s = .bool (!want)) (h : WI P H pn Q fs r (put (upd ρ s (.bool (!want))) dst (.tup [])) σ g) : WI P H pn Q fs (.op dst (some (s, want)) o :: r) ρ σ g := ⟨by
  simp only [AWits, AWit, hs]
  exact splitB_intro (fun e => by cases want <;> cases e) (fun _ => h.out)⟩
theorem i_gd {s : Nat} {want : Bool} (hs : ρ s = .tup []) (h : WI P H pn Q fs r (put ρ dst (.tup [])) σ g) : WI P H pn Q fs (.op dst (some (s, want)) o :: r) ρ σ g := ⟨by
  simp only [AWits, AWit, hs]
  exact h.out⟩
theorem i_g {s : Nat} {want b : Bool} (hs : ρ s = .bool b) (h1 : b = want → WI P H pn Q fs (.op dst none o :: r) (upd ρ s (.bool want)) σ g) (h2 : b = (!want) → WI P H pn Q fs r (put (upd ρ s (.bool (!want))) dst (.tup [])) σ g) : WI P H pn Q fs (.op dst (some (s, want)) o :: r) ρ σ g := ⟨by
  simp only [AWits, AWit, hs]
  exact splitB_intro (fun e => (h1 e).out) (fun e => (h2 e).out)⟩
theorem kEq_refl {k : IntKind} {n : Int} (h : InR k n) : kEq k k = true := by cases k <;> first | rfl | exact h.elim
theorem i_add {k : IntKind} {m n : Int} {st : Bool} {et : List LT} {x y : Opd} (hx : ev ρ x = .int k m) (hy : ev ρ y = .int k n) (hr : InR k (m + n)) (h : WI P H pn Q fs r (upd ρ d (.int k (m + n))) σ g) :
    WI P H pn Q fs (.op (some d) none (.bin .add st et x y) :: r) ρ σ g := i_out (by
  simp only [AWop, hx, hy, abin, kEq_refl hr, cond_true]
  rw [wrap_id hr]; exact h.out)
theorem i_sub {k : IntKind} {m n : Int} {st : Bool} {et : List LT} {x y : Opd} (hx : ev ρ x = .int k m) (hy : ev ρ y = .int k n) (hr : InR k (m - n)) (h : WI P H pn Q fs r (upd ρ d (.int k (m - n))) σ g) :
    WI P H pn Q fs (.op (some d) none (.bin .sub st et x y) :: r) ρ σ g := i_out (by
  simp only [AWop, hx, hy, abin, kEq_refl hr, cond_true]
  rw [wrap_id hr]; exact h.out)
theorem i_conv {k k' : IntKind} {n : Int} {x : Opd} (hx : ev ρ x = .int k' n) (hr : InR k n) (h : WI P H pn Q fs r (upd ρ d (.int k n)) σ g) : WI P H pn Q fs (.op (some d) none (.conv k x) :: r) ρ σ g := i_out (by
  simp only [AWop, hx]
  exact ⟨hr, h.out⟩)
theorem i_ia {size : Nat} {t : Tag} {rows : List V} {kk : IntKind} {n : Int} {row : V} {x i : Opd} (hx : ev ρ x = .sl t rows) (hi : ev ρ i = .int kk n) (h0 : 0 ≤ n) (hr : rows[n.toNat]? = some row) (hw : Nat.beq size row.cells.length = true)
    (h : WI P H pn Q fs r (upd ρ d (.cptr t row 0)) σ g) : WI P H pn Q fs (.op (some d) none (.iaddr size x i) :: r) ρ σ g := i_out (by
  simp only [AWop, hx, hi]
  exact ⟨h0, row, hr, hw, h.out⟩)
theorem i_iam {α : Type} {f : α → V} {l : List α} {size : Nat} {t : Tag} {kk : IntKind} {k : Nat} {c : α} {x i : Opd} (hx : ev ρ x = .sl t (l.map f)) (hi : ev ρ i = .int kk (k : Int)) (hr : l[k]? = some c) (hw : Nat.beq size (f c).cells.length = true)
    (h : WI P H pn Q fs r (upd ρ d (.cptr t (f c) 0)) σ g) : WI P H pn Q fs (.op (some d) none (.iaddr size x i) :: r) ρ σ g :=
  i_ia hx hi (by omega) (by simp [hr]) hw h
theorem i_ima {size : Nat} {nm gen i len gen' : Nat} {rows : List V} {kk : IntKind} {n : Int} {x y : Opd} (hx : ev ρ x = .msl nm gen i len) (hi : ev ρ y = .int kk n) (hs : σ nm = .arr gen' rows) (hg : gen = gen') (h0 : 0 ≤ n) (h1 : n < len) (hw : Nat.beq (wd nm) size = true)
    (h : WI P H pn Q fs r (upd ρ d (.ptr nm gen (i + n.toNat) 0)) σ g) : WI P H pn Q fs (.op (some d) none (.iaddr size x y) :: r) ρ σ g := i_out (by
  simp only [AWop, hx, hi, hs]
  exact ⟨hg, h0, h1, hw, h.out⟩)
theorem i_ix {s : List UInt8} {kk : IntKind} {n : Int} {c : UInt8} {x i : Opd} (hx : ev ρ x = .str s) (hi : ev ρ i = .int kk n) (h0 : 0 ≤ n) (hc : s[n.toNat]? = some c) (h : WI P H pn Q fs r (upd ρ d (.int .u8 c.toNat)) σ g) :
    WI P H pn Q fs (.op (some d) none (.index x i) :: r) ρ σ g := i_out (by
  simp only [AWop, hx, hi]
  exact ⟨h0, c, hc, h.out⟩)
theorem i_idxA {l : List V} {len : Nat} {kk : IntKind} {n : Int} {c : V} {x i : Opd} (hx : ev ρ x = .agg l) (hi : ev ρ i = .int kk n) (h0 : 0 ≤ n) (h1 : n < len) (hc : l[n.toNat]? = some c) (h : WI P H pn Q fs r (upd ρ d c) σ g) :
    WI P H pn Q fs (.op (some d) none (.idxA len x i) :: r) ρ σ g := i_out (by
  simp only [AWop, hx, hi]
  exact ⟨h0, h1, c, hc, h.out⟩)
theorem i_ixm {s : List UInt8} {kk : IntKind} {k : Nat} {c : UInt8} {x i : Opd} (hx : ev ρ x = .str s) (hi : ev ρ i = .int kk (k : Int)) (hc : s[k]? = some c) (h : WI P H pn Q fs r (upd ρ d (.int .u8 c.toNat)) σ g) :
    WI P H pn Q fs (.op (some d) none (.index x i) :: r) ρ σ g := i_ix hx hi (by omega) (by simpa using hc) h
theorem i_ldp {agg : Bool} {size nm gen i j gen' : Nat} {rows : List V} {row : V} {x : Opd} (hx : ev ρ x = .ptr nm gen i j) (hs : σ nm = .arr gen' rows) (hg : gen = gen') (hr : rows[i]? = some row) (hl : fzA (ldrow agg size j row) = some v)
    (h : WI P H pn Q fs r (upd ρ d v) σ g) : WI P H pn Q fs (.op (some d) none (.load agg size x) :: r) ρ σ g := i_out (by
  simp only [AWop, hx, hs]
  refine ⟨hg, row, hr, ?_⟩
  rw [fzA_eq hl]
  exact h.out)
theorem i_stp {size nm gen i j gen' : Nat} {rows : List V} {row row' : V} {x y : Opd} (hx : ev ρ x = .ptr nm gen i j) (hs : σ nm = .arr gen' rows) (hg : gen = gen') (hr : rows[i]? = some row) (hp : pureB (ev ρ y) = true) (hl : fzA (strow size j row (ev ρ y)) = some row')
    (h : WI P H pn Q fs r (put ρ dst (.tup [])) (ups σ nm (.arr gen (rows.set i row'))) g) : WI P H pn Q fs (.op dst none (.store size x y) :: r) ρ σ g := i_out (by
  simp only [AWop, hx, hs]
  refine ⟨hg, hp, row, hr, ?_⟩
  rw [fzA_eq hl]
  exact h.out)
theorem i_stb {size nm : Nat} {row : V} {x y : Opd} (hx : bsto ρ σ size x y = some (nm, row)) (h : WI P H pn Q fs r (put ρ dst (.tup [])) (ups σ nm (.box row)) g) : WI P H pn Q fs (.op dst none (.store size x y) :: r) ρ σ g := i_out (by
  unfold bsto at hx
  split at hx
  · rename_i e
    split at hx
    · rename_i e2
      split at hx
      · rename_i e3
        cases hx
        simp only [AWop, e, e2, fzA_eq e3]
        exact h.out
      · cases hx
    · cases hx
  · cases hx)
theorem i_alloc {nm : Nat} {z : V} (hs : σ nm = .unused) (h : WI P H pn Q fs r (upd ρ d (.bptr nm 0)) (ups σ nm (.box z)) g) : WI P H pn Q fs (.op (some d) none (.alloc nm z) :: r) ρ σ g := i_out (by
  simp only [AWop, hs]
  exact h.out)
theorem i_box {nm size : Nat} {x : Opd} (hs : σ nm = .unused) (hx : boxv ρ size x = some v) (h : WI P H pn Q fs r (upd ρ d (.bptr nm 0)) (ups σ nm (.box v)) g) : WI P H pn Q fs (.op (some d) none (.box nm size x) :: r) ρ σ g := i_out (by
  unfold boxv at hx
  split at hx
  · rename_i v' e
    cases fz_eq e
    cases hb : rowB (ev ρ x) && Nat.beq size (ev ρ x).cells.length with
    | true =>
      rw [hb] at hx; cases hx
      simp only [AWop, hs, hb, cond_true]
      exact h.out
    | false => rw [hb] at hx; cases hx
  · cases hx)
theorem i_nv {nm : Nat} (hs : σ nm = .unused) (h : WI P H pn Q fs r (upd ρ d (.sl (.own nm) [])) (ups σ nm (.vec 0)) g) : WI P H pn Q fs (.op (some d) none (.newVec nm) :: r) ρ σ g := i_out (by
  simp only [AWop, hs]
  exact h.out)
theorem i_na {nm : Nat} (hs : σ nm = .unused) (h : WI P H pn Q fs r (upd ρ d (.msl nm 0 0 0)) (ups σ nm (.arr 0 [])) g) : WI P H pn Q fs (.op (some d) none (.newArr nm) :: r) ρ σ g := i_out (by
  simp only [AWop, hs]
  exact h.out)
theorem i_app {size bytes et nm k : Nat} {rows xs : List V} {t : Tag} {x y : Opd} (hx : ev ρ x = .sl (.own nm) rows) (hy : ev ρ y = .sl t xs) (hs : σ nm = .vec k) (hk : rows.length = k) (hw : (Nat.beq (wd nm) size && tyOkB nm et) = true)
    (hc : ∀ row ∈ xs, row.cells.length = size ∧ row.cells.all leafB = true) (h1 : (k + xs.length) * bytes ≤ 140737488355328) (h2 : k + xs.length ≤ 140737488355328)
    (h : WI P H pn Q fs r (upd ρ d (.sl (.own nm) (rows ++ xs))) (ups σ nm (.vec (k + xs.length))) g) : WI P H pn Q fs (.op (some d) none (.append size bytes et x y) :: r) ρ σ g := i_out (by
  simp only [AWop, hx, hy, srcR, hs]
  exact ⟨hk, hw, hc, h1, h2, h.out⟩)
theorem i_app1 {size bytes et nm k : Nat} {rows : List V} {row : V} {t : Tag} {x y : Opd} (hx : ev ρ x = .sl (.own nm) rows) (hy : ev ρ y = .sl t [row]) (hs : σ nm = .vec k) (hk : rows.length = k) (hw : ((Nat.beq (wd nm) size && tyOkB nm et) && (Nat.beq row.cells.length size && row.cells.all leafB)) = true)
    (h1 : (k + 1) * bytes ≤ 140737488355328) (h2 : k + 1 ≤ 140737488355328)
    (h : WI P H pn Q fs r (upd ρ d (.sl (.own nm) (rows ++ [row]))) (ups σ nm (.vec (k + 1))) g) : WI P H pn Q fs (.op (some d) none (.append size bytes et x y) :: r) ρ σ g := by
  simp only [Bool.and_eq_true] at hw
  exact i_app hx hy hs hk (by rw [Bool.and_eq_true]; exact hw.1) (fun row' hm => by
    rw [List.mem_singleton.1 hm]
    exact ⟨Nat.eq_of_beq_eq_true hw.2.1, hw.2.2⟩) h1 h2 h
theorem i_appm {size bytes et nm gen len gen' : Nat} {rows xs : List V} {t : Tag} {x y : Opd} (hx : ev ρ x = .msl nm gen 0 len) (hy : ev ρ y = .sl t xs) (hs : σ nm = .arr gen' rows) (hg : gen = gen') (hw : Nat.beq (wd nm) size = true)
    (hc : ∀ row ∈ xs, row.cells.length = size ∧ row.cells.all leafB = true) (h1 : (len + xs.length) * bytes ≤ 140737488355328) (h2 : len + xs.length ≤ 140737488355328)
    (h : WI P H pn Q fs r (upd ρ d (.msl nm (gen + 1) 0 (len + xs.length))) (ups σ nm (.arr (gen + 1) (rows.take len ++ xs))) g) : WI P H pn Q fs (.op (some d) none (.append size bytes et x y) :: r) ρ σ g := i_out (by
  simp only [AWop, hx, hy, srcR, hs]
  exact ⟨hg, hw, hc, h1, h2, h.out⟩)
theorem i_mks {nm size bytes : Nat} {z : V} {m n : Int} {x y : Opd} (hs : σ nm = .unused) (hx : ev ρ x = .int .i64 m) (hy : ev ρ y = .int .i64 n) (h0 : 0 ≤ m) (h1 : m ≤ n) (h2 : n * bytes ≤ 140737488355328) (h3 : n ≤ 140737488355328)
    (hw : (Nat.beq (wd nm) size && Nat.beq z.cells.length size) = true) (h : WI P H pn Q fs r (upd ρ d (.msl nm 0 0 m.toNat)) (ups σ nm (.arr 0 (List.replicate m.toNat z))) g) : WI P H pn Q fs (.op (some d) none (.mkSl nm size bytes z x y) :: r) ρ σ g := i_out (by
  simp only [Bool.and_eq_true] at hw
  simp only [AWop, hx, hy, hs]
  exact ⟨h0, h1, h2, h3, hw.1, hw.2, h.out⟩)
def loV (ρ : Env) (lo : Option Opd) : V := (lo.map (ev ρ)).getD (.int .i64 0)
theorem i_slh {size : Nat} {t : Tag} {rows : List V} {k1 k2 : IntKind} {m n : Int} {x : Opd} {lo : Option Opd} {hi : Opd} (hx : ev ρ x = .sl t rows) (hlo : loV ρ lo = .int k1 m) (hhi : ev ρ hi = .int k2 n) (h0 : 0 ≤ m) (h1 : m ≤ n) (h2 : n ≤ rows.length) (hw : m = 0 ∨ ∀ row ∈ rows, row.cells.length = size)
    (h : WI P H pn Q fs r (upd ρ d (.sl t ((rows.take n.toNat).drop m.toNat))) σ g) : WI P H pn Q fs (.op (some d) none (.slice false size x lo (some hi)) :: r) ρ σ g := i_out (by
  unfold loV at hlo
  simp only [AWop, hx, hlo, Option.map_some, hhi]
  exact ⟨h0, h1, h2, hw, h.out⟩)
theorem i_smh {size nm gen i len gen' : Nat} {rows : List V} {k1 k2 : IntKind} {m n : Int} {x : Opd} {lo : Option Opd} {hi : Opd} (hx : ev ρ x = .msl nm gen i len) (hlo : loV ρ lo = .int k1 m) (hhi : ev ρ hi = .int k2 n) (hs : σ nm = .arr gen' rows) (hg : gen = gen') (h0 : 0 ≤ m) (h1 : m ≤ n) (h2 : n ≤ len) (hw : Nat.beq (wd nm) size = true)
    (h : WI P H pn Q fs r (upd ρ d (.msl nm gen (i + m.toNat) (n.toNat - m.toNat))) σ g) : WI P H pn Q fs (.op (some d) none (.slice false size x lo (some hi)) :: r) ρ σ g := i_out (by
  unfold loV at hlo
  simp only [AWop, hx, hlo, Option.map_some, hhi, hs]
  exact ⟨hg, h0, h1, h2, hw, h.out⟩)
theorem i_sm {size nm gen i len gen' : Nat} {rows : List V} {k1 : IntKind} {m : Int} {x : Opd} {lo : Option Opd} (hx : ev ρ x = .msl nm gen i len) (hlo : loV ρ lo = .int k1 m) (hs : σ nm = .arr gen' rows) (hg : gen = gen') (h0 : 0 ≤ m) (h2 : m ≤ len) (hw : Nat.beq (wd nm) size = true)
    (h : WI P H pn Q fs r (upd ρ d (.msl nm gen (i + m.toNat) (len - m.toNat))) σ g) : WI P H pn Q fs (.op (some d) none (.slice false size x lo none) :: r) ρ σ g := i_out (by
  unfold loV at hlo
  simp only [AWop, hx, hlo, Option.map_none, hs]
  exact ⟨hg, h0, h2, hw, h.out⟩)
theorem i_bsla {nm size : Nat} {xs : List Opd} {l : List V} (hs : σ nm = .unused) (hw : Nat.beq (wd nm) size = true) (hl : fzL (xs.map (ev ρ)) = some l) (hp : l.all (fun v => pureB v && rowB v && Nat.beq v.cells.length size) = true)
    (h : WI P H pn Q fs r (upd ρ d (.msl nm 0 0 xs.length)) (ups σ nm (.arr 0 l)) g) : WI P H pn Q fs (.op (some d) none (.bslA nm size xs) :: r) ρ σ g := i_out (by
  cases fzL_eq hl
  simp only [AWop, hs]
  exact ⟨hw, hp, h.out⟩)
theorem i_clear {size bytes nm gen i len gen' : Nat} {zero : V} {rows : List V} {x : Opd} (hx : ev ρ x = .msl nm gen i len) (hs : σ nm = .arr gen' rows) (hg : gen = gen') (hw : (Nat.beq (wd nm) size && zero.cells.all leafB) = true)
    (h : WI P H pn Q fs r (put ρ dst (.tup [])) (ups σ nm (.arr gen (rows.take i ++ List.replicate len zero ++ rows.drop (i + len)))) g) : WI P H pn Q fs (.op dst none (.clear size bytes zero x) :: r) ρ σ g := i_out (by
  simp only [Bool.and_eq_true] at hw
  simp only [AWop, hx, hs]
  exact ⟨hg, hw.1, hw.2, h.out⟩)
theorem i_isnil {neg : Bool} {t : Tag} {rows : List V} {x : Opd} (hx : ev ρ x = .sl t rows) (h : ∀ b : Bool, (b = true → rows = []) → WI P H pn Q fs r (upd ρ d (.bool (b != neg))) σ g) : WI P H pn Q fs (.op (some d) none (.isnil neg x) :: r) ρ σ g := i_out (by
  simp only [AWop, hx]
  exact fun b hb => (h b hb).out)
theorem i_f {f : Opd} {args : List Opd} {fid : Nat} {as as' : List V} {v : V} (hf : calv ρ f args = some (fid, as)) (ha : as.map (er σ 6) = as') (hc : Fc P fid as' v) (hp : (flatB v || pureL as) = true)
    (h : WI P H pn Q fs r (put ρ dst v) σ g) : WI P H pn Q fs (.op dst none (.call .f f args) :: r) ρ σ g := i_out (by
  unfold calv at hf
  split at hf
  · rename_i e
    split at hf
    · rename_i e2
      cases hf
      cases ha
      cases fzL_eq e2
      simp only [AWop, AWcall, e]
      exact ⟨v, hc.out, by rw [Bool.or_comm]; exact hp, h.out⟩
    · cases hf
  · cases hf)
theorem i_c {f : Opd} {args : List Opd} {fid : Nat} {as : List V} {ns : List Nat} (hf : calv ρ f args = some (fid, as)) (hcl : closedL ns as = true) (hcs : closedSt ns σ ns = true) {K : V → Store → G → Prop} (hc : Cc P H fid as ns (restr ns σ) g K)
    (h : ∀ v σ' g', K v σ' g' → WI P H pn Q fs r (put ρ dst v) (merge ns σ σ') g') : WI P H pn Q fs (.op dst none (.call (.s ns) f args) :: r) ρ σ g := i_out (by
  unfold calv at hf
  split at hf
  · rename_i e
    split at hf
    · rename_i e2
      cases hf
      cases fzL_eq e2
      simp only [AWop, AWcall, e]
      exact ⟨hcl, hcs, CT_mono (fun v σ' g' hk => (h v σ' g' hk).out) hc.out⟩
    · cases hf
  · cases hf)
theorem c_frzv {t nm k : Nat} {rows : List V} (ht : ρ t = .sl (.own nm) rows) (hs : σ nm = .vec k) (h : WE P H pn Q fs .normal (upd ρ t (.sl .p rows)) (ups σ nm .dead) g) : WC P H pn Q fs (.frz t) ρ σ g := ⟨by
  simp only [AW, AWit, ht, hs]
  exact h.out⟩
theorem c_frza {t nm gen i len gen' : Nat} {rows : List V} (ht : ρ t = .msl nm gen i len) (hs : σ nm = .arr gen' rows) (hg : gen = gen') (h : WE P H pn Q fs .normal (upd ρ t (.sl .p ((rows.drop i).take len))) (ups σ nm .dead) g) : WC P H pn Q fs (.frz t) ρ σ g := ⟨by
  simp only [AW, AWit, ht, hs]
  exact ⟨hg, h.out⟩⟩
end
theorem Fn.step {P : Program} {f n : Nat} {rs : List RVar} {c : Cmd} {args : List V} {r : V} (hmix : P.follows .mixedOrders = true) (hc : chkFn P f n rs c = true) (h : WC (G := Unit) P noH [] (fnPost rs r) [] c (env0 args) σ0 ()) : Fc P f args r :=
  ⟨Fn.intro hmix hc h.out⟩
theorem CT.step {G : Type} {P : Program} {H : HT G} {f n : Nat} {σ : Store} {g : G} {rs : List RVar} {c : Cmd} {args : List V} {K : V → Store → G → Prop} (pn : List Nat) (hmix : P.follows .mixedOrders = true) (hc : chkFn P f n rs c = true)
    (hpn : ∀ nm, σ nm ≠ .unused → nm ∈ pn) (h : MonoH H → WC P H pn (ctPost pn rs K) [] c (env0 args) σ g) : Cc P H f args pn σ g K :=
  ⟨CT.intro pn hmix hc hpn fun hM => (h hM).out⟩
section
variable {G : Type} {P : Program} {H : HT G} {pn : List Nat} {Q : Exit → Env → Store → G → Prop} {fs : List (Frm G)} {ρ : Env} {σ : Store} {g : G} {r : List GItem} {d : Nat} {dst : Option Nat} {a b : Cmd} {v : V} {o : AOp}
def forN (pn : List Nat) (n : Nat) (E : Nat → List (Nat × V)) (Sg : Nat → List (Nat × Blk)) (inv : Nat → Prop) (g : G) (k : Nat) : Env → Store → G → Prop :=
  fun ρ' σ' g' => ∃ i', (i' ≤ n ∧ inv i') ∧ Fits pn (E i') (Sg i') ρ' σ' ∧ g = g' ∧ n - i' < n - k
theorem c_for (n : Nat) (E : Nat → List (Nat × V)) (Sg : Nat → List (Nat × Blk)) (inv : Nat → Prop) (h0 : inv 0) (hf : Fits pn (E 0) (Sg 0) ρ σ)
    (hs : ∀ k, k ≤ n → inv k → WC P H pn Q (.loop (forN pn n E Sg inv g k) :: fs) a (envOf (E k)) (stOf (Sg k)) g) : WC P H pn Q fs (.loop a) ρ σ g :=
  c_loop E Sg (fun _ => g) (fun k => k ≤ n ∧ inv k) (fun k => n - k) 0 ⟨Nat.zero_le _, h0⟩ hf rfl fun k hk => hs k hk.1 hk.2
theorem e_for {n : Nat} {E : Nat → List (Nat × V)} {Sg : Nat → List (Nat × Blk)} {inv : Nat → Prop} {k : Nat} (hk : k < n) (hi : inv (k + 1)) (hf : Fits pn (E (k + 1)) (Sg (k + 1)) ρ σ) :
    WE P H pn Q (.loop (forN pn n E Sg inv g k) :: fs) .normal ρ σ g := e_loop ⟨k + 1, ⟨hk, hi⟩, hf, rfl, by omega⟩
def lpN {ι : Type} (pn : List Nat) (E : ι → List (Nat × V)) (Sg : ι → List (Nat × Blk)) (inv : ι → Prop) (μ : ι → Nat) (g : G) (i : ι) : Env → Store → G → Prop :=
  fun ρ' σ' g' => ∃ i', inv i' ∧ Fits pn (E i') (Sg i') ρ' σ' ∧ g = g' ∧ μ i' < μ i
theorem c_lp {ι : Type} (E : ι → List (Nat × V)) (Sg : ι → List (Nat × Blk)) (inv : ι → Prop) (μ : ι → Nat) (i0 : ι) (h0 : inv i0) (hf : Fits pn (E i0) (Sg i0) ρ σ)
    (hs : ∀ i, inv i → WC P H pn Q (.loop (lpN pn E Sg inv μ g i) :: fs) a (envOf (E i)) (stOf (Sg i)) g) : WC P H pn Q fs (.loop a) ρ σ g :=
  c_loop E Sg (fun _ => g) inv μ i0 h0 hf rfl fun i hi => hs i hi
theorem e_lp {ι : Type} {E : ι → List (Nat × V)} {Sg : ι → List (Nat × Blk)} {inv : ι → Prop} {μ : ι → Nat} {i : ι} (i' : ι) (hi : inv i') (hm : μ i' < μ i) (hf : Fits pn (E i') (Sg i') ρ σ) :
    WE P H pn Q (.loop (lpN pn E Sg inv μ g i) :: fs) .normal ρ σ g := e_loop ⟨i', hi, hf, rfl, hm⟩
theorem i_iai {α : Type} {f : α → V} {l : List α} {size : Nat} {t : Tag} {kk : IntKind} {n : Int} {c : α} {x i : Opd} (hx : ev ρ x = .sl t (l.map f)) (hi : ev ρ i = .int kk n) (h0 : 0 ≤ n) (hr : l[n.toNat]? = some c) (hw : Nat.beq size (f c).cells.length = true)
    (h : WI P H pn Q fs r (upd ρ d (.cptr t (f c) 0)) σ g) : WI P H pn Q fs (.op (some d) none (.iaddr size x i) :: r) ρ σ g :=
  i_ia hx hi h0 (by simp [hr]) hw h
theorem i_len {α : Type} {f : α → V} {l : List α} {t : Tag} {x : Opd} (hx : ev ρ x = .sl t (l.map f)) (h : WI P H pn Q fs r (upd ρ d (.int .i64 l.length)) σ g) : WI P H pn Q fs (.op (some d) none (.len false x) :: r) ρ σ g := i_out (by
  simp only [AWop, hx, List.length_map]
  exact h.out)
theorem i_tk {α : Type} {f : α → V} {l : List α} {size : Nat} {t : Tag} {k2 : IntKind} {k : Nat} {x hi : Opd} (hx : ev ρ x = .sl t (l.map f)) (hhi : ev ρ hi = .int k2 (k : Int)) (h2 : k ≤ l.length)
    (h : WI P H pn Q fs r (upd ρ d (.sl t ((l.take k).map f))) σ g) : WI P H pn Q fs (.op (some d) none (.slice false size x none (some hi)) :: r) ρ σ g :=
  i_slh (k1 := .i64) (m := 0) hx rfl hhi (Int.le_refl _) (by omega) (by simp; omega) (.inl rfl) (by simpa using h)
theorem i_appM {α : Type} {f : α → V} {l : List α} {c : α} {size bytes et nm k : Nat} {t : Tag} {x y : Opd} (hx : ev ρ x = .sl (.own nm) (l.map f)) (hy : ev ρ y = .sl t [f c]) (hs : σ nm = .vec k) (hk : l.length = k) (hw : ((Nat.beq (wd nm) size && tyOkB nm et) && (Nat.beq (f c).cells.length size && (f c).cells.all leafB)) = true)
    (h1 : (k + 1) * bytes ≤ 140737488355328) (h2 : k + 1 ≤ 140737488355328)
    (h : WI P H pn Q fs r (upd ρ d (.sl (.own nm) ((l ++ [c]).map f))) (ups σ nm (.vec (k + 1))) g) : WI P H pn Q fs (.op (some d) none (.append size bytes et x y) :: r) ρ σ g :=
  i_app1 hx hy hs (by simp [hk]) hw h1 h2 (by simpa using h)
end
def scan {α : Type} (bad : Nat → Option α) : Nat → Nat → Option α
  | _, 0 => none
  | i, n + 1 => match bad i with
    | some f => some f
    | none => scan bad (i + 1) n
theorem scan_none {α : Type} {bad : Nat → Option α} : ∀ (n i : Nat), (∀ j, i ≤ j → j < i + n → bad j = none) → scan bad i n = none
  | 0, _, _ => rfl
  | n + 1, i, h => by
    simp only [scan, h i (Nat.le_refl _) (by omega)]
    exact scan_none n (i + 1) fun j h1 h2 => h j (by omega) (by omega)
theorem scan_hit {α : Type} {bad : Nat → Option α} {f : α} : ∀ (n i k : Nat), (∀ j, i ≤ j → j < k → bad j = none) → i ≤ k → k < i + n → bad k = some f → scan bad i n = some f
  | 0, i, k, _, _, h, _ => by omega
  | n + 1, i, k, h, h1, h2, h3 => by
    simp only [scan]
    by_cases e : i = k
    · subst e; rw [h3]
    · rw [h i (Nat.le_refl _) (by omega)]
      exact scan_hit n (i + 1) k (fun j h4 h5 => h j (by omega) h5) (by omega) (by omega) h3
theorem scan0_none {α : Type} {bad : Nat → Option α} {n : Nat} (h : ∀ j, j < n → bad j = none) : scan bad 0 n = none := scan_none n 0 fun j _ h2 => h j (by omega)
theorem scan0_hit {α : Type} {bad : Nat → Option α} {n k : Nat} {f : α} (h : ∀ j, j < k → bad j = none) (hk : k < n) (hf : bad k = some f) : scan bad 0 n = some f := scan_hit n 0 k (fun j _ h2 => h j h2) (Nat.zero_le _) (by omega) hf
theorem all_succ {p : Nat → Prop} {k : Nat} (h : ∀ j, j < k → p j) (hk : p k) : ∀ j, j < k + 1 → p j := fun j hj => by
  by_cases e : j = k
  · rw [e]; exact hk
  · exact h j (by omega)
theorem all_zero {p : Nat → Prop} : ∀ j, j < 0 → p j := fun j hj => absurd hj (Nat.not_lt_zero j)
theorem get_some {α : Type} {l : List α} {k : Nat} (h : k < l.length) : ∃ c, l[k]? = some c := ⟨l[k], List.getElem?_eq_getElem h⟩
theorem get_lt {α : Type} {l : List α} {k : Nat} {c : α} (h : l[k]? = some c) : k < l.length := (List.getElem?_eq_some_iff.1 h).1
theorem take_succ_get {α : Type} {l : List α} {k : Nat} {c : α} (h : l[k]? = some c) : l.take (k + 1) = l.take k ++ [c] := by
  rw [List.take_add_one, h]; rfl
theorem mem_get {α : Type} {l : List α} {k : Nat} {c : α} (h : l[k]? = some c) : c ∈ l := List.mem_of_getElem? h
section
variable {G : Type} {P : Program} {H : HT G} {pn : List Nat} {Q : Exit → Env → Store → G → Prop} {fs : List (Frm G)} {ρ : Env} {σ : Store} {g : G} {r : List GItem} {d : Nat} {dst : Option Nat} {a b : Cmd} {v : V} {o : AOp}
theorem i_y {f : Opd} {args : List Opd} {as : List V} (hM : MonoH H) (hf : ev ρ f = .rnd) (ha : fzL (args.map (ev ρ)) = some as) (hp : pureL as = true) (h : H as g fun u g' => WI P H pn Q fs r (put ρ dst u) σ g') : WI P H pn Q fs (.op dst none (.call .y f args) :: r) ρ σ g := i_out (by
  cases fzL_eq ha
  simp only [AWop, AWcall, hf]
  exact ⟨hp, hM _ _ _ _ (fun u g' h => h.out) h⟩)
def YL (H : HT G) : List (List V) → G → (G → Prop) → Prop
  | [], g, K => K g
  | as :: r, g, K => H as g fun u g' => (u = .bool true ∧ YL H r g' K) ∨ (u = .bool false ∧ K g')
abbrev RG (G : Type) := Store × G × Option Exit
def rhQ (wo : List Nat) (K : V → RG G → Prop) : Exit → Env → Store → G → Prop := fun e _ σ2 g2 => closedSt wo σ2 wo = true ∧ (match e with
  | .normal => K (.bool true) (restr wo σ2, g2, none)
  | e => K (.bool false) (restr wo σ2, g2, some e))
def rhA (P : Program) (H : HT G) (wo : List Nat) (cb : Cmd) (K : V → RG G → Prop) : Exit → Env → Store → G → Prop := fun e ρ σ g => match e with
  | .normal => WC P H wo (rhQ wo K) [] cb ρ σ g
  | _ => False
theorem rh_intro {wo : List Nat} {ca cb : Cmd} {ps : List Nat} {E : List (Nat × V)} {args : List V} {σ1 : Store} {g1 : G} {K : V → RG G → Prop} (hM : MonoH H) (hl : Nat.beq args.length ps.length = true)
    (h : WC P H wo (rhA P H wo cb K) [] ca (bindAll ps args (envOf E)) σ1 g1) : RH P H wo ca cb ps E args (σ1, g1, none) K := by
  refine ⟨hl, rfl, AW_mono hM ca wo _ _ _ _ _ (fun e ρ' σ' g' h => ?_) h.out⟩
  cases e <;> try exact h
  exact WC.out h
theorem RHm {wo : List Nat} {ca cb : Cmd} {ps : List Nat} {E : List (Nat × V)} (hM : MonoH H) : MonoH (RH P H wo ca cb ps E) :=
  RH_mono (fun pn ρ σ g Q Q' => AW_mono hM ca pn ρ σ g Q Q') (fun pn ρ σ g Q Q' => AW_mono hM cb pn ρ σ g Q Q')
def bQ (E : List (Nat × V)) (pf : List Nat) (P : Program) (H : HT G) (pn : List Nat) (Q : Exit → Env → Store → G → Prop) (fs : List (Frm G)) : V → Store → RG G → Prop := fun _ σ1 st => noRndSt σ1 pf = true ∧ (match st.2.2 with
  | none => WE P H pn Q fs .normal (envOf E) (merge pf st.1 σ1) st.2.1
  | some e => WE P H pn Q fs e (envOf E) (merge pf st.1 σ1) st.2.1)
theorem c_range {pf ps : List Nat} {f : Opd} {fid : Nat} {caps : List V} (E : List (Nat × V)) (Sg : List (Nat × Blk)) (hf : ev ρ f = .fn fid caps) (hfit : Fits pn E Sg ρ σ)
    (hb : (hasAll (Sg.map (·.1)) pf && closedL pf caps && closedSt pf (stOf Sg) pf && noRndL caps && noRndSt (stOf Sg) pf && closedE (without pf (Sg.map (·.1))) E && closedSt (without pf (Sg.map (·.1))) (stOf Sg) (without pf (Sg.map (·.1)))) = true)
    (hc : Cc P (RH P H (without pf (Sg.map (·.1))) a b ps E) fid (.rnd :: caps) pf (restr pf (stOf Sg)) (restr (without pf (Sg.map (·.1))) (stOf Sg), g, none) (bQ E pf P H pn Q fs)) :
    WC P H pn Q fs (.rangeF pf f ps a b) ρ σ g := ⟨by
  simp only [AW, hf]
  refine ⟨E, Sg, hfit, hb, CT_mono (fun v σ' st h => ?_) hc.out⟩
  obtain ⟨h0, h⟩ := h
  refine ⟨h0, ?_⟩
  obtain ⟨q1, q2, q3⟩ := st
  cases q3 with
  | none => exact WE.out h
  | some e => exact WE.out h⟩
theorem Cc_mono {f : Nat} {args : List V} {K K' : V → Store → G → Prop} (hk : ∀ v σ' g', K v σ' g' → K' v σ' g') (h : Cc P H f args pn σ g K) : Cc P H f args pn σ g K' := ⟨CT_mono hk h.out⟩
theorem YL_find {α : Type} {f : α → List V} (p : α → Bool) {s0 : RG G} (s1 : α → RG G) {H' : HT (RG G)} (hM : MonoH H') {K : RG G → Prop} : ∀ (l : List α), (∀ c ∈ l, ∀ K : V → RG G → Prop, (p c = true → K (.bool false) (s1 c)) → (p c = false → K (.bool true) s0) → H' (f c) s0 K) →
    (match l.find? p with
      | some c => K (s1 c)
      | none => K s0) → YL H' (l.map f) s0 K
  | [], _, h => h
  | c :: r, hH, h => by
    refine hH c (by simp) _ (fun hp => .inr ⟨rfl, ?_⟩) (fun hp => .inl ⟨rfl, YL_find p s1 hM r (fun c hc => hH c (by simp [hc])) ?_⟩)
    · simpa [hp] using h
    · simpa [hp] using h
end
theorem restr_mem {pn : List Nat} {σ : Store} (nm : Nat) (h : restr pn σ nm ≠ .unused) : nm ∈ pn := by
  by_cases hm : nm ∈ pn
  · exact hm
  · exact absurd (restr_out (θ := θ0) hm).1 h
end Hm
namespace Hm
open Go
theorem stOf_mem : ∀ (L : List (Nat × Blk)) (nm : Nat), stOf L nm ≠ .unused → nm ∈ L.map (·.1)
  | [], nm, h => absurd rfl h
  | (d, b) :: r, nm, h => by
    simp only [stOf] at h
    cases hb : Nat.beq nm d with
    | true => rw [Nat.eq_of_beq_eq_true hb]; simp
    | false => rw [hb] at h; exact List.mem_cons_of_mem _ (stOf_mem r nm h)
end Hm
namespace Hm
open Go
section
variable {G : Type} {P : Program} {H : HT G} {pn : List Nat} {Q : Exit → Env → Store → G → Prop} {fs : List (Frm G)} {ρ : Env} {σ : Store} {g : G} {a b : Cmd}
theorem c_rangeS {pf ps : List Nat} {f : Opd} {fid : Nat} {caps : List V} (E : List (Nat × V)) (Sg : List (Nat × Blk)) (wo : List Nat) (S1 S2 : List (Nat × Blk)) (hf : ev ρ f = .fn fid caps) (hfit : Fits pn E Sg ρ σ)
    (hwo : without pf (Sg.map (·.1)) = wo) (h1 : pf.map (fun nm => (nm, stOf Sg nm)) = S1) (h2 : wo.map (fun nm => (nm, stOf Sg nm)) = S2)
    (hb : (hasAll (Sg.map (·.1)) pf && closedL pf caps && closedSt pf (stOf Sg) pf && noRndL caps && noRndSt (stOf Sg) pf && closedE wo E && closedSt wo (stOf Sg) wo) = true)
    (hc : Cc P (RH P H wo a b ps E) fid (.rnd :: caps) pf (stOf S1) (stOf S2, g, none) (bQ E pf P H pn Q fs)) :
    WC P H pn Q fs (.rangeF pf f ps a b) ρ σ g := by
  subst hwo h1 h2
  refine c_range E Sg hf hfit hb ?_
  rw [restr_stOf, restr_stOf (stOf Sg) (without pf (Sg.map (·.1)))]
  exact hc
theorem rhq_n {wo : List Nat} {K : V → RG G → Prop} {L : List (Nat × Blk)} (h1 : closedSt wo σ wo = true) (hL : wo.map (fun nm => (nm, σ nm)) = L) (h : K (.bool true) (stOf L, g, none)) : rhQ wo K .normal ρ σ g :=
  ⟨h1, by rw [restr_stOf, hL]; exact h⟩
theorem rhq_r {wo : List Nat} {K : V → RG G → Prop} {L : List (Nat × Blk)} (h1 : closedSt wo σ wo = true) (hL : wo.map (fun nm => (nm, σ nm)) = L) (h : K (.bool false) (stOf L, g, some .ret)) : rhQ wo K .ret ρ σ g :=
  ⟨h1, by rw [restr_stOf, hL]; exact h⟩
end
structure Flt where
  code : Int
  index : Int
instance : DecidableEq Flt := fun a b => if h : a.code = b.code ∧ a.index = b.index then isTrue (by cases a; cases b; simp only at h; rw [h.1, h.2]) else isFalse (by rintro rfl; exact h ⟨rfl, rfl⟩)
def ftV (f : Flt) : V := .agg [.int .i64 f.code, .int .i64 f.index]
def okF : Flt := ⟨0, 0⟩
def i64V (n : Int) : V := .int .i64 n
theorem congr_ft {f : Flt} {c i : Int} (h : f = ⟨c, i⟩) : ftV f = .agg [.int .i64 c, .int .i64 i] := by rw [h]; rfl
theorem ft_ok_iff (f : Flt) : (f.code == 0 && (f.index == 0 && true)) = decide (f = okF) := by
  cases f with
  | mk c i =>
    simp only [okF, Flt.mk.injEq, Bool.and_true]
    by_cases h1 : c = 0 <;> by_cases h2 : i = 0 <;> simp [h1, h2]
theorem eq_ok {f : Flt} (h : (!(f.code == 0 && (f.index == 0 && true))) = false) : f = okF := by
  rw [ft_ok_iff] at h; simpa using h
def fidx {α : Type} (p : α → Bool) (l : List α) : Int := match l.findIdx? p with
  | some i => i
  | none => -1
theorem fidx_hit {α : Type} {p : α → Bool} {l : List α} {k : Nat} {c : α} (h : ∀ j, j < k → ∀ c, l[j]? = some c → p c = false) (hc : l[k]? = some c) (hp : p c = true) : fidx p l = k := by
  have : l.findIdx? p = some k := by
    rw [List.findIdx?_eq_some_iff_getElem]
    have hk := get_lt hc
    refine ⟨hk, ?_, fun j hj => ?_⟩
    · rw [List.getElem?_eq_getElem hk] at hc; injection hc with hc; rw [hc]; exact hp
    · simp [h j hj _ (List.getElem?_eq_getElem (by omega))]
  simp [fidx, this]
theorem fidx_none {α : Type} {p : α → Bool} {l : List α} (h : ∀ j, j < l.length → ∀ c, l[j]? = some c → p c = false) : fidx p l = -1 := by
  have : l.findIdx? p = none := by
    rw [List.findIdx?_eq_none_iff]
    intro x hx
    obtain ⟨j, hj, e⟩ := List.getElem_of_mem hx
    exact h j hj x (by rw [← e]; exact List.getElem?_eq_getElem hj)
  simp [fidx, this]
theorem fidx_any {α : Type} (p : α → Bool) (l : List α) : decide (fidx p l ≥ 0) = l.any p := by
  unfold fidx
  cases h : l.findIdx? p with
  | none =>
    rw [List.findIdx?_eq_none_iff] at h
    have : l.any p = false := by
      rw [Bool.eq_false_iff]
      intro e
      obtain ⟨x, h1, h2⟩ := List.any_eq_true.1 e
      rw [h x h1] at h2
      cases h2
    rw [this]; rfl
  | some k =>
    rw [List.findIdx?_eq_some_iff_getElem] at h
    obtain ⟨h1, h2, _⟩ := h
    have : l.any p = true := List.any_eq_true.2 ⟨_, List.getElem_mem h1, h2⟩
    rw [this]
    simp
structure Typ where
  name : List UInt8
  parent : Int
structure Obj where
  name : List UInt8
  type : Int
def tyV (t : Typ) : V := .agg [.str t.name, .int .i64 t.parent]
def obV (o : Obj) : V := .agg [.str o.name, .int .i64 o.type]
def nameAt (i : Nat) (c : UInt8) : Bool := (decide (97 ≤ c.toNat) && decide (c.toNat ≤ 122)) || (decide (0 < i) && ((decide (48 ≤ c.toNat) && decide (c.toNat ≤ 57)) || c.toNat == 45))
def namesFrom : Nat → List UInt8 → Bool
  | _, [] => true
  | i, c :: r => nameAt i c && namesFrom (i + 1) r
def nameB (s : List UInt8) : Bool := namesFrom 0 s && decide (1 ≤ s.length) && decide (s.length ≤ 12)
theorem namesFrom_take (s : List UInt8) : ∀ k, (∀ j, j < k → ∀ c, s[j]? = some c → nameAt j c = true) → s.length ≤ k → namesFrom 0 s = true := by
  have key : ∀ (s : List UInt8) (i k : Nat), (∀ j, j < k → ∀ c, s[j]? = some c → nameAt (i + j) c = true) → s.length ≤ k → namesFrom i s = true := by
    intro s
    induction s with
    | nil => intros; rfl
    | cons c r ih =>
      intro i k h hl
      simp only [List.length_cons] at hl
      simp only [namesFrom, Bool.and_eq_true]
      refine ⟨h 0 (by omega) c rfl, ih (i + 1) (k - 1) (fun j hj c' hc => ?_) (by omega)⟩
      have := h (j + 1) (by omega) c' (by simpa using hc)
      rwa [show i + 1 + j = i + (j + 1) from by omega]
  intro k h hl
  exact key s 0 k (fun j hj c hc => by rw [Nat.zero_add]; exact h j hj c hc) hl
theorem namesFrom_false {s : List UInt8} {k : Nat} {c : UInt8} (hc : s[k]? = some c) (hn : nameAt k c = false) : namesFrom 0 s = false := by
  have key : ∀ (s : List UInt8) (i k : Nat), s[k]? = some c → nameAt (i + k) c = false → namesFrom i s = false := by
    intro s
    induction s with
    | nil => intro i k h; simp at h
    | cons a r ih =>
      intro i k h hn
      simp only [namesFrom]
      cases k with
      | zero => simp at h; subst h; rw [show i + 0 = i from rfl] at hn; rw [hn]; rfl
      | succ k => rw [ih (i + 1) k (by simpa using h) (by rw [show i + 1 + k = i + (k + 1) from by omega]; exact hn)]; simp
  exact key s 0 k hc (by rw [Nat.zero_add]; exact hn)
def objectS : List UInt8 := [111, 98, 106, 101, 99, 116]
def tyBad (l : List Typ) (i : Nat) : Option Flt := match l[i]? with
  | none => none
  | some t => if nameB t.name = false ∨ t.name = objectS then some ⟨12, i⟩ else if (l.take i).any (fun u => u.name == t.name) = true then some ⟨7, i⟩
    else if t.parent < -1 ∨ t.parent ≥ i then some ⟨3, i⟩ else none
def typesFault (l : List Typ) : Flt := if l.length > 8 then ⟨2, -1⟩ else (scan (tyBad l) 0 l.length).getD okF
def obBad (n : Nat) (l : List Obj) (i : Nat) : Option Flt := match l[i]? with
  | none => none
  | some t => if nameB t.name = false then some ⟨12, -10 - i⟩ else if (l.take i).any (fun u => u.name == t.name) = true then some ⟨7, -10 - i⟩
    else if t.type < -1 ∨ t.type ≥ n then some ⟨3, -10 - i⟩ else none
def objectsFault (n : Nat) (l : List Obj) : Flt := if l.length > 8 then ⟨2, -3⟩ else (scan (obBad n l) 0 l.length).getD okF
def badT (n : Nat) (a : Int) : Bool := decide (a < -1) || decide (a ≥ n)
def parentOf (l : List Typ) (t : Int) : Int := match l[t.toNat]? with
  | some x => x.parent
  | none => -1
def supersN (l : List Typ) : Nat → Int → List Int
  | 0, _ => [-1]
  | n + 1, t => if t < 0 then [-1] else t :: supersN l n (parentOf l t)
def supers (l : List Typ) (t : Int) : List Int := supersN l (t.toNat + 1) t
def subB (l : List Typ) (a b : Int) : Bool := decide (b ∈ supers l a)
def membersOf (l : List Typ) (os : List Obj) (t : Int) : List Int := ((List.range os.length).filter fun i => match os[i]? with
  | some o => subB l o.type t
  | none => false).map Int.ofNat
def TyValid (l : List Typ) : Prop := l.length ≤ 8 ∧ ∀ (i : Nat) (t : Typ), l[i]? = some t → -1 ≤ t.parent ∧ t.parent < i
theorem scan_all {α : Type} {bad : Nat → Option α} : ∀ (n i : Nat), scan bad i n = none → ∀ j, i ≤ j → j < i + n → bad j = none
  | 0, i, _, j, h1, h2 => by omega
  | n + 1, i, h, j, h1, h2 => by
    simp only [scan] at h
    split at h
    · cases h
    · rename_i e
      by_cases hj : j = i
      · rw [hj]; exact e
      · exact scan_all n (i + 1) h j (by omega) (by omega)
theorem getD_ok {o : Option Flt} (hc : ∀ f, o = some f → f.code ≠ 0) (h : o.getD okF = okF) : o = none := by
  cases o with
  | none => rfl
  | some f => exact absurd (by rw [show f = okF from h]; rfl) (hc f rfl)
theorem scan_prop {α : Type} {bad : Nat → Option α} (p : Option α → Prop) (h0 : p none) (h : ∀ i, p (bad i)) : ∀ n i, p (scan bad i n)
  | 0, _ => h0
  | n + 1, i => by
    simp only [scan]
    have := h i
    split
    · rename_i f e; rw [e] at this; exact this
    · exact scan_prop p h0 h n (i + 1)
theorem tyBad_code (l : List Typ) (i : Nat) : ∀ f, tyBad l i = some f → f.code ≠ 0 := by
  intro f h
  unfold tyBad at h
  split at h
  · cases h
  · repeat' split at h
    all_goals cases h
    all_goals simp
theorem typesFault_valid {l : List Typ} (h : typesFault l = okF) : TyValid l := by
  unfold typesFault at h
  split at h
  · cases h
  · rename_i h8
    have hs := getD_ok (scan_prop (bad := tyBad l) (fun o => ∀ f, o = some f → f.code ≠ 0) (by simp) (fun i => tyBad_code l i) l.length 0) h
    refine ⟨by omega, fun i t ht => ?_⟩
    have := scan_all _ _ hs i (Nat.zero_le _) (by have := get_lt ht; omega)
    unfold tyBad at this
    rw [ht] at this
    simp only at this
    split at this
    · cases this
    · split at this
      · cases this
      · split at this
        · cases this
        · omega
theorem parent_ok {l : List Typ} (hv : TyValid l) {t : Int} (h0 : 0 ≤ t) (h1 : t < l.length) : ∃ x, l[t.toNat]? = some x ∧ parentOf l t = x.parent ∧ -1 ≤ x.parent ∧ x.parent < t := by
  obtain ⟨x, hx⟩ := get_some (l := l) (k := t.toNat) (by omega)
  have := hv.2 _ _ hx
  exact ⟨x, hx, by simp [parentOf, hx], this.1, by omega⟩
theorem supersN_succ {l : List Typ} {n : Nat} {t : Int} (h : ¬ t < 0) : supersN l (n + 1) t = t :: supersN l n (parentOf l t) := if_neg h
theorem supersN_fuel {l : List Typ} (hv : TyValid l) : ∀ (n : Nat) (t : Int), t < n → t < l.length → supersN l n t = supersN l (t.toNat + 1) t
  | 0, t, h, _ => by simp [supersN, h, show t < 0 from by omega]
  | n + 1, t, h, h1 => by
    by_cases h0 : t < 0
    · simp [supersN, h0]
    · obtain ⟨x, hx, hp, h2, h3⟩ := parent_ok hv (by omega) h1
      by_cases hn : t.toNat = n
      · rw [hn]
      · rw [← supersN_fuel hv n t (by omega) h1]
        cases n with
        | zero => omega
        | succ m =>
          rw [supersN_succ h0, supersN_succ h0, hp, supersN_fuel hv (m + 1) x.parent (by omega) (by omega), supersN_fuel hv m x.parent (by omega) (by omega)]
theorem supers_neg {l : List Typ} {t : Int} (h : t < 0) : supers l t = [-1] := by simp [supers, supersN, h]
theorem supers_cons {l : List Typ} (hv : TyValid l) {t : Int} (h0 : 0 ≤ t) (h1 : t < l.length) {x : Typ} (hx : l[t.toNat]? = some x) : supers l t = t :: supers l x.parent := by
  obtain ⟨x', hx', hp, h2, h3⟩ := parent_ok hv h0 h1
  rw [hx] at hx'; cases hx'
  unfold supers
  rw [show supersN l (t.toNat + 1) t = t :: supersN l t.toNat (parentOf l t) from by simp [supersN, show ¬ t < 0 from by omega], hp, supersN_fuel hv _ _ (by omega) (by omega)]
structure At where
  pred : Int
  args : List Int
deriving DecidableEq
structure Lit where
  neg : Bool
  at_ : At
deriving DecidableEq
structure Prd where
  name : List UInt8
  types : List Int
structure Sch where
  name : List UInt8
  types : List Int
  diff : List (Int × Int)
  pre : List Lit
  add : List At
  del : List At
  cost : Int
structure Dom where
  types : List Typ
  objects : List Obj
  preds : List Prd
  schemas : List Sch
  init : List At
  goal : List Lit
def atV (a : At) : V := .agg [.int .i64 a.pred, .sl .p (a.args.map i64V)]
def litV (x : Lit) : V := .agg [.bool x.neg, .int .i64 x.at_.pred, .sl .p (x.at_.args.map i64V)]
def prdV (p : Prd) : V := .agg [.str p.name, .sl .p (p.types.map i64V)]
def pairV (p : Int × Int) : V := .agg [.int .i64 p.1, .int .i64 p.2]
def schV (s : Sch) : V := .agg [.str s.name, .sl .p (s.types.map i64V), .sl .p (s.diff.map pairV), .sl .p (s.pre.map litV), .sl .p (s.add.map atV), .sl .p (s.del.map atV), .int .i64 s.cost]
def domV (d : Dom) : V := .agg [.sl .p (d.types.map tyV), .sl .p (d.objects.map obV), .sl .p (d.preds.map prdV), .sl .p (d.schemas.map schV), .sl .p (d.init.map atV), .sl .p (d.goal.map litV)]
def fnz {α : Type} (f : α → Int) : List α → Int
  | [] => 0
  | a :: r => if f a ≠ 0 then f a else fnz f r
theorem fnz_hit {α : Type} {f : α → Int} : ∀ {l : List α} {k : Nat} {c : α}, (∀ j, j < k → ∀ x, l[j]? = some x → f x = 0) → l[k]? = some c → f c ≠ 0 → fnz f l = f c
  | [], k, c, _, hc, _ => by simp at hc
  | a :: r, 0, c, _, hc, hn => by
    simp only [List.getElem?_cons_zero, Option.some.injEq] at hc
    subst hc
    simp only [fnz]
    rw [if_pos hn]
  | a :: r, k + 1, c, hi, hc, hn => by
    have := hi 0 (by omega) a rfl
    simp only [fnz]
    rw [if_neg (by simp [this])]
    exact fnz_hit (k := k) (fun j hj x hx => hi (j + 1) (by omega) x (by simpa using hx)) (by simpa using hc) hn
theorem fnz_ok {α : Type} {f : α → Int} : ∀ {l : List α}, (∀ j, j < l.length → ∀ x, l[j]? = some x → f x = 0) → fnz f l = 0
  | [], _ => rfl
  | a :: r, hi => by
    have := hi 0 (by simp) a rfl
    simp only [fnz]
    rw [if_neg (by simp [this])]
    exact fnz_ok fun j hj x hx => hi (j + 1) (by simp; omega) x (by simpa using hx)
theorem fnz_all {α : Type} {f : α → Int} : ∀ {l : List α}, fnz f l = 0 → ∀ x ∈ l, f x = 0
  | a :: r, h, x, hx => by
    simp only [fnz] at h
    split at h
    · rename_i h1; exact absurd h h1
    · rename_i h1
      rcases List.mem_cons.1 hx with rfl | hx
      · simpa using h1
      · exact fnz_all h x hx
def typeOfA (d : Dom) (ps : List Int) (x : Int) : Option Int := if 0 ≤ x ∧ x < d.objects.length then (d.objects[x.toNat]?).map Obj.type else if x < 0 ∧ -(ps.length : Int) ≤ x then ps[(-1 - x).toNat]? else none
def tyoBad (d : Dom) (t : Int) : Option Int → Option Int
  | none => some 3
  | some u => if subB d.types u t = true then none else some 8
def argBad (d : Dom) (ps want : List Int) (a : At) (i : Nat) : Option Int := match a.args[i]?, want[i]? with
  | some x, some t => tyoBad d t (typeOfA d ps x)
  | _, _ => none
def atomCode (d : Dom) (ps : List Int) (a : At) : Int := if a.pred < 0 ∨ (d.preds.length : Int) ≤ a.pred then 6 else match d.preds[a.pred.toNat]? with
  | none => 6
  | some p => if a.args.length ≠ p.types.length then 9 else (scan (argBad d ps p.types a) 0 a.args.length).getD 0
def atomsCode (d : Dom) (ps : List Int) (l : List At) (most : Nat) : Int := if l.length > most then 2 else fnz (atomCode d ps) l
def paramsCode (n : Nat) (l : List Int) : Int := if l.length > 3 then 2 else if l.any (badT n) = true then 3 else 0
def notS : List UInt8 := [110, 111, 116]
def prdCode (d : Dom) (i : Nat) : Int := match d.preds[i]? with
  | none => 0
  | some p => if nameB p.name = false ∨ p.name = notS then 12 else if (d.preds.take i).any (fun q => q.name == p.name) = true then 7 else paramsCode d.types.length p.types
def pairBad (n : Nat) (p : Int × Int) : Bool := decide (p.1 < 0) || (decide (p.2 ≤ p.1) || decide ((n : Int) ≤ p.2))
def schSelf (d : Dom) (s : Sch) : Int := if paramsCode d.types.length s.types ≠ 0 then paramsCode d.types.length s.types else if s.diff.length > 8 then 2 else if s.diff.any (pairBad s.types.length) = true then 3
  else if atomsCode d s.types (s.pre.map Lit.at_) 8 ≠ 0 then atomsCode d s.types (s.pre.map Lit.at_) 8 else if atomsCode d s.types s.add 8 ≠ 0 then atomsCode d s.types s.add 8 else if atomsCode d s.types s.del 8 ≠ 0 then atomsCode d s.types s.del 8
  else if s.cost < 0 ∨ s.cost > 100 then 3 else 0
def schCode (d : Dom) (i : Nat) : Int := match d.schemas[i]? with
  | none => 0
  | some s => if nameB s.name = false then 12 else if (d.schemas.take i).any (fun q => q.name == s.name) = true then 7 else schSelf d s
def dupBad (l : List At) (i : Nat) : Option Int := match l[i]? with
  | none => none
  | some a => if a ∈ l.take i then some 7 else none
def startCode (d : Dom) : Int := if atomsCode d [] d.init 40 ≠ 0 then atomsCode d [] d.init 40 else (scan (dupBad d.init) 0 d.init.length).getD 0
def nzF (f : Nat → Int) (g : Nat → Int) (i : Nat) : Option Flt := if f i = 0 then none else some ⟨f i, g i⟩
def domFault (d : Dom) : Flt := if typesFault d.types ≠ okF then ⟨(typesFault d.types).code, -1⟩ else if objectsFault d.types.length d.objects ≠ okF then ⟨(objectsFault d.types.length d.objects).code, -2⟩
  else if d.preds.length > 8 then ⟨2, -3⟩ else match scan (nzF (prdCode d) fun _ => -3) 0 d.preds.length with
  | some f => f
  | none => if d.schemas.length > 8 then ⟨2, -4⟩ else match scan (nzF (schCode d) fun i => i) 0 d.schemas.length with
    | some f => f
    | none => if startCode d ≠ 0 then ⟨startCode d, -5⟩ else if atomsCode d [] (d.goal.map Lit.at_) 8 ≠ 0 then ⟨atomsCode d [] (d.goal.map Lit.at_) 8, -6⟩ else okF
structure DoTy (d : Dom) : Prop where
  ty : TyValid d.types
  ol : d.objects.length ≤ 8
  o : ∀ x ∈ d.objects, -1 ≤ x.type ∧ x.type < d.types.length
def PsOk (d : Dom) (ps : List Int) : Prop := ps.length ≤ 100 ∧ ∀ t ∈ ps, -1 ≤ t ∧ t < d.types.length
theorem paramsCode_ok {d : Dom} {l : List Int} (h : paramsCode d.types.length l = 0) : l.length ≤ 3 ∧ ∀ t ∈ l, -1 ≤ t ∧ t < d.types.length := by
  unfold paramsCode at h
  split at h
  · cases h
  · split at h
    · cases h
    · rename_i h1 h2
      refine ⟨by omega, fun t ht => ?_⟩
      simp only [List.any_eq_true, not_exists, not_and, Bool.not_eq_true] at h2
      have := h2 t ht
      simp only [badT, Bool.or_eq_false_iff, decide_eq_false_iff_not] at this
      omega
theorem typeOfA_ok {d : Dom} (hd : DoTy d) {ps : List Int} (hp : PsOk d ps) {x t : Int} (h : typeOfA d ps x = some t) : -1 ≤ t ∧ t < d.types.length := by
  unfold typeOfA at h
  split at h
  · cases ho : d.objects[x.toNat]? with
    | none => rw [ho] at h; cases h
    | some o =>
      rw [ho] at h
      cases h
      exact hd.o o (mem_get ho)
  · split at h
    · exact hp.2 t (mem_get h)
    · cases h
structure AtOk (a : At) : Prop where
  len : a.args.length ≤ 17592186044416
  r : ∀ c ∈ a.args, InR .i64 c
  p : InR .i64 a.pred
structure SchOk (s : Sch) : Prop where
  name : s.name.length ≤ 140737488355328
  types : s.types.length ≤ 17592186044416
  diff : s.diff.length ≤ 17592186044416
  pre : s.pre.length ≤ 3518437208883
  add : s.add.length ≤ 4398046511104
  del : s.del.length ≤ 4398046511104
  preA : ∀ x ∈ s.pre, AtOk x.at_
  addA : ∀ x ∈ s.add, AtOk x
  delA : ∀ x ∈ s.del, AtOk x
structure DoOk (d : Dom) : Prop where
  types : d.types.length ≤ 140737488355328 ∧ ∀ t ∈ d.types, t.name.length ≤ 140737488355328
  objects : d.objects.length ≤ 140737488355328 ∧ ∀ t ∈ d.objects, t.name.length ≤ 140737488355328
  preds : d.preds.length ≤ 140737488355328 ∧ ∀ p ∈ d.preds, p.name.length ≤ 140737488355328 ∧ p.types.length ≤ 17592186044416
  schemas : d.schemas.length ≤ 140737488355328 ∧ ∀ s ∈ d.schemas, SchOk s
  init : d.init.length ≤ 4398046511104 ∧ ∀ a ∈ d.init, AtOk a
  goal : d.goal.length ≤ 3518437208883 ∧ ∀ x ∈ d.goal, AtOk x.at_
def signI (a b : Int) : Int := if a < b then -1 else if a > b then 1 else 0
def cmpL : List Int → List Int → Int
  | [], [] => 0
  | [], _ :: _ => -1
  | _ :: _, [] => 1
  | a :: r, b :: s => if a = b then cmpL r s else signI a b
def atomOrd (a b : At) : Int := if a.pred = b.pred then cmpL a.args b.args else signI a.pred b.pred
theorem signI_zero {a b : Int} : signI a b = 0 ↔ a = b := by
  unfold signI
  split
  · simp; omega
  · split
    · simp; omega
    · simp; omega
theorem cmpL_zero : ∀ {a b : List Int}, cmpL a b = 0 ↔ a = b
  | [], [] => by simp [cmpL]
  | [], _ :: _ => by simp [cmpL]
  | _ :: _, [] => by simp [cmpL]
  | a :: r, b :: s => by
    simp only [cmpL]
    split
    · rename_i h; subst h; rw [cmpL_zero]; simp
    · rename_i h; rw [signI_zero]; simp [h]
theorem atomOrd_zero {a b : At} : atomOrd a b = 0 ↔ a = b := by
  unfold atomOrd
  split
  · rename_i h
    rw [cmpL_zero]
    cases a; cases b
    simp only at h
    simp [h]
  · rename_i h
    rw [signI_zero]
    constructor
    · exact fun e => absurd e h
    · rintro rfl; exact absurd rfl h
theorem cmpL_take : ∀ (k : Nat) (a b : List Int), a.take k = b.take k → k ≤ a.length → k ≤ b.length → cmpL a b = cmpL (a.drop k) (b.drop k)
  | 0, a, b, _, _, _ => by simp
  | k + 1, [], b, _, h, _ => by simp at h
  | k + 1, a :: r, [], _, _, h => by simp at h
  | k + 1, a :: r, b :: s, h, h1, h2 => by
    simp only [List.take_succ_cons, List.cons.injEq] at h
    obtain ⟨rfl, h⟩ := h
    simp only [cmpL, if_true, List.drop_succ_cons]
    exact cmpL_take k r s h (by simpa using h1) (by simpa using h2)
theorem cmpL_at {k : Nat} {a b : List Int} {x y : Int} (h : a.take k = b.take k) (hx : a[k]? = some x) (hy : b[k]? = some y) (hne : x ≠ y) : cmpL a b = signI x y := by
  have h1 := get_lt hx
  have h2 := get_lt hy
  rw [cmpL_take k a b h (by omega) (by omega), List.drop_eq_getElem_cons h1, List.drop_eq_getElem_cons h2]
  rw [List.getElem?_eq_getElem h1, Option.some.injEq] at hx
  rw [List.getElem?_eq_getElem h2, Option.some.injEq] at hy
  rw [hx, hy]
  simp only [cmpL]
  rw [if_neg hne]
theorem cmpL_end {k : Nat} {a b : List Int} (h : a.take k = b.take k) (h1 : k ≤ a.length) (h2 : k ≤ b.length) (he : k = a.length ∨ k = b.length) : cmpL a b = signI a.length b.length := by
  rw [cmpL_take k a b h h1 h2]
  unfold signI
  rcases he with e | e
  · rw [List.drop_of_length_le (by omega)]
    by_cases hb : k = b.length
    · rw [List.drop_of_length_le (by omega), if_neg (by omega), if_neg (by omega)]; rfl
    · rw [List.drop_eq_getElem_cons (by omega : k < b.length), if_pos (by omega)]; rfl
  · rw [List.drop_of_length_le (by omega : b.length ≤ k)]
    by_cases ha : k = a.length
    · rw [List.drop_of_length_le (by omega), if_neg (by omega), if_neg (by omega)]; rfl
    · rw [List.drop_eq_getElem_cons (by omega : k < a.length), if_neg (by omega), if_pos (by omega)]; rfl
section
variable {G : Type} {P : Program} {H : HT G} {pn : List Nat} {Q : Exit → Env → Store → G → Prop} {fs : List (Frm G)} {ρ : Env} {σ : Store} {g : G} {r : List GItem} {d : Nat} {dst : Option Nat} {a b : Cmd} {v : V} {o : AOp}
theorem i_lenm {nm gen i n gen' : Nat} {rows : List V} {x : Opd} (hx : ev ρ x = .msl nm gen i n) (hs : σ nm = .arr gen' rows) (hg : gen = gen') (h : WI P H pn Q fs r (upd ρ d (.int .i64 n)) σ g) : WI P H pn Q fs (.op (some d) none (.len false x) :: r) ρ σ g := i_out (by
  simp only [AWop, hx, hs]
  exact ⟨hg, h.out⟩)
theorem i_appmM {α : Type} {f : α → V} {l : List α} (xs : List α) {size bytes et nm gen gen' : Nat} {t : Tag} {x y : Opd} (hx : ev ρ x = .msl nm gen 0 l.length) (hy : ev ρ y = .sl t (xs.map f)) (hs : σ nm = .arr gen' (l.map f)) (hg : gen = gen') (hw : Nat.beq (wd nm) size = true)
    (hr : ∀ c ∈ xs, (f c).cells.length = size ∧ (f c).cells.all leafB = true) (h1 : (l.length + xs.length) * bytes ≤ 140737488355328) (h2 : l.length + xs.length ≤ 140737488355328)
    (h : WI P H pn Q fs r (upd ρ d (.msl nm (gen + 1) 0 (l ++ xs).length)) (ups σ nm (.arr (gen + 1) ((l ++ xs).map f))) g) : WI P H pn Q fs (.op (some d) none (.append size bytes et x y) :: r) ρ σ g := by
  refine i_appm hx hy hs hg hw (fun row hrow => ?_) (by simpa using h1) (by simpa using h2) ?_
  · obtain ⟨c, hc, rfl⟩ := List.mem_map.1 hrow
    exact hr c hc
  · have e1 : (l.map f).take l.length ++ xs.map f = (l ++ xs).map f := by rw [List.take_of_length_le (by simp), List.map_append]
    rw [e1, List.length_map, ← List.length_append]
    exact h
end
theorem sw {p q : Prop} (x : q) (h : q → p := by first | exact c_seq | exact c_cut0 | exact c_ops | exact i_nil | exact e_seq | exact e_block | exact c_block | exact c_skip | exact c_ret | exact c_exit | exact e_exit rfl | exact c_leaf | fail) : p := h x
theorem sp {p q r : Prop} (x : q) (z : r) (h : q → r → p := by first | exact c_node | exact i_g rfl | exact c_cond rfl | fail) : p := h x z
abbrev qm (d t : Nat) : GItem := .op (some d) none (.mov (.t t))
abbrev qc (d : Nat) (n : Int) : GItem := .op (some d) none (.mov (.c (.int .i64 n)))
abbrev qb (d : Nat) (b : Bool) : GItem := .op (some d) none (.mov (.c (.bool b)))
abbrev qq (d : Nat) (o : AOp) : GItem := .op (some d) none o
abbrev qg (d s : Nat) (b : Bool) (o : AOp) : GItem := .op (some d) (some (s, b)) o
abbrev ql (d n t : Nat) : GItem := .op (some d) none (.load false n (.t t))
abbrev qL (d n t : Nat) : GItem := .op (some d) none (.load true n (.t t))
abbrev qf (d n t : Nat) : GItem := .op (some d) none (.faddr n (.t t))
abbrev qi (d n x y : Nat) : GItem := .op (some d) none (.iaddr n (.t x) (.t y))
abbrev qn (d t : Nat) : GItem := .op (some d) none (.len false (.t t))
abbrev qx (d n m t : Nat) : GItem := .op (some d) none (.box n m (.t t))
abbrev qu (d : Nat) (o : BinOp) (l : List LT) (x y : Nat) : GItem := .op (some d) none (.bin o false l (.t x) (.t y))
abbrev qv (d : Nat) (o : BinOp) (l : List LT) (x : Nat) (n : Int) : GItem := .op (some d) none (.bin o false l (.t x) (.c (.int .i64 n)))
abbrev qk (d f : Nat) (l : List Nat) : GItem := .op (some d) none (.call .f (.c (.fn f [])) (l.map .t))
abbrev qs (n x y : Nat) : GItem := .op none none (.store n (.t x) (.t y))
abbrev qS (l : List GItem) (c : Cmd) : Cmd := .seq (.ops l) (.cut c)
abbrev qT (a c : Cmd) : Cmd := .seq a (.cut c)
theorem ft {pn : List Nat} {E : List (Nat × V)} {S : List (Nat × Blk)} {ρ : Env} {σ : Store} (h : Fits pn E S ρ σ := by first | exact ⟨by repeat (first | exact trivial | refine ⟨rfl, ?_⟩), by repeat (first | exact trivial | refine ⟨rfl, ?_⟩), rfl⟩ | fail) : Fits pn E S ρ σ := h
section
variable {G : Type} {P : Program} {H : HT G} {pn : List Nat} {Q : Exit → Env → Store → G → Prop} {fs : List (Frm G)} {ρ : Env} {σ : Store} {g : G} {r : List GItem} {dst : Option Nat}
variable {d : Nat}
theorem ja {k : IntKind} {m n : Int} {st : Bool} {et : List LT} {x y : Opd} (hx : ev ρ x = .int k m) (hy : ev ρ y = .int k n) (h : WI P H pn Q fs r (upd ρ d (.int k (m + n))) σ g) (hr : InR k (m + n) := by first | (simp only [InR, List.length_map]; omega) | fail) :
    WI P H pn Q fs (.op (some d) none (.bin .add st et x y) :: r) ρ σ g := i_add hx hy hr h
theorem jb {k : IntKind} {m n : Int} {st : Bool} {et : List LT} {x y : Opd} (hx : ev ρ x = .int k m) (hy : ev ρ y = .int k n) (h : WI P H pn Q fs r (upd ρ d (.int k (m - n))) σ g) (hr : InR k (m - n) := by first | (simp only [InR, List.length_map]; omega) | fail) :
    WI P H pn Q fs (.op (some d) none (.bin .sub st et x y) :: r) ρ σ g := i_sub hx hy hr h
theorem jc {k k' : IntKind} {n : Int} {x : Opd} (hx : ev ρ x = .int k' n) (h : WI P H pn Q fs r (upd ρ d (.int k n)) σ g) (hr : InR k n := by first | (simp only [InR, List.length_map]; omega) | fail) : WI P H pn Q fs (.op (some d) none (.conv k x) :: r) ρ σ g := i_conv hx hr h
theorem jd {α : Type} {f : α → V} {l : List α} {size : Nat} {t : Tag} {kk : IntKind} {n : Int} {c : α} {x i : Opd} (hx : ev ρ x = .sl t (l.map f)) (hi : ev ρ i = .int kk n)
    (h : WI P H pn Q fs r (upd ρ d (.cptr t (f c) 0)) σ g) (h0 : 0 ≤ n := by first | omega | fail) (hr : l[n.toNat]? = some c := by first | assumption | fail) (hw : Nat.beq size (f c).cells.length = true := by first | exact rfl | fail) : WI P H pn Q fs (.op (some d) none (.iaddr size x i) :: r) ρ σ g :=
  i_iai hx hi h0 hr hw h
theorem je {α : Type} {f : α → V} {l : List α} {size : Nat} {t : Tag} {kk : IntKind} {k : Nat} {c : α} {x i : Opd} (hx : ev ρ x = .sl t (l.map f)) (hi : ev ρ i = .int kk (k : Int))
    (h : WI P H pn Q fs r (upd ρ d (.cptr t (f c) 0)) σ g) (hr : l[k]? = some c := by first | assumption | fail) (hw : Nat.beq size (f c).cells.length = true := by first | exact rfl | fail) : WI P H pn Q fs (.op (some d) none (.iaddr size x i) :: r) ρ σ g :=
  i_iam hx hi hr hw h
theorem jf {s : List UInt8} {kk : IntKind} {k : Nat} {c : UInt8} {x i : Opd} (hx : ev ρ x = .str s) (hi : ev ρ i = .int kk (k : Int)) (h : WI P H pn Q fs r (upd ρ d (.int .u8 c.toNat)) σ g) (hc : s[k]? = some c := by first | assumption | fail) :
    WI P H pn Q fs (.op (some d) none (.index x i) :: r) ρ σ g := i_ixm hx hi hc h
theorem jg {l : List V} {len : Nat} {kk : IntKind} {n : Int} {c : V} {x i : Opd} (hx : ev ρ x = .agg l) (hi : ev ρ i = .int kk n) (h : WI P H pn Q fs r (upd ρ d c) σ g) (h0 : 0 ≤ n := by first | omega | fail) (h1 : n < len := by first | omega | fail) (hc : l[n.toNat]? = some c := by first | exact rfl | fail) :
    WI P H pn Q fs (.op (some d) none (.idxA len x i) :: r) ρ σ g := i_idxA hx hi h0 h1 hc h
theorem jh {α : Type} {f : α → V} {l : List α} {size : Nat} {t : Tag} {k2 : IntKind} {k : Nat} {x hi : Opd} (hx : ev ρ x = .sl t (l.map f)) (hhi : ev ρ hi = .int k2 (k : Int)) (h : WI P H pn Q fs r (upd ρ d (.sl t ((l.take k).map f))) σ g) (h2 : k ≤ l.length := by first | omega | fail) :
    WI P H pn Q fs (.op (some d) none (.slice false size x none (some hi)) :: r) ρ σ g := i_tk hx hhi h2 h
theorem sf {f : Opd} {args : List Opd} {fid : Nat} {as as' : List V} {v : V} (hf : calv ρ f args = some (fid, as)) (ha : as.map (er σ 6) = as') (hc : Fc P fid as' v) (h : WI P H pn Q fs r (put ρ dst v) σ g) (hp : (flatB v || pureL as) = true := by first | exact rfl | fail)
    : WI P H pn Q fs (.op dst none (.call .f f args) :: r) ρ σ g := i_f hf ha hc hp h
end
def litOrd (x y : Lit) : Int := if atomOrd x.at_ y.at_ ≠ 0 then atomOrd x.at_ y.at_ else if x.neg = y.neg then 0 else if x.neg = true then 1 else -1
theorem signI_neg (a b : Int) : signI b a = -signI a b := by unfold signI; (repeat' split) <;> omega
theorem signI_lt {a b : Int} : signI a b < 0 ↔ a < b := by unfold signI; (repeat' split) <;> omega
theorem cmpL_neg : ∀ (a b : List Int), cmpL b a = -cmpL a b
  | [], [] => rfl
  | [], _ :: _ => rfl
  | _ :: _, [] => rfl
  | a :: r, b :: s => by
    simp only [cmpL]
    by_cases h : a = b
    · rw [if_pos h, if_pos h.symm, cmpL_neg r s]
    · rw [if_neg h, if_neg (fun e => h e.symm), signI_neg]
theorem cmpL_trans : ∀ {a b c : List Int}, cmpL a b < 0 → cmpL b c < 0 → cmpL a c < 0
  | [], [], _, h, _ => by simp [cmpL] at h
  | [], _ :: _, [], _, h => by simp [cmpL] at h
  | [], _ :: _, _ :: _, _, _ => by simp [cmpL]
  | _ :: _, [], _, h, _ => by simp [cmpL] at h
  | _ :: _, _ :: _, [], _, h => by simp [cmpL] at h
  | a :: r, b :: s, c :: t, h1, h2 => by
    simp only [cmpL] at h1 h2 ⊢
    by_cases e1 : a = b
    · rw [if_pos e1] at h1
      by_cases e2 : b = c
      · rw [if_pos e2] at h2
        rw [if_pos (e1.trans e2)]
        exact cmpL_trans h1 h2
      · rw [if_neg e2] at h2
        rw [if_neg (by rw [e1]; exact e2), e1]
        exact h2
    · rw [if_neg e1, signI_lt] at h1
      by_cases e2 : b = c
      · rw [if_neg (by rw [← e2]; exact e1), ← e2, signI_lt]
        exact h1
      · rw [if_neg e2, signI_lt] at h2
        rw [if_neg (by omega), signI_lt]
        omega
theorem atomOrd_neg (a b : At) : atomOrd b a = -atomOrd a b := by
  unfold atomOrd
  by_cases h : a.pred = b.pred
  · rw [if_pos h, if_pos h.symm, cmpL_neg]
  · rw [if_neg h, if_neg (fun e => h e.symm), signI_neg]
theorem atomOrd_trans {a b c : At} (h1 : atomOrd a b < 0) (h2 : atomOrd b c < 0) : atomOrd a c < 0 := by
  unfold atomOrd at h1 h2 ⊢
  by_cases e1 : a.pred = b.pred
  · rw [if_pos e1] at h1
    by_cases e2 : b.pred = c.pred
    · rw [if_pos e2] at h2
      rw [if_pos (e1.trans e2)]
      exact cmpL_trans h1 h2
    · rw [if_neg e2] at h2
      rw [if_neg (by rw [e1]; exact e2), e1]
      exact h2
  · rw [if_neg e1, signI_lt] at h1
    by_cases e2 : b.pred = c.pred
    · rw [if_neg (by rw [← e2]; exact e1), ← e2, signI_lt]
      exact h1
    · rw [if_neg e2, signI_lt] at h2
      rw [if_neg (by omega), signI_lt]
      omega
theorem litOrd_zero {x y : Lit} : litOrd x y = 0 ↔ x = y := by
  unfold litOrd
  by_cases h : atomOrd x.at_ y.at_ = 0
  · rw [if_neg (by simp [h])]
    have e := atomOrd_zero.1 h
    by_cases hn : x.neg = y.neg
    · rw [if_pos hn]
      cases x; cases y
      simp only at e hn
      simp [e, hn]
    · rw [if_neg hn]
      constructor
      · intro h2; split at h2 <;> cases h2
      · rintro rfl; exact absurd rfl hn
  · rw [if_pos h]
    constructor
    · exact fun e => absurd e h
    · rintro rfl; exact absurd (atomOrd_zero.2 rfl) h
theorem litOrd_neg (x y : Lit) : litOrd y x = -litOrd x y := by
  have hn := atomOrd_neg x.at_ y.at_
  unfold litOrd
  by_cases h : atomOrd x.at_ y.at_ = 0
  · have h' : atomOrd y.at_ x.at_ = 0 := by omega
    rw [if_neg (show ¬ atomOrd y.at_ x.at_ ≠ 0 by simp [h']), if_neg (show ¬ atomOrd x.at_ y.at_ ≠ 0 by simp [h])]
    cases x.neg <;> cases y.neg <;> rfl
  · rw [if_pos (show atomOrd y.at_ x.at_ ≠ 0 by omega), if_pos h]
    exact hn
theorem litOrd_at {x y : Lit} (h : litOrd x y < 0) : atomOrd x.at_ y.at_ ≤ 0 := by
  unfold litOrd at h
  split at h
  · omega
  · rename_i h1; simp at h1; omega
theorem litOrd_lt {x y : Lit} (h : atomOrd x.at_ y.at_ < 0) : litOrd x y < 0 := by
  unfold litOrd
  rw [if_pos (by omega)]
  exact h
theorem litOrd_trans {x y z : Lit} (h1 : litOrd x y < 0) (h2 : litOrd y z < 0) : litOrd x z < 0 := by
  have a1 := litOrd_at h1
  have a2 := litOrd_at h2
  by_cases e1 : atomOrd x.at_ y.at_ = 0
  · by_cases e2 : atomOrd y.at_ z.at_ = 0
    · have f1 := atomOrd_zero.1 e1
      have f2 := atomOrd_zero.1 e2
      unfold litOrd at h1 h2 ⊢
      rw [if_neg (by simp [e1])] at h1
      rw [if_neg (by simp [e2])] at h2
      rw [if_neg (by rw [f1]; simp [e2])]
      cases hx : x.neg <;> cases hy : y.neg <;> cases hz : z.neg <;> simp_all
    · refine litOrd_lt ?_
      rw [atomOrd_zero.1 e1]
      omega
  · by_cases e2 : atomOrd y.at_ z.at_ = 0
    · refine litOrd_lt ?_
      rw [← atomOrd_zero.1 e2]
      omega
    · exact litOrd_lt (atomOrd_trans (b := y.at_) (by omega) (by omega))
theorem litOrd_irr (x : Lit) : litOrd x x = 0 := litOrd_zero.2 rfl
def SLt (l : List Lit) : Prop := l.Pairwise fun x y => litOrd x y < 0
def opp (x : Lit) : Lit := ⟨!x.neg, x.at_⟩
theorem SLt_ext : ∀ {a b : List Lit}, SLt a → SLt b → (∀ x, x ∈ a ↔ x ∈ b) → a = b
  | [], [], _, _, _ => rfl
  | [], y :: s, _, _, h => absurd ((h y).2 (by simp)) (by simp)
  | x :: r, [], _, _, h => absurd ((h x).1 (by simp)) (by simp)
  | x :: r, y :: s, ha, hb, h => by
    obtain ⟨a1, a2⟩ := List.pairwise_cons.1 ha
    obtain ⟨b1, b2⟩ := List.pairwise_cons.1 hb
    have e : x = y := by
      rcases List.mem_cons.1 ((h x).1 (by simp)) with e | hx
      · exact e
      · rcases List.mem_cons.1 ((h y).2 (by simp)) with e | hy
        · exact e.symm
        · have h1 := b1 x hx
          have h2 := a1 y hy
          have := litOrd_neg x y
          omega
    subst e
    have key : ∀ z, z ∈ r ↔ z ∈ s := fun z => by
      constructor
      · intro hz
        rcases List.mem_cons.1 ((h z).1 (by simp [hz])) with e | h1
        · subst e
          have := a1 z hz
          have := litOrd_irr z
          omega
        · exact h1
      · intro hz
        rcases List.mem_cons.1 ((h z).2 (by simp [hz])) with e | h1
        · subst e
          have := b1 z hz
          have := litOrd_irr z
          omega
        · exact h1
    rw [SLt_ext a2 b2 key]
def withL (l : List Lit) (x : Lit) : List Lit := if x ∈ l then l else l.takeWhile (fun y => decide (litOrd y x < 0)) ++ x :: l.dropWhile (fun y => decide (litOrd y x < 0))
theorem withL_mem {l : List Lit} {x z : Lit} : z ∈ withL l x ↔ z ∈ l ∨ z = x := by
  unfold withL
  split
  · rename_i h
    constructor
    · exact .inl
    · rintro (h1 | rfl)
      · exact h1
      · exact h
  · have e : l = l.takeWhile (fun y => decide (litOrd y x < 0)) ++ l.dropWhile (fun y => decide (litOrd y x < 0)) := List.takeWhile_append_dropWhile.symm
    conv => rhs; rw [e]
    simp only [List.mem_append, List.mem_cons]
    constructor
    · rintro (h | h | h)
      · exact .inl (.inl h)
      · exact .inr h
      · exact .inl (.inr h)
    · rintro ((h | h) | h)
      · exact .inl h
      · exact .inr (.inr h)
      · exact .inr (.inl h)
theorem withL_sorted {l : List Lit} {x : Lit} (h : SLt l) : SLt (withL l x) := by
  unfold withL
  split
  · exact h
  · rename_i hx
    have e : l = l.takeWhile (fun y => decide (litOrd y x < 0)) ++ l.dropWhile (fun y => decide (litOrd y x < 0)) := List.takeWhile_append_dropWhile.symm
    have hp := h
    rw [e] at hp
    obtain ⟨p1, p2, p3⟩ := List.pairwise_append.1 hp
    have ht : ∀ y ∈ l.takeWhile (fun y => decide (litOrd y x < 0)), litOrd y x < 0 := fun y hy => by
      have := List.all_takeWhile (p := fun y => decide (litOrd y x < 0)) (l := l)
      rw [List.all_eq_true] at this
      simpa using this y hy
    have hd : ∀ y ∈ l.dropWhile (fun y => decide (litOrd y x < 0)), litOrd x y < 0 := by
      cases hc : l.dropWhile (fun y => decide (litOrd y x < 0)) with
      | nil => intro y hy; simp at hy
      | cons z r =>
        have hz : ¬ litOrd z x < 0 := by
          have := List.head?_dropWhile_not (fun y => decide (litOrd y x < 0)) l
          rw [hc] at this
          simpa using this
        have hzl : z ∈ l := by rw [e, hc]; simp
        have hne : litOrd z x ≠ 0 := fun h0 => hx (by rw [← litOrd_zero.1 h0]; exact hzl)
        have hxz : litOrd x z < 0 := by have := litOrd_neg z x; omega
        intro y hy
        rcases List.mem_cons.1 hy with rfl | hy
        · exact hxz
        · rw [hc] at p2
          exact litOrd_trans hxz ((List.pairwise_cons.1 p2).1 y hy)
    refine List.pairwise_append.2 ⟨p1, List.pairwise_cons.2 ⟨hd, p2⟩, fun y hy z hz => ?_⟩
    rcases List.mem_cons.1 hz with rfl | hz
    · exact ht y hy
    · exact p3 y hy z hz
section
variable {α : Type} [DecidableEq α]
def keepG (l : List α) (i : Nat) : Option α := match l[i]? with
  | some x => if i = 0 ∨ l[i - 1]? ≠ some x then some x else none
  | none => none
def ddG (l : List α) (k : Nat) : List α := (List.range k).filterMap (keepG l)
theorem ddG_succ (l : List α) (k : Nat) : ddG l (k + 1) = ddG l k ++ (keepG l k).toList := by
  unfold ddG
  rw [List.range_succ, List.filterMap_append]
  congr 1
def compG (l : List α) : List α := ddG l l.length
theorem ddG_len (l : List α) (k : Nat) : (ddG l k).length ≤ k := by
  have := List.length_filterMap_le (keepG l) (List.range k)
  simpa [ddG] using this
theorem ddG_keep {l : List α} {k : Nat} {x : α} (hx : l[k]? = some x) (h : k = 0 ∨ l[k - 1]? ≠ some x) : ddG l (k + 1) = ddG l k ++ [x] := by
  rw [ddG_succ, keepG, hx]; simp only [if_pos h, Option.toList]
theorem ddG_skip {l : List α} {k : Nat} {x : α} (hx : l[k]? = some x) (h0 : k ≠ 0) (h : l[k - 1]? = some x) : ddG l (k + 1) = ddG l k := by
  rw [ddG_succ, keepG, hx]; simp [h0, h]
theorem ddG_all {l : List α} : ∀ k, k ≤ l.length → (∀ j, 0 < j → j < k → l[j]? ≠ l[j - 1]?) → ddG l k = l.take k
  | 0, _, _ => by simp [ddG]
  | k + 1, h, hn => by
    obtain ⟨x, hx⟩ := get_some (l := l) (k := k) (by omega)
    rw [ddG_keep hx, ddG_all k (by omega) fun j h1 h2 => hn j h1 (by omega), take_succ_get hx]
    by_cases e : k = 0
    · exact .inl e
    · refine .inr fun e2 => hn k (by omega) (by omega) ?_
      rw [hx, e2]
theorem ddG_mem {l : List α} {x : α} : ∀ k, k ≤ l.length → (x ∈ ddG l k ↔ x ∈ l.take k)
  | 0, _ => by simp [ddG]
  | k + 1, h => by
    obtain ⟨y, hy⟩ := get_some (l := l) (k := k) (by omega)
    have ih := ddG_mem (l := l) (x := x) k (by omega)
    rw [take_succ_get hy]
    by_cases c : k = 0 ∨ l[k - 1]? ≠ some y
    · rw [ddG_keep hy c]; simp [ih]
    · simp only [not_or, Decidable.not_not] at c
      rw [ddG_skip hy c.1 c.2]
      simp only [List.mem_append, List.mem_singleton, ih]
      constructor
      · exact .inl
      · rintro (e | rfl)
        · exact e
        · obtain ⟨h1, h2⟩ := List.getElem?_eq_some_iff.1 c.2
          exact List.mem_take_iff_getElem.2 ⟨k - 1, by omega, h2⟩
theorem compG_mem {l : List α} {x : α} : x ∈ compG l ↔ x ∈ l := by
  unfold compG
  rw [ddG_mem l.length (Nat.le_refl _), List.take_length]
theorem ddG_get {l : List α} {m i : Nat} (hi : (ddG l m).length ≤ i) : (ddG l m ++ l.drop (ddG l m).length)[i]? = l[i]? := by
  rw [List.getElem?_append_right hi, List.getElem?_drop]
  congr 1
  omega
theorem ddG_set {l : List α} {m : Nat} {x : α} (hd : (ddG l m).length < l.length) : (ddG l m ++ l.drop (ddG l m).length).set (ddG l m).length x = (ddG l m ++ [x]) ++ l.drop (ddG l m ++ [x]).length := by
  rw [List.set_append_right _ _ (Nat.le_refl _), Nat.sub_self]
  have : l.drop (ddG l m).length = l[(ddG l m).length] :: l.drop ((ddG l m).length + 1) := List.drop_eq_getElem_cons hd
  rw [this, List.set_cons_zero]
  simp
end
theorem ddG_sorted {l : List Lit} (hs : l.Pairwise fun x y => litOrd x y ≤ 0) : ∀ k, k ≤ l.length → SLt (ddG l k)
  | 0, _ => by simp [ddG, SLt]
  | k + 1, h => by
    obtain ⟨y, hy⟩ := get_some (l := l) (k := k) (by omega)
    have ih := ddG_sorted (l := l) hs k (by omega)
    by_cases c : k = 0 ∨ l[k - 1]? ≠ some y
    · rw [ddG_keep hy c]
      refine List.pairwise_append.2 ⟨ih, List.pairwise_singleton _ _, fun a ha b hb => ?_⟩
      simp only [List.mem_singleton] at hb
      subst hb
      have ha' := (ddG_mem k (by omega)).1 ha
      obtain ⟨i, hi, e⟩ := List.mem_take_iff_getElem.1 ha'
      obtain ⟨h1, e1⟩ := List.getElem?_eq_some_iff.1 hy
      rcases c with c | c
      · omega
      · have h3 : l[k - 1]? = some l[k - 1] := List.getElem?_eq_getElem (by omega)
        have h4 : litOrd l[k - 1] b ≤ 0 := by
          by_cases hk : k = 0
          · omega
          · have := List.pairwise_iff_getElem.1 hs (k - 1) k (by omega) h1 (by omega)
            rw [e1] at this; exact this
        have h5 : litOrd l[k - 1] b ≠ 0 := fun e => c (by rw [h3, litOrd_zero.1 e])
        by_cases hik : i = k - 1
        · subst hik
          rw [e] at h4 h5
          omega
        · have h6 := List.pairwise_iff_getElem.1 hs i (k - 1) (by omega) (by omega) (by omega)
          rw [e] at h6
          by_cases h7 : litOrd a l[k - 1] = 0
          · rw [← litOrd_zero.1 h7] at h4 h5
            omega
          · exact litOrd_trans (y := l[k - 1]) (by omega) (by omega)
    · simp only [not_or, Decidable.not_not] at c
      rw [ddG_skip hy c.1 c.2]
      exact ih
def objA (args : List Int) (x : Int) : Int := if x < 0 then (args[(-1 - x).toNat]?).getD 0 else x
def bindA (args : List Int) (a : At) : At := ⟨a.pred, a.args.map (objA args)⟩
def ArgsOk (d : Dom) (ps args : List Int) : Prop := args.length = ps.length ∧ ∀ o ∈ args, 0 ≤ o ∧ o < d.objects.length
theorem atom_args {d : Dom} {ps : List Int} {a : At} (h : atomCode d ps a = 0) : (0 ≤ a.pred ∧ a.pred < d.preds.length) ∧ ∃ p, d.preds[a.pred.toNat]? = some p ∧ a.args.length = p.types.length ∧ ∀ (i : Nat) (x : Int), a.args[i]? = some x → ∃ t u, p.types[i]? = some t ∧ typeOfA d ps x = some u ∧ subB d.types u t = true := by
  unfold atomCode at h
  split at h
  · cases h
  · rename_i h1
    refine ⟨by omega, ?_⟩
    cases hp : d.preds[a.pred.toNat]? with
    | none => rw [hp] at h; cases h
    | some p =>
      rw [hp] at h
      simp only at h
      split at h
      · cases h
      · rename_i h2
        have h2 : a.args.length = p.types.length := by simpa using h2
        refine ⟨p, rfl, h2, fun i x hx => ?_⟩
        have hi := get_lt hx
        obtain ⟨t, ht⟩ := get_some (l := p.types) (k := i) (by omega)
        have hnone : scan (argBad d ps p.types a) 0 a.args.length = none := by
          cases hs : scan (argBad d ps p.types a) 0 a.args.length with
          | none => rfl
          | some e =>
            rw [hs] at h
            simp only [Option.getD_some] at h
            exfalso
            have := scan_prop (bad := argBad d ps p.types a) (fun o => o ≠ some 0) (by simp) (fun i => by
              unfold argBad
              split
              · unfold tyoBad
                split
                · simp
                · split <;> simp
              · simp) a.args.length 0
            rw [hs, h] at this
            exact this rfl
        have := scan_all _ _ hnone i (by omega) (by omega)
        unfold argBad at this
        rw [hx, ht] at this
        simp only at this
        unfold tyoBad at this
        split at this
        · cases this
        · rename_i u hu
          split at this
          · rename_i hsub
            exact ⟨t, u, ht, hu, hsub⟩
          · cases this
theorem typeOfA_rng {d : Dom} {ps : List Int} {x t : Int} (h : typeOfA d ps x = some t) : -(ps.length : Int) ≤ x ∧ x < d.objects.length := by
  unfold typeOfA at h
  split at h
  · omega
  · split at h
    · omega
    · cases h
theorem atom_rng {d : Dom} {ps : List Int} {a : At} (h : atomCode d ps a = 0) : ∀ x ∈ a.args, -(ps.length : Int) ≤ x ∧ x < d.objects.length := by
  obtain ⟨_, p, _, _, h2⟩ := atom_args h
  intro x hx
  obtain ⟨i, hi⟩ := List.getElem?_of_mem hx
  obtain ⟨t, u, _, hu, _⟩ := h2 i x hi
  exact typeOfA_rng hu
theorem objA_rng {d : Dom} {ps args : List Int} (ha : ArgsOk d ps args) {x : Int} (h : -(ps.length : Int) ≤ x ∧ x < d.objects.length) : 0 ≤ objA args x ∧ objA args x < d.objects.length := by
  unfold objA
  split
  · obtain ⟨o, ho⟩ := get_some (l := args) (k := (-1 - x).toNat) (by have := ha.1; omega)
    rw [ho]
    exact ha.2 o (mem_get ho)
  · omega
theorem bindA_ok {d : Dom} {ps args : List Int} (ha : ArgsOk d ps args) (hd : DoTy d) {a : At} (hao : AtOk a) (h : atomCode d ps a = 0) : AtOk (bindA args a) := by
  refine ⟨by simp only [bindA, List.length_map]; exact hao.len, fun c hc => ?_, hao.p⟩
  simp only [bindA, List.mem_map] at hc
  obtain ⟨x, hx, rfl⟩ := hc
  have := objA_rng ha (atom_rng h x hx)
  have := hd.ol
  simp only [InR]
  omega
def memO (d : Dom) (t : Int) : List Int := membersOf d.types d.objects t
def argL (d : Dom) : List Int → List (List Int)
  | [] => [[]]
  | t :: r => (memO d t).flatMap fun o => (argL d r).map (o :: ·)
theorem memO_mem {d : Dom} {t o : Int} (h : o ∈ memO d t) : 0 ≤ o ∧ o < d.objects.length := by
  unfold memO membersOf at h
  obtain ⟨i, hi, rfl⟩ := List.mem_map.1 h
  have := List.mem_range.1 (List.mem_filter.1 hi).1
  simp only [Int.ofNat_eq_natCast]
  omega
theorem memO_len (d : Dom) (t : Int) : (memO d t).length ≤ d.objects.length := by
  unfold memO membersOf
  rw [List.length_map]
  exact Nat.le_trans (List.length_filter_le _ _) (by simp)
theorem argL_mem {d : Dom} : ∀ {ts a : List Int}, a ∈ argL d ts ↔ a.length = ts.length ∧ ∀ (i : Nat) (o t : Int), a[i]? = some o → ts[i]? = some t → o ∈ memO d t
  | [], a => by
    simp only [argL, List.mem_singleton, List.length_nil, List.length_eq_zero_iff]
    constructor
    · rintro rfl; exact ⟨rfl, fun i o t h => by simp at h⟩
    · exact fun h => h.1
  | t :: r, a => by
    simp only [argL, List.mem_flatMap, List.mem_map]
    constructor
    · rintro ⟨o, ho, b, hb, rfl⟩
      obtain ⟨h1, h2⟩ := argL_mem.1 hb
      refine ⟨by simp [h1], fun i o' t' h3 h4 => ?_⟩
      cases i with
      | zero =>
        simp only [List.getElem?_cons_zero, Option.some.injEq] at h3 h4
        subst h3 h4
        exact ho
      | succ i => exact h2 i o' t' (by simpa using h3) (by simpa using h4)
    · rintro ⟨h1, h2⟩
      cases a with
      | nil => simp at h1
      | cons o b =>
        exact ⟨o, h2 0 o t rfl rfl, b, argL_mem.2 ⟨by simpa using h1, fun i o' t' h3 h4 => h2 (i + 1) o' t' (by simpa using h3) (by simpa using h4)⟩, rfl⟩
theorem flatMap_len_le {α β : Type} {f : α → List β} {n : Nat} : ∀ {l : List α}, (∀ x ∈ l, (f x).length ≤ n) → (l.flatMap f).length ≤ l.length * n
  | [], _ => by simp
  | x :: r, h => by
    have h1 := h x (by simp)
    have h2 := flatMap_len_le (l := r) (fun y hy => h y (by simp [hy]))
    simp only [List.flatMap_cons, List.length_append, List.length_cons, Nat.add_mul]
    omega
theorem argL_count {d : Dom} (hd : d.objects.length ≤ 8) : ∀ ts : List Int, (argL d ts).length ≤ 8 ^ ts.length
  | [] => by simp [argL]
  | t :: r => by
    have h1 := memO_len d t
    have h2 := argL_count hd r
    simp only [argL, List.length_cons]
    refine Nat.le_trans (flatMap_len_le (n := 8 ^ r.length) (fun o _ => by simpa using h2)) ?_
    rw [Nat.pow_succ, Nat.mul_comm]
    exact Nat.mul_le_mul_left _ (by omega)
theorem argL_512 {d : Dom} (hd : d.objects.length ≤ 8) {ts : List Int} (h : ts.length ≤ 3) : (argL d ts).length ≤ 512 :=
  Nat.le_trans (argL_count hd ts) (Nat.pow_le_pow_right (by omega) h)
theorem argL_rng {d : Dom} {ts a : List Int} (h : a ∈ argL d ts) : a.length = ts.length ∧ ∀ o ∈ a, 0 ≤ o ∧ o < d.objects.length := by
  obtain ⟨h1, h2⟩ := argL_mem.1 h
  refine ⟨h1, fun o ho => ?_⟩
  obtain ⟨i, hi⟩ := List.getElem?_of_mem ho
  obtain ⟨t, ht⟩ := get_some (l := ts) (k := i) (by have := get_lt hi; omega)
  exact memO_mem (h2 i o t hi ht)
def predAt (d : Dom) (p : Nat) : List At := match d.preds[p]? with
  | none => []
  | some x => (argL d x.types).map fun a => ⟨p, a⟩
theorem predAt_some {d : Dom} {p : Nat} {x : Prd} (h : d.preds[p]? = some x) : predAt d p = (argL d x.types).map fun a => ⟨p, a⟩ := by unfold predAt; rw [h]
def atomsK (d : Dom) (k : Nat) : List At := (List.range k).flatMap (predAt d)
def allAt (d : Dom) : List At := atomsK d d.preds.length
theorem range_flat_succ {β : Type} (f : Nat → List β) (k : Nat) : (List.range (k + 1)).flatMap f = (List.range k).flatMap f ++ f k := by
  rw [List.range_succ, List.flatMap_append]; simp
theorem atomsK_succ (d : Dom) (k : Nat) : atomsK d (k + 1) = atomsK d k ++ predAt d k := range_flat_succ _ _
theorem atomsK_le (d : Dom) {j k : Nat} (h : j ≤ k) : (atomsK d j).length ≤ (atomsK d k).length := by
  induction h with
  | refl => exact Nat.le_refl _
  | step h ih => rw [atomsK_succ, List.length_append]; omega
def atF (d : Dom) : Flt := if domFault d ≠ okF then domFault d else if (allAt d).length > 400 then ⟨10, -8⟩ else okF
def fluB (d : Dom) (p : Int) : Bool := d.goal.any (fun x => decide (x.at_.pred = p)) || d.schemas.any fun s => s.add.any (fun a => decide (a.pred = p)) || s.del.any fun a => decide (a.pred = p)
def denB (d : Dom) (p : Int) : Bool := d.goal.any (fun x => x.neg && decide (x.at_.pred = p)) || d.schemas.any fun s => s.pre.any fun x => x.neg && decide (x.at_.pred = p)
def posL (a : At) : Lit := ⟨false, a⟩
def negL (a : At) : Lit := ⟨true, a⟩
def posK (d : Dom) (k : Nat) : List Lit := (List.range k).flatMap fun p : Nat => if fluB d p = true then (predAt d p).map posL else []
def negK (d : Dom) (k : Nat) : List Lit := (List.range k).flatMap fun p : Nat => if fluB d p = true ∧ denB d p = true then (predAt d p).map negL else []
def factL (d : Dom) : List Lit := posK d d.preds.length ++ negK d d.preds.length
theorem predAt_pred {d : Dom} {p : Nat} {a : At} (h : a ∈ predAt d p) : a.pred = p := by
  unfold predAt at h
  split at h
  · cases h
  · obtain ⟨x, _, rfl⟩ := List.mem_map.1 h; rfl
theorem filter_pred {d : Dom} {p : Nat} (q : Int → Bool) : (predAt d p).filter (fun a => q a.pred) = if q p = true then predAt d p else [] := by
  split
  · rename_i h
    exact List.filter_eq_self.2 fun a ha => by rw [predAt_pred ha]; exact h
  · rename_i h
    exact List.filter_eq_nil_iff.2 fun a ha => by rw [predAt_pred ha]; exact h
theorem filter_flat {α β : Type} (f : α → List β) (q : β → Bool) : ∀ l : List α, (l.flatMap f).filter q = l.flatMap fun x => (f x).filter q
  | [] => rfl
  | x :: r => by simp only [List.flatMap_cons, List.filter_append, filter_flat f q r]
theorem posK_eq (d : Dom) (k : Nat) : posK d k = ((atomsK d k).filter fun a => fluB d a.pred).map posL := by
  unfold posK atomsK
  rw [filter_flat, List.map_flatMap]
  congr 1
  funext p
  rw [filter_pred (fun p => fluB d p)]
  split <;> rfl
theorem negK_eq (d : Dom) (k : Nat) : negK d k = ((atomsK d k).filter fun a => fluB d a.pred && denB d a.pred).map negL := by
  unfold negK atomsK
  rw [filter_flat, List.map_flatMap]
  congr 1
  funext p
  rw [filter_pred (fun p => fluB d p && denB d p)]
  by_cases h : fluB d p = true ∧ denB d p = true
  · rw [if_pos h, if_pos (by rw [h.1, h.2]; rfl)]
  · rw [if_neg h, if_neg (by simpa using h)]; rfl
theorem allAt_mem {d : Dom} {a : At} : a ∈ allAt d ↔ ∃ (p : Nat) (x : Prd), d.preds[p]? = some x ∧ a.pred = p ∧ a.args ∈ argL d x.types := by
  unfold allAt atomsK
  rw [List.mem_flatMap]
  constructor
  · rintro ⟨p, hp, ha⟩
    obtain ⟨x, hx⟩ := get_some (List.mem_range.1 hp)
    rw [predAt_some hx] at ha
    obtain ⟨b, hb, rfl⟩ := List.mem_map.1 ha
    exact ⟨p, x, hx, rfl, hb⟩
  · rintro ⟨p, x, hx, h1, h2⟩
    refine ⟨p, List.mem_range.2 (get_lt hx), ?_⟩
    rw [predAt_some hx]
    exact List.mem_map.2 ⟨a.args, h2, by cases a; simp only at h1; subst h1; rfl⟩
theorem factL_mem {d : Dom} {x : Lit} : x ∈ factL d ↔ x.at_ ∈ allAt d ∧ fluB d x.at_.pred = true ∧ (x.neg = true → denB d x.at_.pred = true) := by
  unfold factL
  rw [posK_eq, negK_eq, List.mem_append, List.mem_map, List.mem_map]
  change _ ↔ x.at_ ∈ atomsK d d.preds.length ∧ _
  constructor
  · rintro (⟨a, ha, rfl⟩ | ⟨a, ha, rfl⟩)
    · have := List.mem_filter.1 ha
      exact ⟨this.1, this.2, fun h => by cases h⟩
    · have := List.mem_filter.1 ha
      simp only [Bool.and_eq_true] at this
      exact ⟨this.1, this.2.1, fun _ => this.2.2⟩
  · rintro ⟨h1, h2, h3⟩
    cases x with
    | mk n a =>
      simp only at h1 h2 h3
      cases n with
      | false => exact .inl ⟨a, List.mem_filter.2 ⟨h1, h2⟩, rfl⟩
      | true => exact .inr ⟨a, List.mem_filter.2 ⟨h1, by rw [h2, h3 rfl]; rfl⟩, rfl⟩
structure DoVal (d : Dom) : Prop where
  ty : DoTy d
  ps : d.preds.length ≤ 8
  pt : ∀ x ∈ d.preds, x.types.length ≤ 3
  ss : d.schemas.length ≤ 8
  sc : ∀ s ∈ d.schemas, schSelf d s = 0
  ini : atomsCode d [] d.init 40 = 0
  goal : atomsCode d [] (d.goal.map Lit.at_) 8 = 0
theorem allAt_len {d : Dom} (h : DoVal d) : (allAt d).length ≤ 4096 := by
  unfold allAt atomsK
  refine Nat.le_trans (flatMap_len_le (n := 512) fun p hp => ?_) ?_
  · obtain ⟨x, hx⟩ := get_some (List.mem_range.1 hp)
    rw [predAt_some hx, List.length_map]
    exact argL_512 h.ty.ol (h.pt x (mem_get hx))
  · have := h.ps; simp only [List.length_range]; omega
structure SOp where
  pre : List Int
  add : List Int
  del : List Int
  cost : Int
structure STask where
  facts : Int
  init : List Int
  goal : List Int
  ops : List SOp
def soV (o : SOp) : V := .agg [.sl .p (o.pre.map i64V), .sl .p (o.add.map i64V), .sl .p (o.del.map i64V), .int .i64 o.cost]
def skV (t : STask) : V := .agg [.int .i64 t.facts, .sl .p (t.init.map i64V), .sl .p (t.goal.map i64V), .sl .p (t.ops.map soV)]
def skZ : STask := ⟨0, [], [], []⟩
structure SkOk (s : STask) : Prop where
  i : s.init.length ≤ 140737488355328
  g : s.goal.length ≤ 140737488355328
  o : s.ops.length ≤ 140737488355328
  e : ∀ o ∈ s.ops, o.pre.length ≤ 140737488355328 ∧ o.add.length ≤ 140737488355328 ∧ o.del.length ≤ 140737488355328
theorem supers_ind {l : List Typ} (hv : TyValid l) (Pr : Int → Prop) (h0 : ∀ t, t < 0 → Pr t) (h1 : ∀ (t : Int) (x : Typ), 0 ≤ t → t < l.length → l[t.toNat]? = some x → -1 ≤ x.parent → x.parent < t → Pr x.parent → Pr t) : ∀ t : Int, t < l.length → Pr t := by
  have key : ∀ (n : Nat) (t : Int), t < n → t < l.length → Pr t := by
    intro n
    induction n with
    | zero => intro t ht _; exact h0 t (by omega)
    | succ n ih =>
      intro t ht hl
      by_cases hn : t < 0
      · exact h0 t hn
      · obtain ⟨x, hx, _, h2, h3⟩ := parent_ok hv (by omega) hl
        exact h1 t x (by omega) hl hx h2 h3 (ih x.parent (by omega) (by omega))
  intro t ht
  exact key (t.toNat + 1) t (by omega) ht
theorem supers_range {l : List Typ} (hv : TyValid l) (t : Int) (h0 : -1 ≤ t) (h1 : t < l.length) : ∀ x ∈ supers l t, -1 ≤ x ∧ x ≤ t := by
  refine supers_ind hv (fun t => -1 ≤ t → ∀ x ∈ supers l t, -1 ≤ x ∧ x ≤ t) (fun t ht h0 x hx => ?_) (fun t x h0 h1 hx h2 h3 ih _ y hy => ?_) t h1 h0
  · rw [supers_neg ht] at hx
    simp at hx
    omega
  · rw [supers_cons hv h0 h1 hx] at hy
    rcases List.mem_cons.1 hy with rfl | hy
    · omega
    · have := ih h2 y hy; omega
theorem supers_split {l : List Typ} (hv : TyValid l) (t : Int) (h1 : t < l.length) : ∀ y ∈ supers l t, ∃ pre, supers l t = pre ++ supers l y ∧ ∀ z ∈ pre, y < z := by
  refine supers_ind hv (fun t => ∀ y ∈ supers l t, ∃ pre, supers l t = pre ++ supers l y ∧ ∀ z ∈ pre, y < z) (fun t ht y hy => ?_) (fun t x h0 h1 hx h2 h3 ih y hy => ?_) t h1
  · rw [supers_neg ht] at hy ⊢
    simp at hy
    subst hy
    exact ⟨[], by rw [supers_neg (by omega)]; rfl, fun z hz => by cases hz⟩
  · rw [supers_cons hv h0 h1 hx] at hy ⊢
    rcases List.mem_cons.1 hy with rfl | hy
    · exact ⟨[], by rw [supers_cons hv h0 h1 hx]; rfl, fun z hz => by cases hz⟩
    · obtain ⟨pre, e, hp⟩ := ih y hy
      refine ⟨t :: pre, by rw [e]; rfl, fun z hz => ?_⟩
      rcases List.mem_cons.1 hz with ez | hz
      · have := (supers_range hv x.parent h2 (by omega) y hy).2; omega
      · exact hp z hz
theorem subB_iff {l : List Typ} {a b : Int} : subB l a b = true ↔ b ∈ supers l a := by simp [subB]
theorem sub_trans {l : List Typ} (hv : TyValid l) {a b c : Int} (h1 : a < l.length) (h : subB l a b = true) (k : subB l b c = true) : subB l a c = true := by
  obtain ⟨pre, e, _⟩ := supers_split hv a h1 b (subB_iff.1 h)
  rw [subB_iff, e]
  exact List.mem_append.2 (.inr (subB_iff.1 k))
theorem atomsCode_all {d : Dom} {ps : List Int} {l : List At} {m : Nat} (h : atomsCode d ps l m = 0) : l.length ≤ m ∧ ∀ a ∈ l, atomCode d ps a = 0 := by
  unfold atomsCode at h
  split at h
  · cases h
  · exact ⟨by omega, fnz_all h⟩
structure SchVal (d : Dom) (s : Sch) : Prop where
  types : s.types.length ≤ 3 ∧ ∀ t ∈ s.types, -1 ≤ t ∧ t < d.types.length
  dl : s.diff.length ≤ 8
  diff : ∀ p ∈ s.diff, 0 ≤ p.1 ∧ p.1 < p.2 ∧ p.2 < s.types.length
  prel : s.pre.length ≤ 8
  pre : ∀ x ∈ s.pre, atomCode d s.types x.at_ = 0
  addl : s.add.length ≤ 8
  add : ∀ x ∈ s.add, atomCode d s.types x = 0
  dell : s.del.length ≤ 8
  del : ∀ x ∈ s.del, atomCode d s.types x = 0
  c0 : 0 ≤ s.cost
  c1 : s.cost ≤ 100
theorem schVal_of {d : Dom} {s : Sch} (h : schSelf d s = 0) : SchVal d s := by
  unfold schSelf at h
  split at h
  · rename_i h1; exact absurd h h1
  · rename_i h1
    split at h
    · cases h
    · rename_i h2
      split at h
      · cases h
      · rename_i h3
        split at h
        · rename_i h4; exact absurd h h4
        · rename_i h4
          split at h
          · rename_i h5; exact absurd h h5
          · rename_i h5
            split at h
            · rename_i h6; exact absurd h h6
            · rename_i h6
              split at h
              · cases h
              · rename_i h7
                have e4 := atomsCode_all (show atomsCode d s.types (s.pre.map Lit.at_) 8 = 0 by simpa using h4)
                have e5 := atomsCode_all (show atomsCode d s.types s.add 8 = 0 by simpa using h5)
                have e6 := atomsCode_all (show atomsCode d s.types s.del 8 = 0 by simpa using h6)
                refine ⟨paramsCode_ok (by simpa using h1), by omega, fun p hp => ?_, by simpa using e4.1, fun x hx => e4.2 _ (List.mem_map_of_mem hx), e5.1, e5.2, e6.1, e6.2, by omega, by omega⟩
                have h3 : s.diff.any (pairBad s.types.length) = false := by simpa using h3
                have := List.any_eq_false.1 h3 p hp
                simp only [pairBad, Bool.or_eq_true, decide_eq_true_eq, not_or] at this
                omega
theorem obB_code (n : Nat) (l : List Obj) (i : Nat) : ∀ f, obBad n l i = some f → f.code ≠ 0 := by
  intro f h
  unfold obBad at h
  split at h
  · cases h
  · repeat' split at h
    all_goals cases h
    all_goals simp
theorem obF_valid {n : Nat} {l : List Obj} (h : objectsFault n l = okF) : l.length ≤ 8 ∧ ∀ o ∈ l, -1 ≤ o.type ∧ o.type < n := by
  unfold objectsFault at h
  split at h
  · cases h
  · rename_i h8
    have hs := getD_ok (scan_prop (bad := obBad n l) (fun o => ∀ f, o = some f → f.code ≠ 0) (by simp) (fun i => obB_code n l i) l.length 0) h
    refine ⟨by omega, fun o ho => ?_⟩
    obtain ⟨i, hi, e⟩ := List.getElem_of_mem ho
    have hg : l[i]? = some o := by rw [← e]; exact List.getElem?_eq_getElem hi
    have := scan_all _ _ hs i (Nat.zero_le _) (by omega)
    unfold obBad at this
    rw [hg] at this
    simp only at this
    split at this
    · cases this
    · split at this
      · cases this
      · split at this
        · cases this
        · omega
theorem doTy_of' {d : Dom} (h1 : typesFault d.types = okF) (h2 : objectsFault d.types.length d.objects = okF) : DoTy d := by
  obtain ⟨h3, h4⟩ := obF_valid h2
  exact ⟨typesFault_valid h1, h3, h4⟩
theorem tyF_code {l : List Typ} (this : (typesFault l).code = 0) : typesFault l = okF := by
  unfold typesFault at this ⊢
  split at this
  · cases this
  · rename_i h8
    rw [if_neg h8]
    have hp := scan_prop (bad := tyBad l) (fun o => ∀ f, o = some f → f.code ≠ 0) (by simp) (fun i => tyBad_code l i) l.length 0
    cases hs : scan (tyBad l) 0 l.length with
    | none => rfl
    | some f => rw [hs] at this; exact absurd this (hp f hs)
theorem obF_code {n : Nat} {l : List Obj} (this : (objectsFault n l).code = 0) : objectsFault n l = okF := by
  unfold objectsFault at this ⊢
  split at this
  · cases this
  · rename_i h8
    rw [if_neg h8]
    have hp := scan_prop (bad := obBad n l) (fun o => ∀ f, o = some f → f.code ≠ 0) (by simp) (fun i f hf => by
      unfold obBad at hf
      split at hf
      · cases hf
      · repeat' split at hf
        all_goals first
          | (cases hf; done)
          | (cases hf; simp)) l.length 0
    cases hs : scan (obBad n l) 0 l.length with
    | none => rfl
    | some f => rw [hs] at this; exact absurd this (hp f hs)
theorem nzF_code' {f g : Nat → Int} {n : Nat} {x : Flt} (h : scan (nzF f g) 0 n = some x) : x.code ≠ 0 := by
  have := scan_prop (bad := nzF f g) (fun o => ∀ y, o = some y → y.code ≠ 0) (by simp) (fun i y hy => by
    unfold nzF at hy
    split at hy
    · cases hy
    · rename_i h; cases hy; exact h) n 0
  exact this x h
structure DomV (d : Dom) : Prop where
  types : typesFault d.types = okF
  objects : objectsFault d.types.length d.objects = okF
  ty : DoTy d
  pl : d.preds.length ≤ 8
  prd : ∀ i, i < d.preds.length → prdCode d i = 0
  sl : d.schemas.length ≤ 8
  sch : ∀ i, i < d.schemas.length → schCode d i = 0
  ini : atomsCode d [] d.init 40 = 0
  dup : ∀ i, i < d.init.length → dupBad d.init i = none
  goal : atomsCode d [] (d.goal.map Lit.at_) 8 = 0
theorem nzF_none {f g : Nat → Int} {n : Nat} (h : scan (nzF f g) 0 n = none) : ∀ i, i < n → f i = 0 := fun i hi => by
  have := scan_all _ _ h i (Nat.zero_le _) (by omega)
  unfold nzF at this
  split at this
  · assumption
  · cases this
theorem startCode_ok {d : Dom} (h : startCode d = 0) : atomsCode d [] d.init 40 = 0 ∧ ∀ i, i < d.init.length → dupBad d.init i = none := by
  unfold startCode at h
  split at h
  · rename_i h1; exact absurd h h1
  · rename_i h1
    refine ⟨by simpa using h1, fun i hi => ?_⟩
    have hn : scan (dupBad d.init) 0 d.init.length = none := by
      cases hs : scan (dupBad d.init) 0 d.init.length with
      | none => rfl
      | some e =>
        rw [hs] at h
        simp only [Option.getD_some] at h
        have := scan_prop (bad := dupBad d.init) (fun o => o ≠ some 0) (by simp) (fun i => by
          unfold dupBad
          split
          · simp
          · split <;> simp) d.init.length 0
        rw [hs, h] at this
        exact absurd rfl this
    exact scan_all _ _ hn i (Nat.zero_le _) (by omega)
theorem flt_ne {c i : Int} (h : c ≠ 0) : (⟨c, i⟩ : Flt) ≠ okF := fun e => h (congrArg Flt.code e)
theorem domV_of {d : Dom} (h : domFault d = okF) : DomV d := by
  unfold domFault at h
  split at h
  · rename_i h1; exact absurd h (flt_ne fun e => h1 (tyF_code e))
  · rename_i h1
    have h1 : typesFault d.types = okF := by simpa using h1
    split at h
    · rename_i h2; exact absurd h (flt_ne fun e => h2 (obF_code e))
    · rename_i h2
      have h2 : objectsFault d.types.length d.objects = okF := by simpa using h2
      split at h
      · cases h
      · rename_i h3
        split at h
        · rename_i f hf; exact absurd (by rw [h]; rfl) (nzF_code' hf)
        · rename_i h4
          split at h
          · cases h
          · rename_i h5
            split at h
            · rename_i f hf; exact absurd (by rw [h]; rfl) (nzF_code' hf)
            · rename_i h6
              split at h
              · rename_i h7; exact absurd h (flt_ne h7)
              · rename_i h7
                split at h
                · rename_i h8; exact absurd h (flt_ne h8)
                · rename_i h8
                  obtain ⟨s1, s2⟩ := startCode_ok (by simpa using h7)
                  exact ⟨h1, h2, doTy_of' h1 h2, by omega, nzF_none h4, by omega, nzF_none h6, s1, s2, by simpa using h8⟩
structure PrdVal (d : Dom) (i : Nat) (p : Prd) : Prop where
  name : nameB p.name = true
  no : p.name ≠ notS
  new : ∀ (j : Nat) (q : Prd), j < i → d.preds[j]? = some q → q.name ≠ p.name
  types : p.types.length ≤ 3 ∧ ∀ t ∈ p.types, -1 ≤ t ∧ t < d.types.length
theorem any_take_name {α : Type} {f : α → List UInt8} {l : List α} {i : Nat} {s : List UInt8} (h : ¬ (l.take i).any (fun q => f q == s) = true) : ∀ (j : Nat) (q : α), j < i → l[j]? = some q → f q ≠ s := fun j q hj hq e => h (by
  refine List.any_eq_true.2 ⟨q, ?_, by simpa using e⟩
  have : (l.take i)[j]? = some q := by rw [List.getElem?_take, if_pos hj, hq]
  exact List.mem_of_getElem? this)
theorem prdVal_of {d : Dom} (h : DomV d) {i : Nat} {p : Prd} (hp : d.preds[i]? = some p) : PrdVal d i p := by
  have := h.prd i (get_lt hp)
  unfold prdCode at this
  rw [hp] at this
  simp only at this
  split at this
  · cases this
  · rename_i h1
    split at this
    · cases this
    · rename_i h2
      simp only [not_or, Bool.not_eq_false] at h1
      exact ⟨h1.1, h1.2, any_take_name h2, paramsCode_ok this⟩
structure SchV2 (d : Dom) (i : Nat) (s : Sch) : Prop where
  name : nameB s.name = true
  new : ∀ (j : Nat) (q : Sch), j < i → d.schemas[j]? = some q → q.name ≠ s.name
  val : SchVal d s
theorem schV2_of {d : Dom} (h : DomV d) {i : Nat} {s : Sch} (hs : d.schemas[i]? = some s) : SchV2 d i s := by
  have := h.sch i (get_lt hs)
  unfold schCode at this
  rw [hs] at this
  simp only at this
  split at this
  · cases this
  · rename_i h1
    split at this
    · cases this
    · rename_i h2
      exact ⟨by simpa using h1, any_take_name h2, schVal_of this⟩
theorem domFault_code' (d : Dom) : (domFault d).code = 0 ↔ domFault d = okF := by
  have key : ∀ c i : Int, c ≠ 0 → ((⟨c, i⟩ : Flt).code = 0 ↔ (⟨c, i⟩ : Flt) = okF) := fun c i h => ⟨fun h1 => absurd h1 h, fun h1 => absurd (congrArg Flt.code h1) h⟩
  have key2 : ∀ x : Flt, x.code ≠ 0 → (x.code = 0 ↔ x = okF) := fun x h => ⟨fun h1 => absurd h1 h, fun h1 => absurd (congrArg Flt.code h1) h⟩
  unfold domFault
  split
  · rename_i h; exact key _ _ fun h1 => h (tyF_code h1)
  · split
    · rename_i h; exact key _ _ fun h1 => h (obF_code h1)
    · split
      · exact key _ _ (by decide)
      · split
        · rename_i f hf; exact key2 _ (nzF_code' hf)
        · split
          · exact key _ _ (by decide)
          · split
            · rename_i f hf; exact key2 _ (nzF_code' hf)
            · split
              · rename_i h; exact key _ _ h
              · split
                · rename_i h; exact key _ _ h
                · simp [okF]
section
variable {G : Type} {H : HT G}
def YB (H : HT G) : List (List V) → G → (Bool → G → Prop) → Prop
  | [], g, K => K true g
  | as_ :: r, g, K => H as_ g fun u g' => (u = .bool true ∧ YB H r g' K) ∨ (u = .bool false ∧ K false g')
theorem YB_mono (hM : MonoH H) : ∀ (l : List (List V)) (g : G) (K K' : Bool → G → Prop), (∀ b g, K b g → K' b g) → YB H l g K → YB H l g K'
  | [], _, _, _, hk, h => hk _ _ h
  | a :: r, g, K, K', hk, h => hM _ _ _ _ (fun u g' h => by
    rcases h with ⟨h1, h2⟩ | ⟨h1, h2⟩
    · exact .inl ⟨h1, YB_mono hM r g' K K' hk h2⟩
    · exact .inr ⟨h1, hk _ _ h2⟩) h
theorem YB_append (hM : MonoH H) : ∀ (l m : List (List V)) (g : G) (K : Bool → G → Prop), YB H (l ++ m) g K → YB H l g (fun b g' => (b = true ∧ YB H m g' K) ∨ (b = false ∧ K false g'))
  | [], m, g, K, h => .inl ⟨rfl, h⟩
  | a :: r, m, g, K, h => hM _ _ _ _ (fun u g' h => by
    rcases h with ⟨h1, h2⟩ | ⟨h1, h2⟩
    · exact .inl ⟨h1, YB_append hM r m g' K h2⟩
    · exact .inr ⟨h1, .inr ⟨rfl, h2⟩⟩) h
theorem YB_of_YL (hM : MonoH H) : ∀ (l : List (List V)) (g : G) (K : G → Prop), YL H l g K → YB H l g fun _ => K
  | [], g, K, h => h
  | a :: r, g, K, h => hM _ _ _ _ (fun u g' h => by
    rcases h with ⟨h1, h2⟩ | ⟨h1, h2⟩
    · exact .inl ⟨h1, YB_of_YL hM r g' K h2⟩
    · exact .inr ⟨h1, h2⟩) h
end
theorem YL_walk {G : Type} {H : HT G} (hM : MonoH H) {α : Type} {f : α → List V} (st : Nat → G) {K : G → Prop} : ∀ (l : List α) (n : Nat), (∀ (i : Nat) (c : α), l[i]? = some c → ∀ K' : V → G → Prop, K' (.bool true) (st (n + i + 1)) → H (f c) (st (n + i)) K') → K (st (n + l.length)) → YL H (l.map f) (st n) K
  | [], n, _, h => h
  | c :: r, n, hH, h => by
    refine hH 0 c rfl _ (.inl ⟨rfl, ?_⟩)
    refine YL_walk hM st r (n + 1) (fun i c' hc K' hk => ?_) (by rw [List.length_cons] at h; rw [show n + 1 + r.length = n + (r.length + 1) by omega]; exact h)
    have := hH (i + 1) c' (by simpa using hc) K' (by rw [show n + (i + 1) + 1 = n + 1 + i + 1 by omega]; exact hk)
    rw [show n + 1 + i = n + (i + 1) by omega]
    exact this
theorem YL_pass {G G' : Type} {H : HT G} {H' : HT G'} (hM : MonoH H) (hM' : MonoH H') {α β : Type} {f : α → List V} {h : β → List V} (p : α → Option β) (s0 : G → G') (s1 : G → G') {K' : G' → Prop} : ∀ (l : List α) (g : G),
    (∀ c ∈ l, ∀ (g : G) (K : V → G' → Prop), (match p c with
      | none => K (.bool true) (s0 g)
      | some b => H (h b) g fun u g' => (u = .bool true ∧ K (.bool true) (s0 g')) ∨ (u = .bool false ∧ K (.bool false) (s1 g'))) → H' (f c) (s0 g) K) →
    YB H ((l.filterMap p).map h) g (fun b g' => K' (bif b then s0 g' else s1 g')) → YL H' (l.map f) (s0 g) K'
  | [], g, _, hy => hy
  | c :: r, g, hH, hy => by
    have ih := fun g => YL_pass hM hM' p s0 s1 (K' := K') r g (fun c hc => hH c (by simp [hc]))
    refine hH c (by simp) g _ ?_
    cases hp : p c with
    | none =>
      simp only
      rw [List.filterMap_cons, hp] at hy
      exact .inl ⟨by trivial, ih g hy⟩
    | some b =>
      simp only
      rw [List.filterMap_cons, hp] at hy
      refine hM _ _ _ _ (fun u g' hu => ?_) hy
      rcases hu with ⟨rfl, hu⟩ | ⟨rfl, hu⟩
      · exact .inl ⟨rfl, .inl ⟨by trivial, ih g' hu⟩⟩
      · exact .inr ⟨rfl, .inr ⟨by trivial, hu⟩⟩
theorem i_cs {G : Type} {P : Program} {H : HT G} {pn : List Nat} {Q : Exit → Env → Store → G → Prop} {fs : List (Frm G)} {r : List GItem} {ρ : Env} {σ : Store} {g : G} {dst : Option Nat} {f : Opd} {args : List Opd} {fid : Nat} {av : List V} {ns : List Nat} {L : List (Nat × Blk)}
    (hf : calv ρ f args = some (fid, av)) (hcl : closedL ns av = true) (hcs : closedSt ns σ ns = true) (hL : ns.map (fun nm => (nm, σ nm)) = L) {K : V → Store → G → Prop} (hc : Cc P H fid av ns (stOf L) g K)
    (h : ∀ v σ' g', K v σ' g' → WI P H pn Q fs r (put ρ dst v) (Hm.merge ns σ σ') g') : WI P H pn Q fs (.op dst none (.call (.s ns) f args) :: r) ρ σ g :=
  i_c hf hcl hcs (by rw [restr_stOf, hL]; exact hc) h
end Hm
end
